/- Written by a program of this session: what one law needs. -/
import Derived.Test.YtmahlfjnejbcnaaTopSeasonsn13
set_option maxHeartbeats 8000000
set_option maxRecDepth 100000
set_option linter.unusedSimpArgs false
set_option linter.unusedVariables false
section
namespace Go.Proofs.Ytmahlfjnejbcnaa.PAll
open Go.RowKit YtmahlfjnejbcnaaW.PrintWords YtmahlfjnejbcnaaW.PrintLast YtmahlfjnejbcnaaW.PrintMore More2 Sq
attribute [local go_sem] max2_int min2_int max_two min_two max_three min_three max_four min_four tdiv2e18_ tdiv1e18_ cellSS_  -- for this text's walks alone
mutual
def trig_acute.l0 : Nat → Int → Int → Option (Int)
 | 0, _, _ => none
 | k + 1, x0, x1 => if x1 ≥ 2147483648 then (trig_acute.l0 k (x0 / 2) (x1 / 2)) else (trig_acute.l1 k x0 x1)
def trig_acute.l1 : Nat → Int → Int → Option (Int)
 | 0, _, _ => none
 | k + 1, x0, x1 => if x1 < 1073741824 then (trig_acute.l1 k (wrap64 (x0 * 2)) (wrap64 (x1 * 2))) else (if x1 = 0 then (none) else (trig_acute.l2 k (wrap64 (Int.tdiv (wrap64 (x0 * 2147483648)) x1)) ((wrap64 ((wrap64 (Int.tdiv (wrap64 (x0 * 2147483648)) x1)) * 125000000)) / 2147483648) 0))
def trig_acute.l2 : Nat → Int → Int → Int → Option (Int)
 | 0, _, _, _ => none
 | k + 1, x5, x6, x30 => if x30 < 4 then ((trig_octant.f k x6).bind fun bt352 => (if (wrap64 (Int.tdiv (wrap64 ((wrap64 ((bt352.2 / 1073741824) * 2147483648)) + (wrap64 (x5 * (bt352.1 / 1073741824))))) 159154943)) = 0 then (none) else (trig_acute.l2 k x5 (mx 0 (mn 125000000 (wrap64 (x6 - (wrap64 (Int.tdiv (wrap64 ((wrap64 ((bt352.1 / 1073741824) * 2147483648)) - (wrap64 (x5 * (bt352.2 / 1073741824))))) (wrap64 (Int.tdiv (wrap64 ((wrap64 ((bt352.2 / 1073741824) * 2147483648)) + (wrap64 (x5 * (bt352.1 / 1073741824))))) 159154943)))))))) (wrap64 (x30 + 1))))) else (trig_acute.l3 k x5 x6)
def trig_acute.j4 : Nat → Int → Int → Option (Int)
 | 0, _, _ => none
 | k + 1, x5, x6 => trig_acute.l4 k x5 x6
def trig_acute.l4 : Nat → Int → Int → Option (Int)
 | 0, _, _ => none
 | k + 1, x5, x6 => if x6 < 125000000 then ((trig_reaches.f k x5 (wrap64 (x6 + 1))).bind fun t355 => (if t355 = true then (trig_acute.l4 k x5 (wrap64 (x6 + 1))) else (some x6))) else (some x6)
def trig_acute.l3 : Nat → Int → Int → Option (Int)
 | 0, _, _ => none
 | k + 1, x5, x6 => if x6 > 0 then ((trig_reaches.f k x5 x6).bind fun t354 => (if t354 = true then (trig_acute.j4 k x5 x6) else (trig_acute.l3 k x5 (wrap64 (x6 - 1))))) else (trig_acute.j4 k x5 x6)
end
def trig_acute.f (k : Nat) (a0 : Int) (a1 : Int) : Option (Int) := trig_acute.l0 k a0 a1
theorem trig_acute.calls (k : Nat) (a0 : Int) (a1 : Int) (r : Int) (w : World) (h : trig_acute.f k a0 a1 = some r) :
  Calls Try.prog 104 #[.int .i64 a0, .int .i64 a1] w fun e w' => e = .returned (.int .i64 r) ∧ Below w.heap.size w w' := by
 have HB := Aside0.mk (Below.refl w.heap.size w)
 have H : (trig_acute.l0 k a0 a1) = some r := h
 clear h
 have H' := Aside0.mk H
 clear H
 go_enter Try.func104, Try.ntmps104
 go_wp2
 go_loopg [0, 1] k (fun kq v0 v1 w' => ∃ (x0_1 : Int) (x1_1 : Int), v0 = .int .i64 x0_1 ∧ v1 = .int .i64 x1_1 ∧ Aside0 (trig_acute.l0 kq x0_1 x1_1 = some r) ∧ Aside0 (kq ≤ k) ∧ Aside0 (Below w.heap.size w w'))
 case atStart => exact ⟨(a0), (a1), (by first | rfl | (simp; done) | (simp [*]; done)), (by first | rfl | (simp; done) | (simp [*]; done)), H', ⟨Nat.le_refl _⟩, (be_ HB)⟩
 case round =>
  clear H'
  try clear c1
  try clear p2
  obtain ⟨x0_1, x1_1, rfl, rfl, HA, HK1, HB⟩ := hrel
  cases gk with
  | zero => exact absurd HA.out (by simp [trig_acute.l0])
  | succ k1 =>
   have H := HA.out
   clear HA
   simp only [trig_acute.l0] at H
   by_cases c3 : x1_1 ≥ 2147483648
   ·rw [if_pos c3] at H
    have c3b0 : decide (2147483648 ≤ x1_1) = true := decide_eq_true c3
    clear c3
    have H' := Aside0.mk H
    clear H
    go_wp2
    go_roundg k1
    case measure => have := HK1.out; omega
    case rel => exact ⟨(x0_1 / 2), (x1_1 / 2), (by first | rfl | (simp; done) | (simp [*]; done)), (by first | rfl | (simp; done) | (simp [*]; done)), H', ⟨by have := HK1.out; omega⟩, (be_ HB)⟩
   ·rw [if_neg c3] at H
    have c3b0 : decide (2147483648 ≤ x1_1) = false := decide_eq_false c3
    clear c3
    have H' := Aside0.mk H
    clear H
    go_wp2
    go_loopg [0, 1] k1 (fun kq v0 v1 w' => ∃ (x0_2 : Int) (x1_2 : Int), v0 = .int .i64 x0_2 ∧ v1 = .int .i64 x1_2 ∧ Aside0 (trig_acute.l1 kq x0_2 x1_2 = some r) ∧ Aside0 (kq ≤ k1) ∧ Aside0 (Below w.heap.size w w'))
    case atStart => exact ⟨(x0_1), (x1_1), (by first | rfl | (simp; done) | (simp [*]; done)), (by first | rfl | (simp; done) | (simp [*]; done)), H', ⟨Nat.le_refl _⟩, (be_ HB)⟩
    case round =>
     clear H'
     try clear c1
     try clear p2
     try clear c3
     try clear c3b0
     try clear p2
     obtain ⟨x0_2, x1_2, rfl, rfl, HA, HK2, HB⟩ := hrel
     cases gk with
     | zero => exact absurd HA.out (by simp [trig_acute.l1])
     | succ k2 =>
      have H := HA.out
      clear HA
      simp only [trig_acute.l1] at H
      by_cases c4 : x1_2 < 1073741824
      ·rw [if_pos c4] at H
       have c4b0 : decide (x1_2 < 1073741824) = true := decide_eq_true c4
       clear c4
       have H' := Aside0.mk H
       clear H
       go_wp2
       go_roundg k2
       case measure => have := HK1.out; have := HK2.out; omega
       case rel => exact ⟨(wrap64 (x0_2 * 2)), (wrap64 (x1_2 * 2)), (by first | rfl | (simp; done) | (simp [*]; done)), (by first | rfl | (simp; done) | (simp [*]; done)), H', ⟨by have := HK1.out; have := HK2.out; omega⟩, (be_ HB)⟩
      ·rw [if_neg c4] at H
       have c4b0 : decide (x1_2 < 1073741824) = false := decide_eq_false c4
       clear c4
       by_cases c5 : x1_2 = 0
       ·rw [if_pos c5] at H
        exact absurd H (by simp)
       ·rw [if_neg c5] at H
        have c5b0 : (x1_2 == 0) = false := beq_eq_false_iff_ne.mpr c5
        have c5b1 : (x1_2 != 0) = true := bne_iff_ne.mpr c5
        have H' := Aside0.mk H
        clear H
        go_wp2
        go_loopg [6, 30] k2 (fun kq v6 v30 w' => ∃ (x6_3 : Int) (x30_3 : Int), v6 = .int .i64 x6_3 ∧ v30 = .int .i64 x30_3 ∧ Aside0 (trig_acute.l2 kq (wrap64 (Int.tdiv (wrap64 (x0_2 * 2147483648)) x1_2)) x6_3 x30_3 = some r) ∧ Aside0 (kq ≤ k2) ∧ Aside0 (Below w.heap.size w w'))
        case atStart => exact ⟨((wrap64 ((wrap64 (Int.tdiv (wrap64 (x0_2 * 2147483648)) x1_2)) * 125000000)) / 2147483648), (0), (by first | rfl | (simp; done) | (simp [*]; done)), (by first | rfl | (simp; done) | (simp [*]; done)), H', ⟨Nat.le_refl _⟩, (be_ HB)⟩
        case round =>
         clear H'
         try clear c1
         try clear p2
         try clear c3
         try clear c3b0
         try clear c4
         try clear c4b0
         try clear c5
         try clear c5b0
         try clear c5b1
         try clear p2
         obtain ⟨x6_3, x30_3, rfl, rfl, HA, HK3, HB⟩ := hrel
         cases gk with
         | zero => exact absurd HA.out (by simp [trig_acute.l2])
         | succ k3 =>
          have H := HA.out
          clear HA
          simp only [trig_acute.l2] at H
          by_cases c6 : x30_3 < 4
          ·rw [if_pos c6] at H
           have c6b0 : decide (x30_3 < 4) = true := decide_eq_true c6
           clear c6
           replace H := Option.bind_eq_some_iff.mp H
           obtain ⟨⟨t352, t353⟩, A70, H⟩ := H
           replace H : (if (wrap64 (Int.tdiv (wrap64 ((wrap64 ((t353 / 1073741824) * 2147483648)) + (wrap64 ((wrap64 (Int.tdiv (wrap64 (x0_2 * 2147483648)) x1_2)) * (t352 / 1073741824))))) 159154943)) = 0 then (none) else (trig_acute.l2 k3 (wrap64 (Int.tdiv (wrap64 (x0_2 * 2147483648)) x1_2)) (mx 0 (mn 125000000 (wrap64 (x6_3 - (wrap64 (Int.tdiv (wrap64 ((wrap64 ((t352 / 1073741824) * 2147483648)) - (wrap64 ((wrap64 (Int.tdiv (wrap64 (x0_2 * 2147483648)) x1_2)) * (t353 / 1073741824))))) (wrap64 (Int.tdiv (wrap64 ((wrap64 ((t353 / 1073741824) * 2147483648)) + (wrap64 ((wrap64 (Int.tdiv (wrap64 (x0_2 * 2147483648)) x1_2)) * (t352 / 1073741824))))) 159154943)))))))) (wrap64 (x30_3 + 1)))) = some r := H
           have A7 := Aside0.mk A70
           clear A70
           by_cases c8 : (wrap64 (Int.tdiv (wrap64 ((wrap64 ((t353 / 1073741824) * 2147483648)) + (wrap64 ((wrap64 (Int.tdiv (wrap64 (x0_2 * 2147483648)) x1_2)) * (t352 / 1073741824))))) 159154943)) = 0
           ·rw [if_pos c8] at H
            exact absurd H (by simp)
           ·rw [if_neg c8] at H
            have c8b0 : ((wrap64 (Int.tdiv (wrap64 ((wrap64 ((t353 / 1073741824) * 2147483648)) + (wrap64 ((wrap64 (Int.tdiv (wrap64 (x0_2 * 2147483648)) x1_2)) * (t352 / 1073741824))))) 159154943)) == 0) = false := beq_eq_false_iff_ne.mpr c8
            have c8b1 : ((wrap64 (Int.tdiv (wrap64 ((wrap64 ((t353 / 1073741824) * 2147483648)) + (wrap64 ((wrap64 (Int.tdiv (wrap64 (x0_2 * 2147483648)) x1_2)) * (t352 / 1073741824))))) 159154943)) != 0) = true := bne_iff_ne.mpr c8
            obtain ⟨ji9, hji9⟩ : ∃ j_ : Int, (mn 125000000 (wrap64 (x6_3 - (wrap64 (Int.tdiv (wrap64 ((wrap64 ((t352 / 1073741824) * 2147483648)) - (wrap64 ((wrap64 (Int.tdiv (wrap64 (x0_2 * 2147483648)) x1_2)) * (t353 / 1073741824))))) (wrap64 (Int.tdiv (wrap64 ((wrap64 ((t353 / 1073741824) * 2147483648)) + (wrap64 ((wrap64 (Int.tdiv (wrap64 (x0_2 * 2147483648)) x1_2)) * (t352 / 1073741824))))) 159154943))))))) = j_ := ⟨_, rfl⟩
            replace H : (trig_acute.l2 k3 (wrap64 (Int.tdiv (wrap64 (x0_2 * 2147483648)) x1_2)) (mx 0 (ji9)) (wrap64 (x30_3 + 1))) = some r := by first | (rw [hji9] at H; exact H) | (simp only [hji9] at H ⊢; exact H)
            (try rw [hji9] at A7)
            have hji9_ : (if (wrap64 (x6_3 - (wrap64 (Int.tdiv (wrap64 ((wrap64 ((t352 / 1073741824) * 2147483648)) - (wrap64 ((wrap64 (Int.tdiv (wrap64 (x0_2 * 2147483648)) x1_2)) * (t353 / 1073741824))))) (wrap64 (Int.tdiv (wrap64 ((wrap64 ((t353 / 1073741824) * 2147483648)) + (wrap64 ((wrap64 (Int.tdiv (wrap64 (x0_2 * 2147483648)) x1_2)) * (t352 / 1073741824))))) 159154943)))))) < 125000000 then (wrap64 (x6_3 - (wrap64 (Int.tdiv (wrap64 ((wrap64 ((t352 / 1073741824) * 2147483648)) - (wrap64 ((wrap64 (Int.tdiv (wrap64 (x0_2 * 2147483648)) x1_2)) * (t353 / 1073741824))))) (wrap64 (Int.tdiv (wrap64 ((wrap64 ((t353 / 1073741824) * 2147483648)) + (wrap64 ((wrap64 (Int.tdiv (wrap64 (x0_2 * 2147483648)) x1_2)) * (t352 / 1073741824))))) 159154943)))))) else 125000000) = ji9 := hji9
            obtain ⟨ji10, hji10⟩ : ∃ j_ : Int, (mx 0 (ji9)) = j_ := ⟨_, rfl⟩
            replace H : (trig_acute.l2 k3 (wrap64 (Int.tdiv (wrap64 (x0_2 * 2147483648)) x1_2)) ji10 (wrap64 (x30_3 + 1))) = some r := by first | (rw [hji10] at H; exact H) | (simp only [hji10] at H ⊢; exact H)
            (try rw [hji10] at A7)
            have hji10_ : (if 0 < (ji9) then (ji9) else 0) = ji10 := hji10
            have H' := Aside0.mk H
            clear H
            go_wp2_with (first | ((with_reducible refine gate_callee (f := 93) rfl ?_); refine goesL_ (some 34) rfl rfl Try.func93 (by kernel_rfl) rfl #[.int .i64 x6_3] rfl (by (try simp only [List.map_toArray, List.map_cons, List.map_nil]); first | done | rfl | (simp only [List.length_drop, List.length_take]; rfl)) ?_; (with_reducible refine (trig_octant.calls k3 x6_3 t352 t353 _ A7.out).mono ?_); rintro e w11 ⟨rfl, hb⟩; refine ⟨_, rfl, ?_⟩; replace HB := bs_ HB hb; (try clear hb); (try clear hb2); (try clear hk); (try clear hi)))
            go_roundg k3
            case measure => have := HK1.out; have := HK2.out; have := HK3.out; omega
            case rel => exact ⟨(ji10), (wrap64 (x30_3 + 1)), (by first | rfl | (simp; done) | (simp only [← hji10] <;> (first | rfl | simp)) | (simp [*]; done)), (by first | rfl | (simp; done) | (simp [*]; done)), H', ⟨by have := HK1.out; have := HK2.out; have := HK3.out; omega⟩, (be_ HB)⟩
          ·rw [if_neg c6] at H
           have c6b0 : decide (x30_3 < 4) = false := decide_eq_false c6
           clear c6
           have HC12 := Aside0.mk H
           clear H
           go_upto_block 6 with (fail)
           go_cut [6] (fun v6 wc => ∃ (kq : Nat) (x6_11 : Int), v6 = .int .i64 x6_11 ∧ Aside0 (trig_acute.j4 kq (wrap64 (Int.tdiv (wrap64 (x0_2 * 2147483648)) x1_2)) x6_11 = some r) ∧ Aside0 (kq ≤ k3) ∧ Aside0 (Below w.heap.size w wc))
           case first =>
            have H := HC12.out
            clear HC12
            have H' := Aside0.mk H
            clear H
            go_wp2
            go_loopg [6] k3 (fun kq v6 w' => ∃ (x6_4 : Int), v6 = .int .i64 x6_4 ∧ Aside0 (trig_acute.l3 kq (wrap64 (Int.tdiv (wrap64 (x0_2 * 2147483648)) x1_2)) x6_4 = some r) ∧ Aside0 (kq ≤ k3) ∧ Aside0 (Below w.heap.size w w'))
            case atStart => exact ⟨(x6_3), (by first | rfl | (simp; done) | (simp [*]; done)), H', ⟨Nat.le_refl _⟩, (be_ HB)⟩
            case round =>
             clear H'
             try clear c1
             try clear p2
             try clear c3
             try clear c3b0
             try clear c4
             try clear c4b0
             try clear c5
             try clear c5b0
             try clear c5b1
             try clear c6
             try clear c6b0
             try clear p6
             try clear c8
             try clear c8b0
             try clear c8b1
             try clear c9
             try clear c10
             try clear p2
             obtain ⟨x6_4, rfl, HA, HK4, HB⟩ := hrel
             cases gk with
             | zero => exact absurd HA.out (by simp [trig_acute.l3])
             | succ k4 =>
              have H := HA.out
              clear HA
              simp only [trig_acute.l3] at H
              by_cases c13 : x6_4 > 0
              ·rw [if_pos c13] at H
               have c13b0 : decide (0 < x6_4) = true := decide_eq_true c13
               clear c13
               (first | rw [c13b0] | (simp only [i64_w, i32_w]; rw [c13b0]) | skip)
               replace H := Option.bind_eq_some_iff.mp H
               obtain ⟨t354, A140, H⟩ := H
               replace H : (if t354 = true then (trig_acute.j4 k4 (wrap64 (Int.tdiv (wrap64 (x0_2 * 2147483648)) x1_2)) x6_4) else (trig_acute.l3 k4 (wrap64 (Int.tdiv (wrap64 (x0_2 * 2147483648)) x1_2)) (wrap64 (x6_4 - 1)))) = some r := H
               have A14 := Aside0.mk A140
               clear A140
               by_cases c15 : t354 = true
               ·subst c15
                have H1 : (trig_acute.j4 k4 (wrap64 (Int.tdiv (wrap64 (x0_2 * 2147483648)) x1_2)) x6_4) = some r := by rw [if_pos rfl] at H; exact H
                clear H
                have H := H1
                clear H1
                have H' := Aside0.mk H
                clear H
                go_wp2_with (first | (go_at_call 106; (with_reducible refine (trig_reaches.calls k4 (wrap64 (Int.tdiv (wrap64 (x0_2 * 2147483648)) x1_2)) x6_4 true _ A14.out).mono ?_); rintro e w16 ⟨rfl, hb⟩; replace HB := bs_ HB hb; (try clear hb); (try clear hb2); (try clear hk); (try clear hi)))
                go_meet
                case rel => exact ⟨_, (x6_4), (by first | rfl | (simp; done) | (simp [*]; done)), H', ⟨by have := HK1.out; have := HK2.out; have := HK3.out; have := HK4.out; first | omega | exact Nat.le_refl _⟩, (be_ HB)⟩
               ·replace c15 := Bool.eq_false_iff.mpr c15
                subst c15
                have H1 : (trig_acute.l3 k4 (wrap64 (Int.tdiv (wrap64 (x0_2 * 2147483648)) x1_2)) (wrap64 (x6_4 - 1))) = some r := by rw [if_neg (show ¬ (false = true) by decide)] at H; exact H
                clear H
                have H := H1
                clear H1
                have H' := Aside0.mk H
                clear H
                go_wp2_with (first | (go_at_call 106; (with_reducible refine (trig_reaches.calls k4 (wrap64 (Int.tdiv (wrap64 (x0_2 * 2147483648)) x1_2)) x6_4 false _ A14.out).mono ?_); rintro e w17 ⟨rfl, hb⟩; replace HB := bs_ HB hb; (try clear hb); (try clear hb2); (try clear hk); (try clear hi)))
                go_roundg k4
                case measure => have := HK1.out; have := HK2.out; have := HK3.out; have := HK4.out; omega
                case rel => exact ⟨(wrap64 (x6_4 - 1)), (by first | rfl | (simp; done) | (simp [*]; done)), H', ⟨by have := HK1.out; have := HK2.out; have := HK3.out; have := HK4.out; omega⟩, (be_ HB)⟩
              ·rw [if_neg c13] at H
               have c13b0 : decide (0 < x6_4) = false := decide_eq_false c13
               clear c13
               (first | rw [c13b0] | (simp only [i64_w, i32_w]; rw [c13b0]) | skip)
               have H' := Aside0.mk H
               clear H
               go_wp2
               go_meet
               case rel => exact ⟨_, (x6_4), (by first | rfl | (simp; done) | (simp [*]; done)), H', ⟨by have := HK1.out; have := HK2.out; have := HK3.out; have := HK4.out; first | omega | exact Nat.le_refl _⟩, (be_ HB)⟩
           case rest =>
            clear HC12
            try clear c1
            try clear p2
            try clear c3
            try clear c3b0
            try clear c4
            try clear c4b0
            try clear c5
            try clear c5b0
            try clear c5b1
            try clear c6
            try clear c6b0
            try clear p6
            try clear c8
            try clear c8b0
            try clear c8b1
            try clear c9
            try clear c10
            try clear c13
            try clear c13b0
            try clear c15
            try clear p2
            try clear p6
            obtain ⟨kq, x6_11, rfl, HA, HJ11, HB⟩ := hcut
            cases kq with
            | zero => exact absurd HA.out (by simp [trig_acute.j4])
            | succ kj11 =>
             have H := HA.out
             clear HA
             simp only [trig_acute.j4] at H
             have H' := Aside0.mk H
             clear H
             go_wp2
             go_loopg [6] kj11 (fun kq v6 w' => ∃ (x6_5 : Int), v6 = .int .i64 x6_5 ∧ Aside0 (trig_acute.l4 kq (wrap64 (Int.tdiv (wrap64 (x0_2 * 2147483648)) x1_2)) x6_5 = some r) ∧ Aside0 (kq ≤ kj11) ∧ Aside0 (Below w.heap.size w w'))
             case atStart => exact ⟨(x6_11), (by first | rfl | (simp; done) | (simp [*]; done)), H', ⟨Nat.le_refl _⟩, (be_ HB)⟩
             case round =>
              clear H'
              try clear c1
              try clear p2
              try clear c3
              try clear c3b0
              try clear c4
              try clear c4b0
              try clear c5
              try clear c5b0
              try clear c5b1
              try clear c6
              try clear c6b0
              try clear p6
              try clear c8
              try clear c8b0
              try clear c8b1
              try clear c9
              try clear c10
              try clear c13
              try clear c13b0
              try clear c15
              try clear p2
              try clear p6
              obtain ⟨x6_5, rfl, HA, HK5, HB⟩ := hrel
              cases gk with
              | zero => exact absurd HA.out (by simp [trig_acute.l4])
              | succ k5 =>
               have H := HA.out
               clear HA
               simp only [trig_acute.l4] at H
               by_cases c18 : x6_5 < 125000000
               ·rw [if_pos c18] at H
                have c18b0 : decide (x6_5 < 125000000) = true := decide_eq_true c18
                clear c18
                replace H := Option.bind_eq_some_iff.mp H
                obtain ⟨t355, A190, H⟩ := H
                replace H : (if t355 = true then (trig_acute.l4 k5 (wrap64 (Int.tdiv (wrap64 (x0_2 * 2147483648)) x1_2)) (wrap64 (x6_5 + 1))) else (some x6_5)) = some r := H
                have A19 := Aside0.mk A190
                clear A190
                by_cases c20 : t355 = true
                ·subst c20
                 have H1 : (trig_acute.l4 k5 (wrap64 (Int.tdiv (wrap64 (x0_2 * 2147483648)) x1_2)) (wrap64 (x6_5 + 1))) = some r := by rw [if_pos rfl] at H; exact H
                 clear H
                 have H := H1
                 clear H1
                 have H' := Aside0.mk H
                 clear H
                 go_wp2_with (first | (go_at_call 106; (with_reducible refine (trig_reaches.calls k5 (wrap64 (Int.tdiv (wrap64 (x0_2 * 2147483648)) x1_2)) (wrap64 (x6_5 + 1)) true _ A19.out).mono ?_); rintro e w21 ⟨rfl, hb⟩; replace HB := bs_ HB hb; (try clear hb); (try clear hb2); (try clear hk); (try clear hi)))
                 go_roundg k5
                 case measure => have := HK1.out; have := HK2.out; have := HK3.out; have := HJ11.out; have := HK5.out; omega
                 case rel => exact ⟨(wrap64 (x6_5 + 1)), (by first | rfl | (simp; done) | (simp [*]; done)), H', ⟨by have := HK1.out; have := HK2.out; have := HK3.out; have := HJ11.out; have := HK5.out; omega⟩, (be_ HB)⟩
                ·replace c20 := Bool.eq_false_iff.mpr c20
                 subst c20
                 have H1 : (some x6_5) = some r := by rw [if_neg (show ¬ (false = true) by decide)] at H; exact H
                 clear H
                 have H := H1
                 clear H1
                 obtain rfl := Option.some.inj H
                 simp only [Option.some.injEq, Prod.mk.injEq] at H
                 obtain ⟨rfl⟩ := H
                 go_wp2_with (first | (go_at_call 106; (with_reducible refine (trig_reaches.calls k5 (wrap64 (Int.tdiv (wrap64 (x0_2 * 2147483648)) x1_2)) (wrap64 (x6_5 + 1)) false _ A19.out).mono ?_); rintro e w22 ⟨rfl, hb⟩; replace HB := bs_ HB hb; (try clear hb); (try clear hb2); (try clear hk); (try clear hi)))
                 go_ret
                 exact ⟨by first | rfl | (simp [errW_none, errW_some] <;> rfl) | (simp [*, errW_none, errW_some] <;> rfl), (be_ HB).out⟩
               ·rw [if_neg c18] at H
                have c18b0 : decide (x6_5 < 125000000) = false := decide_eq_false c18
                clear c18
                obtain rfl := Option.some.inj H
                simp only [Option.some.injEq, Prod.mk.injEq] at H
                obtain ⟨rfl⟩ := H
                go_wp2
                go_ret
                exact ⟨by first | rfl | (simp [errW_none, errW_some] <;> rfl) | (simp [*, errW_none, errW_some] <;> rfl), (be_ HB).out⟩
end Go.Proofs.Ytmahlfjnejbcnaa.PAll
end
section
namespace Go.Proofs.Ytmahlfjnejbcnaa.PAll
open Go.RowKit YtmahlfjnejbcnaaW.PrintWords YtmahlfjnejbcnaaW.PrintLast YtmahlfjnejbcnaaW.PrintMore More2 Sq
attribute [local go_sem] max2_int min2_int max_two min_two max_three min_three max_four min_four tdiv2e18_ tdiv1e18_ cellSS_  -- for this text's walks alone
mutual
def trig_direction.j0 : Nat → Int → Int → Int → Int → Option (Int × Int)
 | 0, _, _, _, _ => none
 | k + 1, x0, x1, x5, x6 => if x6 < 0 then (trig_direction.j1 k x0 x1 x5 (wrap64 (-x6))) else (trig_direction.j1 k x0 x1 x5 x6)
def trig_direction.j1 : Nat → Int → Int → Int → Int → Option (Int × Int)
 | 0, _, _, _, _ => none
 | k + 1, x0, x1, x5, x6 => if x5 ≤ x6 then ((trig_acute.f k x5 x6).bind fun t358 => (trig_direction.j2 k x0 x1 (wrap64 (t358 - 1)) (wrap64 (t358 + 2)))) else ((trig_acute.f k x6 x5).bind fun t359 => (trig_direction.j2 k x0 x1 (wrap64 ((wrap64 (250000000 - t359)) - 2)) (wrap64 ((wrap64 (250000000 - t359)) + 1))))
def trig_direction.j2 : Nat → Int → Int → Int → Int → Option (Int × Int)
 | 0, _, _, _, _ => none
 | k + 1, x0, x1, x358000, x358001 => if x1 < 0 then (if x0 < 0 then ((trig_minus.f (wrap64 (500000000 - x358001)) (wrap64 (500000000 - x358000))).bind fun bt360 => (some (bt360.1, bt360.2))) else (some (wrap64 (500000000 - x358001), wrap64 (500000000 - x358000)))) else (if x0 < 0 then ((trig_minus.f x358000 x358001).bind fun bt362 => (some (bt362.1, bt362.2))) else (some (x358000, x358001)))
end
def trig_direction.f (k : Nat) (a0 : Int) (a1 : Int) : Option (Int × Int) := if a0 < 0 then (trig_direction.j0 k a0 a1 (wrap64 (-a0)) a1) else (trig_direction.j0 k a0 a1 a0 a1)
theorem trig_direction.calls (k : Nat) (a0 : Int) (a1 : Int) (r1 : Int) (r2 : Int) (w : World) (h : trig_direction.f k a0 a1 = some (r1, r2)) :
  Calls Try.prog 98 #[.int .i64 a0, .int .i64 a1] w fun e w' => e = .returned (.agg #[.int .i64 r1, .int .i64 r2]) ∧ Below w.heap.size w w' := by
 have hu24 := Try.underlying24
 have HB := Aside0.mk (Below.refl w.heap.size w)
 have H : (if a0 < 0 then (trig_direction.j0 k a0 a1 (wrap64 (-a0)) a1) else (trig_direction.j0 k a0 a1 a0 a1)) = some (r1, r2) := h
 clear h
 have HC3 := Aside0.mk H
 clear H
 go_enter Try.func98, Try.ntmps98
 go_upto_if 13 with (first | ((with_reducible refine gate_dst (N := 4) rfl ?_); refine box_event ?hg (N := 4) ?hd (cs := #[.int .i64 0, .int .i64 0]) (t := 24) ?hr ?_; (case hd => rfl); (case hg => rfl); (case hr => first | (go_simp; done) | (go_simp; rfl)); intro gb356 hg w4 hbox hb; have BK356 := Aside0.mk (hbox); have GW356 := ge_ hg HB; have GE356 := ge_ hg HB; replace HB := bs_ HB hb; clear hb hbox hg))
 (try simp only [Act.put, List.setIfInBounds_toArray, List.set_cons_zero, List.set_cons_succ])
 go_cut [5] (fun v5 wc => ∃ (kq : Nat) (x5_2 : Int), v5 = .int .i64 x5_2 ∧ Aside0 (trig_direction.j0 kq a0 a1 x5_2 a1 = some (r1, r2)) ∧ Aside0 (kq ≤ k) ∧ Aside0 (wc.heap[gb356]? = some (.cells #[.int .i64 0, .int .i64 0] 24 (0, 0))) ∧ Aside0 (Below w.heap.size w wc))
 case first =>
  have H := HC3.out
  clear HC3
  by_cases c5 : a0 < 0
  ·rw [if_pos c5] at H
   have c5b0 : decide (a0 < 0) = true := decide_eq_true c5
   clear c5
   (first | rw [c5b0] | (simp only [i64_w, i32_w]; rw [c5b0]) | skip)
   have H' := Aside0.mk H
   clear H
   go_wp2
   go_meet
   case rel => exact ⟨_, (wrap64 (-a0)), (by first | rfl | (simp; done) | (simp [*]; done)), H', ⟨by first | omega | exact Nat.le_refl _⟩, ⟨kk_ BK356⟩, (be_ HB)⟩
  ·rw [if_neg c5] at H
   have c5b0 : decide (a0 < 0) = false := decide_eq_false c5
   clear c5
   (first | rw [c5b0] | (simp only [i64_w, i32_w]; rw [c5b0]) | skip)
   have H' := Aside0.mk H
   clear H
   go_wp2
   go_meet
   case rel => exact ⟨_, (a0), (by first | rfl | (simp; done) | (simp [*]; done)), H', ⟨by first | omega | exact Nat.le_refl _⟩, ⟨kk_ BK356⟩, (be_ HB)⟩
 case rest =>
  clear HC3
  try clear p2
  try clear c5
  try clear c5b0
  obtain ⟨kq, x5_2, rfl, HA, HJ2, BK356, HB⟩ := hcut
  cases kq with
  | zero => exact absurd HA.out (by simp [trig_direction.j0])
  | succ kj2 =>
   have H := HA.out
   clear HA
   simp only [trig_direction.j0] at H
   have HC6 := Aside0.mk H
   clear H
   go_upto_if 17 with (fail)
   go_cut [6] (fun v6 wc => ∃ (kq : Nat) (x6_5 : Int), v6 = .int .i64 x6_5 ∧ Aside0 (trig_direction.j1 kq a0 a1 x5_2 x6_5 = some (r1, r2)) ∧ Aside0 (kq ≤ kj2) ∧ Aside0 (wc.heap[gb356]? = some (.cells #[.int .i64 0, .int .i64 0] 24 (0, 0))) ∧ Aside0 (Below w.heap.size w wc))
   case first =>
    have H := HC6.out
    clear HC6
    by_cases c7 : a1 < 0
    ·rw [if_pos c7] at H
     have c7b0 : decide (a1 < 0) = true := decide_eq_true c7
     clear c7
     (first | rw [c7b0] | (simp only [i64_w, i32_w]; rw [c7b0]) | skip)
     have H' := Aside0.mk H
     clear H
     go_wp2
     go_meet
     case rel => exact ⟨_, (wrap64 (-a1)), (by first | rfl | (simp; done) | (simp [*]; done)), H', ⟨by have := HJ2.out; first | omega | exact Nat.le_refl _⟩, ⟨kk_ BK356⟩, (be_ HB)⟩
    ·rw [if_neg c7] at H
     have c7b0 : decide (a1 < 0) = false := decide_eq_false c7
     clear c7
     (first | rw [c7b0] | (simp only [i64_w, i32_w]; rw [c7b0]) | skip)
     have H' := Aside0.mk H
     clear H
     go_wp2
     go_meet
     case rel => exact ⟨_, (a1), (by first | rfl | (simp; done) | (simp [*]; done)), H', ⟨by have := HJ2.out; first | omega | exact Nat.le_refl _⟩, ⟨kk_ BK356⟩, (be_ HB)⟩
   case rest =>
    clear HC6
    try clear p2
    try clear c5
    try clear c5b0
    try clear p6
    try clear c7
    try clear c7b0
    try clear p2
    obtain ⟨kq, x6_5, rfl, HA, HJ5, BK356, HB⟩ := hcut
    cases kq with
    | zero => exact absurd HA.out (by simp [trig_direction.j1])
    | succ kj5 =>
     have H := HA.out
     clear HA
     simp only [trig_direction.j1] at H
     have HC8 := Aside0.mk H
     clear H
     go_upto_if 22 with (first | ((with_reducible refine gate_dst (N := 7) rfl ?_); refine box_event ?hg (N := 7) ?hd (cs := #[.int .i64 0, .int .i64 0]) (t := 24) ?hr ?_; (case hd => rfl); (case hg => rfl); (case hr => first | (go_simp; done) | (go_simp; rfl)); intro gb357 hg w9 hbox hb; have BK357 := Aside0.mk (hbox); have GW357 := ge_ hg HB; have GE357 := ge_ hg HB; have NB356_357 := nl_ hg BK356; have NB357_356 := ng_ hg BK356; replace BK356 := kb_ BK356 hb; replace HB := bs_ HB hb; clear hb hbox hg))
     (try simp only [Act.put, List.setIfInBounds_toArray, List.set_cons_zero, List.set_cons_succ])
     go_cut [] (fun wc => ∃ (kq : Nat) (x358000_7 : Int) (x358001_7 : Int), Aside0 (trig_direction.j2 kq a0 a1 x358000_7 x358001_7 = some (r1, r2)) ∧ Aside0 (kq ≤ kj5) ∧ Aside0 (wc.heap[gb356]? = some (.cells #[.int .i64 0, .int .i64 0] 24 (0, 0))) ∧ Aside0 (wc.heap[gb357]? = some (.cells #[.int .i64 x358000_7, .int .i64 x358001_7] 24 (0, 0))) ∧ Aside0 (Below w.heap.size w wc))
     case first =>
      have H := HC8.out
      clear HC8
      by_cases c10 : x5_2 ≤ x6_5
      ·rw [if_pos c10] at H
       have c10b0 : decide (x5_2 ≤ x6_5) = true := decide_eq_true c10
       clear c10
       (first | rw [c10b0] | (simp only [i64_w, i32_w]; rw [c10b0]) | skip)
       replace H := Option.bind_eq_some_iff.mp H
       obtain ⟨t358, A110, H⟩ := H
       replace H : (trig_direction.j2 kj5 a0 a1 (wrap64 (t358 - 1)) (wrap64 (t358 + 2))) = some (r1, r2) := H
       have A11 := Aside0.mk A110
       clear A110
       have H' := Aside0.mk H
       clear H
       go_wp2_with (first | ((with_reducible refine gate_callee (f := 104) rfl ?_); refine goesL_ (some 25) rfl rfl Try.func104 (by kernel_rfl) rfl #[.int .i64 x5_2, .int .i64 x6_5] rfl (by (try simp only [List.map_toArray, List.map_cons, List.map_nil]); first | done | rfl | (simp only [List.length_drop, List.length_take]; rfl)) ?_; (with_reducible refine (trig_acute.calls kj5 x5_2 x6_5 t358 _ A11.out).mono ?_); rintro e w12 ⟨rfl, hb⟩; refine ⟨_, rfl, ?_⟩; replace BK356 := kb_ BK356 hb; replace BK357 := kb_ BK357 hb; replace HB := bs_ HB hb; (try clear hb); (try clear hb2); (try clear hk); (try clear hi); have hnb13 := NB357_356.out; have hnc13 := NB356_357.out; have hcz14_0 : w12.cell? ⟨gb357, 0, none⟩ = some (.int .i64 0) := (blk_cell BK357.out 0).trans rfl; have hcz14_1 : w12.cell? ⟨gb357, 1, none⟩ = some (.int .i64 0) := (blk_cell BK357.out 1).trans rfl; have hfz14_0 := blk_frozen BK357.out 0; have hfz14_1 := blk_frozen BK357.out 1))
       go_meet
       case rel => exact ⟨_, (wrap64 (t358 - 1)), (wrap64 (t358 + 2)), H', ⟨by have := HJ2.out; have := HJ5.out; first | omega | exact Nat.le_refl _⟩, ⟨kk_ BK356⟩, ⟨by (with_reducible repeat (first | refine blk_drewN ?_ _ | refine blk_drew ?_ | refine blk_alloc ?_ _)); refine blk_put (cs := #[.int .i64 (wrap64 (t358 - 1)), .int .i64 0]) ?_ 1 _ rfl; (with_reducible repeat (first | refine blk_drewN ?_ _ | refine blk_drew ?_ | refine blk_alloc ?_ _)); refine blk_put (cs := #[.int .i64 0, .int .i64 0]) ?_ 0 _ rfl; (with_reducible repeat (first | refine blk_drewN ?_ _ | refine blk_drew ?_ | refine blk_alloc ?_ _)); exact BK357.out⟩, (be_ HB)⟩
      ·rw [if_neg c10] at H
       have c10b0 : decide (x5_2 ≤ x6_5) = false := decide_eq_false c10
       clear c10
       (first | rw [c10b0] | (simp only [i64_w, i32_w]; rw [c10b0]) | skip)
       replace H := Option.bind_eq_some_iff.mp H
       obtain ⟨t359, A150, H⟩ := H
       replace H : (trig_direction.j2 kj5 a0 a1 (wrap64 ((wrap64 (250000000 - t359)) - 2)) (wrap64 ((wrap64 (250000000 - t359)) + 1))) = some (r1, r2) := H
       have A15 := Aside0.mk A150
       clear A150
       have H' := Aside0.mk H
       clear H
       go_wp2_with (first | ((with_reducible refine gate_callee (f := 104) rfl ?_); refine goesL_ (some 33) rfl rfl Try.func104 (by kernel_rfl) rfl #[.int .i64 x6_5, .int .i64 x5_2] rfl (by (try simp only [List.map_toArray, List.map_cons, List.map_nil]); first | done | rfl | (simp only [List.length_drop, List.length_take]; rfl)) ?_; (with_reducible refine (trig_acute.calls kj5 x6_5 x5_2 t359 _ A15.out).mono ?_); rintro e w16 ⟨rfl, hb⟩; refine ⟨_, rfl, ?_⟩; replace BK356 := kb_ BK356 hb; replace BK357 := kb_ BK357 hb; replace HB := bs_ HB hb; (try clear hb); (try clear hb2); (try clear hk); (try clear hi); have hnb17 := NB357_356.out; have hnc17 := NB356_357.out; have hcz18_0 : w16.cell? ⟨gb357, 0, none⟩ = some (.int .i64 0) := (blk_cell BK357.out 0).trans rfl; have hcz18_1 : w16.cell? ⟨gb357, 1, none⟩ = some (.int .i64 0) := (blk_cell BK357.out 1).trans rfl; have hfz18_0 := blk_frozen BK357.out 0; have hfz18_1 := blk_frozen BK357.out 1))
       go_meet
       case rel => exact ⟨_, (wrap64 ((wrap64 (250000000 - t359)) - 2)), (wrap64 ((wrap64 (250000000 - t359)) + 1)), H', ⟨by have := HJ2.out; have := HJ5.out; first | omega | exact Nat.le_refl _⟩, ⟨kk_ BK356⟩, ⟨by (with_reducible repeat (first | refine blk_drewN ?_ _ | refine blk_drew ?_ | refine blk_alloc ?_ _)); refine blk_put (cs := #[.int .i64 (wrap64 ((wrap64 (250000000 - t359)) - 2)), .int .i64 0]) ?_ 1 _ rfl; (with_reducible repeat (first | refine blk_drewN ?_ _ | refine blk_drew ?_ | refine blk_alloc ?_ _)); refine blk_put (cs := #[.int .i64 0, .int .i64 0]) ?_ 0 _ rfl; (with_reducible repeat (first | refine blk_drewN ?_ _ | refine blk_drew ?_ | refine blk_alloc ?_ _)); exact BK357.out⟩, (be_ HB)⟩
     case rest =>
      clear HC8
      try clear c1
      try clear p2
      try clear c5
      try clear c5b0
      try clear p6
      try clear c7
      try clear c7b0
      try clear c9
      try clear c10
      try clear c10b0
      try clear c13
      try clear c17
      try clear hcz14_0
      try clear hcz14_1
      try clear hcz18_0
      try clear hcz18_1
      try clear hfz14_0
      try clear hfz14_1
      try clear hfz18_0
      try clear hfz18_1
      try clear p2
      try clear p6
      obtain ⟨kq, x358000_7, x358001_7, HA, HJ7, BK356, BK357, HB⟩ := hcut
      cases kq with
      | zero => exact absurd HA.out (by simp [trig_direction.j2])
      | succ kj7 =>
       have H := HA.out
       clear HA
       simp only [trig_direction.j2] at H
       by_cases c19 : a1 < 0
       ·rw [if_pos c19] at H
        have c19b0 : decide (a1 < 0) = true := decide_eq_true c19
        clear c19
        by_cases c20 : a0 < 0
        ·rw [if_pos c20] at H
         have c20b0 : decide (a0 < 0) = true := decide_eq_true c20
         clear c20
         replace H := Option.bind_eq_some_iff.mp H
         obtain ⟨⟨t360, t361⟩, A210, H⟩ := H
         replace H : (some (t360, t361)) = some (r1, r2) := H
         have A21 := Aside0.mk A210
         clear A210
         simp only [Option.some.injEq, Prod.mk.injEq] at H
         obtain ⟨rfl, rfl⟩ := H
         have hnb22 := NB357_356.out
         have hnc22 := NB356_357.out
         have hcz23_0 : wc.cell? ⟨gb357, 0, none⟩ = some (.int .i64 x358000_7) := (blk_cell BK357.out 0).trans rfl
         have hcz23_1 : wc.cell? ⟨gb357, 1, none⟩ = some (.int .i64 x358001_7) := (blk_cell BK357.out 1).trans rfl
         have hfz23_0 := blk_frozen BK357.out 0
         have hfz23_1 := blk_frozen BK357.out 1
         go_wp2_with (first | ((with_reducible refine gate_callee (f := 95) rfl ?_); refine goesL_ (some 53) rfl rfl Try.func95 (by kernel_rfl) rfl #[.agg #[.int .i64 (wrap64 (500000000 - x358001_7)), .int .i64 (wrap64 (500000000 - x358000_7))]] rfl (by (try simp only [List.map_toArray, List.map_cons, List.map_nil]); first | done | rfl | (simp only [List.length_drop, List.length_take]; rfl)) ?_; (with_reducible refine (trig_minus.calls (wrap64 (500000000 - x358001_7)) (wrap64 (500000000 - x358000_7)) t360 t361 _ A21.out).mono ?_); rintro e w24 ⟨rfl, hb⟩; refine ⟨_, rfl, ?_⟩; have n0_ := kb_ BK356 hb; have n1_ := Aside0.mk (blk_below (g := gb357) (o := .cells #[.int .i64 (wrap64 (500000000 - x358001_7)), .int .i64 (wrap64 (500000000 - x358000_7))] 24 (0, 0)) (by (with_reducible repeat (first | refine blk_drewN ?_ _ | refine blk_drew ?_ | refine blk_alloc ?_ _)); refine blk_put (cs := #[.int .i64 (wrap64 (500000000 - x358001_7)), .int .i64 x358001_7]) ?_ 1 _ rfl; (with_reducible repeat (first | refine blk_drewN ?_ _ | refine blk_drew ?_ | refine blk_alloc ?_ _)); refine blk_put (cs := #[.int .i64 x358000_7, .int .i64 x358001_7]) ?_ 0 _ rfl; (with_reducible repeat (first | refine blk_drewN ?_ _ | refine blk_drew ?_ | refine blk_alloc ?_ _)); exact BK357.out) hb); have n2_ := bs_ HB hb; clear BK356; clear BK357; clear HB; have BK356 := n0_; have BK357 := n1_; have HB := n2_; clear n0_ n1_ n2_; (try clear hb); (try clear hb2); (try clear hk); (try clear hi); have hcz25_0 : w24.cell? ⟨gb357, 0, none⟩ = some (.int .i64 (wrap64 (500000000 - x358001_7))) := (blk_cell BK357.out 0).trans rfl; have hcz25_1 : w24.cell? ⟨gb357, 1, none⟩ = some (.int .i64 (wrap64 (500000000 - x358000_7))) := (blk_cell BK357.out 1).trans rfl; have hfz25_0 := blk_frozen BK357.out 0; have hfz25_1 := blk_frozen BK357.out 1; have hcz26_0 : w24.cell? ⟨gb356, 0, none⟩ = some (.int .i64 0) := (blk_cell BK356.out 0).trans rfl; have hcz26_1 : w24.cell? ⟨gb356, 1, none⟩ = some (.int .i64 0) := (blk_cell BK356.out 1).trans rfl; have hfz26_0 := blk_frozen BK356.out 0; have hfz26_1 := blk_frozen BK356.out 1))
         refine bodyPost_ret (results_cell_row rfl _ _ gb356 24 #[.int .i64 t360, .int .i64 t361] (0, 0) _ rfl (by (with_reducible repeat (first | refine blk_drewN ?_ _ | refine blk_drew ?_ | refine blk_alloc ?_ _)); refine blk_put (cs := #[.int .i64 t360, .int .i64 0]) ?_ 1 _ rfl; (with_reducible repeat (first | refine blk_drewN ?_ _ | refine blk_drew ?_ | refine blk_alloc ?_ _)); refine blk_put (cs := #[.int .i64 0, .int .i64 0]) ?_ 0 _ rfl; (with_reducible repeat (first | refine blk_drewN ?_ _ | refine blk_drew ?_ | refine blk_alloc ?_ _)); refine blk_far ?_ NB356_357.out _; (with_reducible repeat (first | refine blk_drewN ?_ _ | refine blk_drew ?_ | refine blk_alloc ?_ _)); refine blk_far ?_ NB356_357.out _; (with_reducible repeat (first | refine blk_drewN ?_ _ | refine blk_drew ?_ | refine blk_alloc ?_ _)); exact BK356.out) Try.underlying24 rfl (by kernel_rfl)) rfl ?_
         exact ⟨by first | rfl | (simp [errW_none, errW_some] <;> rfl) | (simp [*, errW_none, errW_some] <;> rfl), (be_ HB).out⟩
        ·rw [if_neg c20] at H
         have c20b0 : decide (a0 < 0) = false := decide_eq_false c20
         clear c20
         simp only [Option.some.injEq, Prod.mk.injEq] at H
         obtain ⟨rfl, rfl⟩ := H
         have hnb27 := NB357_356.out
         have hnc27 := NB356_357.out
         have hcz28_0 : wc.cell? ⟨gb357, 0, none⟩ = some (.int .i64 x358000_7) := (blk_cell BK357.out 0).trans rfl
         have hcz28_1 : wc.cell? ⟨gb357, 1, none⟩ = some (.int .i64 x358001_7) := (blk_cell BK357.out 1).trans rfl
         have hfz28_0 := blk_frozen BK357.out 0
         have hfz28_1 := blk_frozen BK357.out 1
         have hcz29_0 : wc.cell? ⟨gb356, 0, none⟩ = some (.int .i64 0) := (blk_cell BK356.out 0).trans rfl
         have hcz29_1 : wc.cell? ⟨gb356, 1, none⟩ = some (.int .i64 0) := (blk_cell BK356.out 1).trans rfl
         have hfz29_0 := blk_frozen BK356.out 0
         have hfz29_1 := blk_frozen BK356.out 1
         go_wp2
         refine bodyPost_ret (results_cell_row rfl _ _ gb356 24 #[.int .i64 (wrap64 (500000000 - x358001_7)), .int .i64 (wrap64 (500000000 - x358000_7))] (0, 0) _ rfl (by (with_reducible repeat (first | refine blk_drewN ?_ _ | refine blk_drew ?_ | refine blk_alloc ?_ _)); refine blk_put (cs := #[.int .i64 (wrap64 (500000000 - x358001_7)), .int .i64 0]) ?_ 1 _ rfl; (with_reducible repeat (first | refine blk_drewN ?_ _ | refine blk_drew ?_ | refine blk_alloc ?_ _)); refine blk_put (cs := #[.int .i64 0, .int .i64 0]) ?_ 0 _ rfl; (with_reducible repeat (first | refine blk_drewN ?_ _ | refine blk_drew ?_ | refine blk_alloc ?_ _)); refine blk_far ?_ NB356_357.out _; (with_reducible repeat (first | refine blk_drewN ?_ _ | refine blk_drew ?_ | refine blk_alloc ?_ _)); refine blk_far ?_ NB356_357.out _; (with_reducible repeat (first | refine blk_drewN ?_ _ | refine blk_drew ?_ | refine blk_alloc ?_ _)); exact BK356.out) Try.underlying24 rfl (by kernel_rfl)) rfl ?_
         exact ⟨by first | rfl | (simp [errW_none, errW_some] <;> rfl) | (simp [*, errW_none, errW_some] <;> rfl), (be_ HB).out⟩
       ·rw [if_neg c19] at H
        have c19b0 : decide (a1 < 0) = false := decide_eq_false c19
        clear c19
        by_cases c30 : a0 < 0
        ·rw [if_pos c30] at H
         have c30b0 : decide (a0 < 0) = true := decide_eq_true c30
         clear c30
         replace H := Option.bind_eq_some_iff.mp H
         obtain ⟨⟨t362, t363⟩, A310, H⟩ := H
         replace H : (some (t362, t363)) = some (r1, r2) := H
         have A31 := Aside0.mk A310
         clear A310
         simp only [Option.some.injEq, Prod.mk.injEq] at H
         obtain ⟨rfl, rfl⟩ := H
         have hnb32 := NB357_356.out
         have hnc32 := NB356_357.out
         have hcz33_0 : wc.cell? ⟨gb357, 0, none⟩ = some (.int .i64 x358000_7) := (blk_cell BK357.out 0).trans rfl
         have hcz33_1 : wc.cell? ⟨gb357, 1, none⟩ = some (.int .i64 x358001_7) := (blk_cell BK357.out 1).trans rfl
         have hfz33_0 := blk_frozen BK357.out 0
         have hfz33_1 := blk_frozen BK357.out 1
         go_wp2_with (first | ((with_reducible refine gate_callee (f := 95) rfl ?_); refine goesL_ (some 53) rfl rfl Try.func95 (by kernel_rfl) rfl #[.agg #[.int .i64 x358000_7, .int .i64 x358001_7]] rfl (by (try simp only [List.map_toArray, List.map_cons, List.map_nil]); first | done | rfl | (simp only [List.length_drop, List.length_take]; rfl)) ?_; (with_reducible refine (trig_minus.calls x358000_7 x358001_7 t362 t363 _ A31.out).mono ?_); rintro e w34 ⟨rfl, hb⟩; refine ⟨_, rfl, ?_⟩; replace BK356 := kb_ BK356 hb; replace BK357 := kb_ BK357 hb; replace HB := bs_ HB hb; (try clear hb); (try clear hb2); (try clear hk); (try clear hi); have hcz35_0 : w34.cell? ⟨gb357, 0, none⟩ = some (.int .i64 x358000_7) := (blk_cell BK357.out 0).trans rfl; have hcz35_1 : w34.cell? ⟨gb357, 1, none⟩ = some (.int .i64 x358001_7) := (blk_cell BK357.out 1).trans rfl; have hfz35_0 := blk_frozen BK357.out 0; have hfz35_1 := blk_frozen BK357.out 1; have hcz36_0 : w34.cell? ⟨gb356, 0, none⟩ = some (.int .i64 0) := (blk_cell BK356.out 0).trans rfl; have hcz36_1 : w34.cell? ⟨gb356, 1, none⟩ = some (.int .i64 0) := (blk_cell BK356.out 1).trans rfl; have hfz36_0 := blk_frozen BK356.out 0; have hfz36_1 := blk_frozen BK356.out 1))
         refine bodyPost_ret (results_cell_row rfl _ _ gb356 24 #[.int .i64 t362, .int .i64 t363] (0, 0) _ rfl (by (with_reducible repeat (first | refine blk_drewN ?_ _ | refine blk_drew ?_ | refine blk_alloc ?_ _)); refine blk_put (cs := #[.int .i64 t362, .int .i64 0]) ?_ 1 _ rfl; (with_reducible repeat (first | refine blk_drewN ?_ _ | refine blk_drew ?_ | refine blk_alloc ?_ _)); refine blk_put (cs := #[.int .i64 0, .int .i64 0]) ?_ 0 _ rfl; (with_reducible repeat (first | refine blk_drewN ?_ _ | refine blk_drew ?_ | refine blk_alloc ?_ _)); refine blk_far ?_ NB356_357.out _; (with_reducible repeat (first | refine blk_drewN ?_ _ | refine blk_drew ?_ | refine blk_alloc ?_ _)); refine blk_far ?_ NB356_357.out _; (with_reducible repeat (first | refine blk_drewN ?_ _ | refine blk_drew ?_ | refine blk_alloc ?_ _)); exact BK356.out) Try.underlying24 rfl (by kernel_rfl)) rfl ?_
         exact ⟨by first | rfl | (simp [errW_none, errW_some] <;> rfl) | (simp [*, errW_none, errW_some] <;> rfl), (be_ HB).out⟩
        ·rw [if_neg c30] at H
         have c30b0 : decide (a0 < 0) = false := decide_eq_false c30
         clear c30
         simp only [Option.some.injEq, Prod.mk.injEq] at H
         obtain ⟨rfl, rfl⟩ := H
         have hnb37 := NB357_356.out
         have hnc37 := NB356_357.out
         have hcz38_0 : wc.cell? ⟨gb357, 0, none⟩ = some (.int .i64 x358000_7) := (blk_cell BK357.out 0).trans rfl
         have hcz38_1 : wc.cell? ⟨gb357, 1, none⟩ = some (.int .i64 x358001_7) := (blk_cell BK357.out 1).trans rfl
         have hfz38_0 := blk_frozen BK357.out 0
         have hfz38_1 := blk_frozen BK357.out 1
         have hcz39_0 : wc.cell? ⟨gb356, 0, none⟩ = some (.int .i64 0) := (blk_cell BK356.out 0).trans rfl
         have hcz39_1 : wc.cell? ⟨gb356, 1, none⟩ = some (.int .i64 0) := (blk_cell BK356.out 1).trans rfl
         have hfz39_0 := blk_frozen BK356.out 0
         have hfz39_1 := blk_frozen BK356.out 1
         go_wp2
         refine bodyPost_ret (results_cell_row rfl _ _ gb356 24 #[.int .i64 x358000_7, .int .i64 x358001_7] (0, 0) _ rfl (by (with_reducible repeat (first | refine blk_drewN ?_ _ | refine blk_drew ?_ | refine blk_alloc ?_ _)); refine blk_put (cs := #[.int .i64 x358000_7, .int .i64 0]) ?_ 1 _ rfl; (with_reducible repeat (first | refine blk_drewN ?_ _ | refine blk_drew ?_ | refine blk_alloc ?_ _)); refine blk_put (cs := #[.int .i64 0, .int .i64 0]) ?_ 0 _ rfl; (with_reducible repeat (first | refine blk_drewN ?_ _ | refine blk_drew ?_ | refine blk_alloc ?_ _)); exact BK356.out) Try.underlying24 rfl (by kernel_rfl)) rfl ?_
         exact ⟨by first | rfl | (simp [errW_none, errW_some] <;> rfl) | (simp [*, errW_none, errW_some] <;> rfl), (be_ HB).out⟩
end Go.Proofs.Ytmahlfjnejbcnaa.PAll
end
