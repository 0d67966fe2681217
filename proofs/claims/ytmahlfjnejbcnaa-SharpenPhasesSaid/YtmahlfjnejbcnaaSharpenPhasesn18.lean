/- Written by a program of this session: what one law needs. -/
import Derived.Test.YtmahlfjnejbcnaaSharpenPhasesn17
set_option maxHeartbeats 8000000
set_option maxRecDepth 100000
set_option linter.unusedSimpArgs false
set_option linter.unusedVariables false
section
namespace Go.Proofs.Ytmahlfjnejbcnaa.PAll
open Go.RowKit YtmahlfjnejbcnaaW.PrintWords YtmahlfjnejbcnaaW.PrintLast YtmahlfjnejbcnaaW.PrintMore More2
attribute [local go_sem] max2_int min2_int max_two min_two max_three min_three max_four min_four tdiv2e18_ tdiv1e18_ cellSS_  -- for this text's walks alone
mutual
def ephemerisref2_Arg.j0 : Nat → Int → Int → Bool → Option (Int)
 | 0, _, _, _ => none
 | k + 1, x0, x1, x5 => if x1 < 0 then (ephemerisref2_Arg.j1 k x0 (wrap64 (-x1)) x5) else (ephemerisref2_Arg.j1 k x0 x1 x5)
def ephemerisref2_Arg.j1 : Nat → Int → Int → Bool → Option (Int)
 | 0, _, _, _ => none
 | k + 1, x0, x1, x5 => ephemerisref2_Arg.l0 k x0 x1 x5 0 0 50
def ephemerisref2_Arg.l0 : Nat → Int → Int → Bool → Int → Int → Int → Option (Int)
 | 0, _, _, _, _, _, _ => none
 | k + 1, x0, x1, x5, x6, x7, x8 => if x8 ≥ 0 then (if 0 ≤ x8 then (if (Go.bits .and .i64 (shr .i64 x1 x8) 1) = 1 then (ephemerisref2_Arg.l0 k x0 x1 x5 (Int.tmod (wrap64 ((wrap64 (2 * x6)) + (wrap64 (Int.tdiv (wrap64 ((wrap64 (2 * x7)) + x0)) 86400000)))) 1000000000000000) (Int.tmod (wrap64 ((wrap64 (2 * x7)) + x0)) 86400000) (wrap64 (x8 - 1))) else (ephemerisref2_Arg.l0 k x0 x1 x5 (Int.tmod (wrap64 ((wrap64 (2 * x6)) + (wrap64 (Int.tdiv (wrap64 (2 * x7)) 86400000)))) 1000000000000000) (Int.tmod (wrap64 (2 * x7)) 86400000) (wrap64 (x8 - 1)))) else (none)) else (if x5 = true then (if x7 > 0 then ((ephemerisref2_Mod.f (wrap64 ((wrap64 (-x6)) - 1)) 1000000000000000).bind fun t266 => (some t266)) else ((ephemerisref2_Mod.f (wrap64 (-x6)) 1000000000000000).bind fun t267 => (some t267))) else ((ephemerisref2_Mod.f x6 1000000000000000).bind fun t268 => (some t268)))
end
def ephemerisref2_Arg.f (k : Nat) (a0 : Int) (a1 : Int) : Option (Int) := if a0 < 0 then (ephemerisref2_Arg.j0 k (wrap64 (-a0)) a1 ((decide (a0 < 0)) != (decide (a1 < 0)))) else (ephemerisref2_Arg.j0 k a0 a1 ((decide (a0 < 0)) != (decide (a1 < 0))))
theorem ephemerisref2_Arg.calls (k : Nat) (a0 : Int) (a1 : Int) (r : Int) (w : World) (h : ephemerisref2_Arg.f k a0 a1 = some r) :
  Calls Try.prog 68 #[.int .i64 a0, .int .i64 a1] w fun e w' => e = .returned (.int .i64 r) ∧ Drawn0 w w' := by
 have H : (if a0 < 0 then (ephemerisref2_Arg.j0 k (wrap64 (-a0)) a1 ((decide (a0 < 0)) != (decide (a1 < 0)))) else (ephemerisref2_Arg.j0 k a0 a1 ((decide (a0 < 0)) != (decide (a1 < 0))))) = some r := h
 clear h
 obtain ⟨mn_, hMN_⟩ : ∃ b_, b_ = ((decide (a0 < 0)) != (decide (a1 < 0))) := ⟨_, rfl⟩
 rw [← hMN_] at H
 have HC3 := Aside0.mk H
 clear H
 go_enter Try.func68, Try.ntmps68
 go_upto_if 15 with (fail)
 rw [show (!(decide (a0 < 0) == decide (a1 < 0))) = mn_ from hMN_.symm]
 clear hMN_
 go_cut [0] (fun v0 wc => ∃ (kq : Nat) (x0_2 : Int), v0 = .int .i64 x0_2 ∧ Aside0 (ephemerisref2_Arg.j0 kq x0_2 a1 mn_ = some r) ∧ Aside0 (kq ≤ k) ∧ Drawn0 w wc)
 case first =>
  have H := HC3.out
  clear HC3
  by_cases c4 : a0 < 0
  ·rw [if_pos c4] at H
   have c4b0 : decide (a0 < 0) = true := decide_eq_true c4
   clear c4
   (first | rw [c4b0] | (simp only [i64_w, i32_w]; rw [c4b0]) | skip)
   have H' := Aside0.mk H
   clear H
   go_wp2
   go_meet
   case rel => exact ⟨_, (wrap64 (-a0)), (by first | rfl | (simp; done) | (simp [*]; done)), H', ⟨by first | omega | exact Nat.le_refl _⟩, by repeat (first | exact Drawn0.refl _ | apply Drawn0.step)⟩
  ·rw [if_neg c4] at H
   have c4b0 : decide (a0 < 0) = false := decide_eq_false c4
   clear c4
   (first | rw [c4b0] | (simp only [i64_w, i32_w]; rw [c4b0]) | skip)
   have H' := Aside0.mk H
   clear H
   go_wp2
   go_meet
   case rel => exact ⟨_, (a0), (by first | rfl | (simp; done) | (simp [*]; done)), H', ⟨by first | omega | exact Nat.le_refl _⟩, by repeat (first | exact Drawn0.refl _ | apply Drawn0.step)⟩
 case rest =>
  clear HC3
  try clear p2
  try clear c4
  try clear c4b0
  obtain ⟨kq, x0_2, rfl, HA, HJ2, ⟨mc2, rfl⟩⟩ := hcut
  cases kq with
  | zero => exact absurd HA.out (by simp [ephemerisref2_Arg.j0])
  | succ kj2 =>
   have H := HA.out
   clear HA
   simp only [ephemerisref2_Arg.j0] at H
   have HC5 := Aside0.mk H
   clear H
   go_upto_if 19 with (fail)
   go_cut [1] (fun v1 wc => ∃ (kq : Nat) (x1_4 : Int), v1 = .int .i64 x1_4 ∧ Aside0 (ephemerisref2_Arg.j1 kq x0_2 x1_4 mn_ = some r) ∧ Aside0 (kq ≤ kj2) ∧ Drawn0 w wc)
   case first =>
    have H := HC5.out
    clear HC5
    by_cases c6 : a1 < 0
    ·rw [if_pos c6] at H
     have c6b0 : decide (a1 < 0) = true := decide_eq_true c6
     clear c6
     (first | rw [c6b0] | (simp only [i64_w, i32_w]; rw [c6b0]) | skip)
     have H' := Aside0.mk H
     clear H
     go_wp2
     go_meet
     case rel => exact ⟨_, (wrap64 (-a1)), (by first | rfl | (simp; done) | (simp [*]; done)), H', ⟨by have := HJ2.out; first | omega | exact Nat.le_refl _⟩, by repeat (first | exact Drawn0.refl _ | apply Drawn0.step)⟩
    ·rw [if_neg c6] at H
     have c6b0 : decide (a1 < 0) = false := decide_eq_false c6
     clear c6
     (first | rw [c6b0] | (simp only [i64_w, i32_w]; rw [c6b0]) | skip)
     have H' := Aside0.mk H
     clear H
     go_wp2
     go_meet
     case rel => exact ⟨_, (a1), (by first | rfl | (simp; done) | (simp [*]; done)), H', ⟨by have := HJ2.out; first | omega | exact Nat.le_refl _⟩, by repeat (first | exact Drawn0.refl _ | apply Drawn0.step)⟩
   case rest =>
    clear HC5
    try clear c2
    try clear p2
    try clear c4
    try clear c4b0
    try clear c6
    try clear c6b0
    try clear p6
    try clear p2
    obtain ⟨kq, x1_4, rfl, HA, HJ4, ⟨mc4, rfl⟩⟩ := hcut
    cases kq with
    | zero => exact absurd HA.out (by simp [ephemerisref2_Arg.j1])
    | succ kj4 =>
     have H := HA.out
     clear HA
     simp only [ephemerisref2_Arg.j1] at H
     have H' := Aside0.mk H
     clear H
     go_wp2
     go_loopg [6, 7, 8] kj4 (fun kq v6 v7 v8 w' => ∃ (x6_3 : Int) (x7_3 : Int) (x8_3 : Int), v6 = .int .i64 x6_3 ∧ v7 = .int .i64 x7_3 ∧ v8 = .int .i64 x8_3 ∧ Aside0 (ephemerisref2_Arg.l0 kq x0_2 x1_4 mn_ x6_3 x7_3 x8_3 = some r) ∧ Aside0 (kq ≤ kj4) ∧ Drawn0 w w')
     case atStart => exact ⟨(0), (0), (50), (by first | rfl | (simp; done) | (simp [*]; done)), (by first | rfl | (simp; done) | (simp [*]; done)), (by first | rfl | (simp; done) | (simp [*]; done)), H', ⟨Nat.le_refl _⟩, by repeat (first | exact Drawn0.refl _ | apply Drawn0.step)⟩
     case round =>
      clear H'
      try clear c2
      try clear p2
      try clear c4
      try clear c4b0
      try clear c6
      try clear c6b0
      try clear p6
      try clear p2
      try clear p6
      obtain ⟨x6_3, x7_3, x8_3, rfl, rfl, rfl, HA, HK3, ⟨m3, rfl⟩⟩ := hrel
      cases gk with
      | zero => exact absurd HA.out (by simp [ephemerisref2_Arg.l0])
      | succ k3 =>
       have H := HA.out
       clear HA
       simp only [ephemerisref2_Arg.l0] at H
       by_cases c7 : x8_3 ≥ 0
       ·rw [if_pos c7] at H
        have c7b0 : decide (0 ≤ x8_3) = true := decide_eq_true c7
        clear c7
        by_cases c8 : 0 ≤ x8_3
        ·rw [if_pos c8] at H
         have c8b0 := eq_true c8
         have c8b1 : decide (0 ≤ x8_3) = true := decide_eq_true c8
         clear c8
         obtain ⟨ji9, hji9⟩ : ∃ j_ : Int, (shr .i64 x1_4 x8_3) = j_ := ⟨_, rfl⟩
         replace H : (if (Go.bits .and .i64 (ji9) 1) = 1 then (ephemerisref2_Arg.l0 k3 x0_2 x1_4 mn_ (Int.tmod (wrap64 ((wrap64 (2 * x6_3)) + (wrap64 (Int.tdiv (wrap64 ((wrap64 (2 * x7_3)) + x0_2)) 86400000)))) 1000000000000000) (Int.tmod (wrap64 ((wrap64 (2 * x7_3)) + x0_2)) 86400000) (wrap64 (x8_3 - 1))) else (ephemerisref2_Arg.l0 k3 x0_2 x1_4 mn_ (Int.tmod (wrap64 ((wrap64 (2 * x6_3)) + (wrap64 (Int.tdiv (wrap64 (2 * x7_3)) 86400000)))) 1000000000000000) (Int.tmod (wrap64 (2 * x7_3)) 86400000) (wrap64 (x8_3 - 1)))) = some r := by first | (rw [hji9] at H; exact H) | (simp only [hji9] at H ⊢; exact H)
         have hji9_ : (x1_4 / 2 ^ min x8_3.toNat 64) = ji9 := hji9
         have hji9z : x8_3 ≤ 64 → (x1_4 / 2 ^ x8_3.toNat) = ji9 := shr_small hji9
         by_cases c10 : (Go.bits .and .i64 (ji9) 1) = 1
         ·rw [if_pos c10] at H
          have c10b0 : ((Go.bits .and .i64 (ji9) 1) == 1) = true := beq_iff_eq.mpr c10
          have c10b1 : ((Go.bits .and .i64 (ji9) 1) != 1) = false := bne_eq_false_iff_eq.mpr c10
          clear c10
          have H' := Aside0.mk H
          clear H
          go_wp2
          go_roundg k3
          case measure => have := HJ2.out; have := HJ4.out; have := HK3.out; omega
          case rel => exact ⟨(Int.tmod (wrap64 ((wrap64 (2 * x6_3)) + (wrap64 (Int.tdiv (wrap64 ((wrap64 (2 * x7_3)) + x0_2)) 86400000)))) 1000000000000000), (Int.tmod (wrap64 ((wrap64 (2 * x7_3)) + x0_2)) 86400000), (wrap64 (x8_3 - 1)), (by first | rfl | (simp; done) | (simp [*]; done)), (by first | rfl | (simp; done) | (simp [*]; done)), (by first | rfl | (simp; done) | (simp [*]; done)), H', ⟨by have := HJ2.out; have := HJ4.out; have := HK3.out; omega⟩, by repeat (first | exact Drawn0.refl _ | apply Drawn0.step)⟩
         ·rw [if_neg c10] at H
          have c10b0 : ((Go.bits .and .i64 (ji9) 1) == 1) = false := beq_eq_false_iff_ne.mpr c10
          have c10b1 : ((Go.bits .and .i64 (ji9) 1) != 1) = true := bne_iff_ne.mpr c10
          have H' := Aside0.mk H
          clear H
          go_wp2
          go_roundg k3
          case measure => have := HJ2.out; have := HJ4.out; have := HK3.out; omega
          case rel => exact ⟨(Int.tmod (wrap64 ((wrap64 (2 * x6_3)) + (wrap64 (Int.tdiv (wrap64 (2 * x7_3)) 86400000)))) 1000000000000000), (Int.tmod (wrap64 (2 * x7_3)) 86400000), (wrap64 (x8_3 - 1)), (by first | rfl | (simp; done) | (simp [*]; done)), (by first | rfl | (simp; done) | (simp [*]; done)), (by first | rfl | (simp; done) | (simp [*]; done)), H', ⟨by have := HJ2.out; have := HJ4.out; have := HK3.out; omega⟩, by repeat (first | exact Drawn0.refl _ | apply Drawn0.step)⟩
        ·rw [if_neg c8] at H
         exact absurd H (by simp)
       ·rw [if_neg c7] at H
        have c7b0 : decide (0 ≤ x8_3) = false := decide_eq_false c7
        clear c7
        by_cases c11 : mn_ = true
        ·rw [if_pos c11] at H
         have c11b0 : mn_ = true := c11
         subst c11b0
         (try (have c11b1 : decide ((decide (a0 < 0)) = (decide (a1 < 0))) = false := by simpa using c11))
         (try (have c11b2 : ((decide (a0 < 0)) == (decide (a1 < 0))) = false := by simpa using c11))
         (try (have c11b3 : ¬ ((decide (a0 < 0)) = (decide (a1 < 0))) := by simpa using c11))
         clear c11
         by_cases c12 : x7_3 > 0
         ·rw [if_pos c12] at H
          have c12b0 : decide (0 < x7_3) = true := decide_eq_true c12
          clear c12
          replace H := Option.bind_eq_some_iff.mp H
          obtain ⟨t266, A130, H⟩ := H
          replace H : (some t266) = some r := H
          have A13 := Aside0.mk A130
          clear A130
          obtain rfl := Option.some.inj H
          simp only [Option.some.injEq, Prod.mk.injEq] at H
          obtain ⟨rfl⟩ := H
          go_wp2_with (first | ((with_reducible refine gate_callee (f := 40) rfl ?_); refine goesL_ (some 53) rfl rfl Try.func40 (by kernel_rfl) rfl #[.int .i64 (wrap64 ((wrap64 (-x6_3)) - 1)), .int .i64 1000000000000000] rfl (by (try simp only [List.map_toArray, List.map_cons, List.map_nil]); first | done | rfl | (simp only [List.length_drop, List.length_take]; rfl)) ?_; (with_reducible refine (ephemerisref2_Mod.calls (wrap64 ((wrap64 (-x6_3)) - 1)) 1000000000000000 t266 _ A13.out).mono ?_); rintro e w' ⟨rfl, ⟨nd, rfl⟩⟩; refine ⟨_, rfl, ?_⟩))
          go_ret
          exact ⟨by first | rfl | (simp; done) | (simp [*]; done), by repeat (first | exact Drawn0.refl _ | apply Drawn0.step)⟩
         ·rw [if_neg c12] at H
          have c12b0 : decide (0 < x7_3) = false := decide_eq_false c12
          clear c12
          replace H := Option.bind_eq_some_iff.mp H
          obtain ⟨t267, A140, H⟩ := H
          replace H : (some t267) = some r := H
          have A14 := Aside0.mk A140
          clear A140
          obtain rfl := Option.some.inj H
          simp only [Option.some.injEq, Prod.mk.injEq] at H
          obtain ⟨rfl⟩ := H
          go_wp2_with (first | ((with_reducible refine gate_callee (f := 40) rfl ?_); refine goesL_ (some 53) rfl rfl Try.func40 (by kernel_rfl) rfl #[.int .i64 (wrap64 (-x6_3)), .int .i64 1000000000000000] rfl (by (try simp only [List.map_toArray, List.map_cons, List.map_nil]); first | done | rfl | (simp only [List.length_drop, List.length_take]; rfl)) ?_; (with_reducible refine (ephemerisref2_Mod.calls (wrap64 (-x6_3)) 1000000000000000 t267 _ A14.out).mono ?_); rintro e w' ⟨rfl, ⟨nd, rfl⟩⟩; refine ⟨_, rfl, ?_⟩))
          go_ret
          exact ⟨by first | rfl | (simp; done) | (simp [*]; done), by repeat (first | exact Drawn0.refl _ | apply Drawn0.step)⟩
        ·rw [if_neg c11] at H
         have c11b0 : mn_ = false := by simpa using c11
         subst c11b0
         (try (have c11b1 : decide ((decide (a0 < 0)) = (decide (a1 < 0))) = true := by simpa using c11))
         (try (have c11b2 : ((decide (a0 < 0)) == (decide (a1 < 0))) = true := by simpa using c11))
         clear c11
         replace H := Option.bind_eq_some_iff.mp H
         obtain ⟨t268, A150, H⟩ := H
         replace H : (some t268) = some r := H
         have A15 := Aside0.mk A150
         clear A150
         obtain rfl := Option.some.inj H
         simp only [Option.some.injEq, Prod.mk.injEq] at H
         obtain ⟨rfl⟩ := H
         go_wp2_with (first | ((with_reducible refine gate_callee (f := 40) rfl ?_); refine goesL_ (some 53) rfl rfl Try.func40 (by kernel_rfl) rfl #[.int .i64 x6_3, .int .i64 1000000000000000] rfl (by (try simp only [List.map_toArray, List.map_cons, List.map_nil]); first | done | rfl | (simp only [List.length_drop, List.length_take]; rfl)) ?_; (with_reducible refine (ephemerisref2_Mod.calls x6_3 1000000000000000 t268 _ A15.out).mono ?_); rintro e w' ⟨rfl, ⟨nd, rfl⟩⟩; refine ⟨_, rfl, ?_⟩))
         go_ret
         exact ⟨by first | rfl | (simp; done) | (simp [*]; done), by repeat (first | exact Drawn0.refl _ | apply Drawn0.step)⟩
end Go.Proofs.Ytmahlfjnejbcnaa.PAll
end
section
namespace Go.Proofs.Ytmahlfjnejbcnaa.PAll
open Go.RowKit YtmahlfjnejbcnaaW.PrintWords YtmahlfjnejbcnaaW.PrintLast YtmahlfjnejbcnaaW.PrintMore More2
attribute [local go_sem] max2_int min2_int max_two min_two max_three min_three max_four min_four tdiv2e18_ tdiv1e18_ cellSS_  -- for this text's walks alone
def ephemerisref2_Mul.f (a0 : Int) (a1 : Int) : Option (Int) := if a0 < 0 then (if a1 < 0 then (some (wrap64 ((-(-1)) * (wrap64 ((wrap64 (((wrap64 (-a0)) / 1073741824) * ((wrap64 (-a1)) / 1073741824))) + ((wrap64 ((wrap64 ((wrap64 (((wrap64 (-a0)) / 1073741824) * (Go.bits .and .i64 (wrap64 (-a1)) 1073741823))) + (wrap64 ((Go.bits .and .i64 (wrap64 (-a0)) 1073741823) * ((wrap64 (-a1)) / 1073741824))))) + ((wrap64 ((Go.bits .and .i64 (wrap64 (-a0)) 1073741823) * (Go.bits .and .i64 (wrap64 (-a1)) 1073741823))) / 1073741824))) / 1073741824)))))) else (some (wrap64 ((-1) * (wrap64 ((wrap64 (((wrap64 (-a0)) / 1073741824) * (a1 / 1073741824))) + ((wrap64 ((wrap64 ((wrap64 (((wrap64 (-a0)) / 1073741824) * (Go.bits .and .i64 a1 1073741823))) + (wrap64 ((Go.bits .and .i64 (wrap64 (-a0)) 1073741823) * (a1 / 1073741824))))) + ((wrap64 ((Go.bits .and .i64 (wrap64 (-a0)) 1073741823) * (Go.bits .and .i64 a1 1073741823))) / 1073741824))) / 1073741824))))))) else (if a1 < 0 then (some (wrap64 ((-1) * (wrap64 ((wrap64 ((a0 / 1073741824) * ((wrap64 (-a1)) / 1073741824))) + ((wrap64 ((wrap64 ((wrap64 ((a0 / 1073741824) * (Go.bits .and .i64 (wrap64 (-a1)) 1073741823))) + (wrap64 ((Go.bits .and .i64 a0 1073741823) * ((wrap64 (-a1)) / 1073741824))))) + ((wrap64 ((Go.bits .and .i64 a0 1073741823) * (Go.bits .and .i64 (wrap64 (-a1)) 1073741823))) / 1073741824))) / 1073741824)))))) else (some (wrap64 (1 * (wrap64 ((wrap64 ((a0 / 1073741824) * (a1 / 1073741824))) + ((wrap64 ((wrap64 ((wrap64 ((a0 / 1073741824) * (Go.bits .and .i64 a1 1073741823))) + (wrap64 ((Go.bits .and .i64 a0 1073741823) * (a1 / 1073741824))))) + ((wrap64 ((Go.bits .and .i64 a0 1073741823) * (Go.bits .and .i64 a1 1073741823))) / 1073741824))) / 1073741824)))))))
theorem ephemerisref2_Mul.calls (a0 : Int) (a1 : Int) (r : Int) (w : World) (h : ephemerisref2_Mul.f a0 a1 = some r) :
  Calls Try.prog 90 #[.int .i64 a0, .int .i64 a1] w fun e w' => e = .returned (.int .i64 r) ∧ Drawn0 w w' := by
 have H : (if a0 < 0 then (if a1 < 0 then (some (wrap64 ((-(-1)) * (wrap64 ((wrap64 (((wrap64 (-a0)) / 1073741824) * ((wrap64 (-a1)) / 1073741824))) + ((wrap64 ((wrap64 ((wrap64 (((wrap64 (-a0)) / 1073741824) * (Go.bits .and .i64 (wrap64 (-a1)) 1073741823))) + (wrap64 ((Go.bits .and .i64 (wrap64 (-a0)) 1073741823) * ((wrap64 (-a1)) / 1073741824))))) + ((wrap64 ((Go.bits .and .i64 (wrap64 (-a0)) 1073741823) * (Go.bits .and .i64 (wrap64 (-a1)) 1073741823))) / 1073741824))) / 1073741824)))))) else (some (wrap64 ((-1) * (wrap64 ((wrap64 (((wrap64 (-a0)) / 1073741824) * (a1 / 1073741824))) + ((wrap64 ((wrap64 ((wrap64 (((wrap64 (-a0)) / 1073741824) * (Go.bits .and .i64 a1 1073741823))) + (wrap64 ((Go.bits .and .i64 (wrap64 (-a0)) 1073741823) * (a1 / 1073741824))))) + ((wrap64 ((Go.bits .and .i64 (wrap64 (-a0)) 1073741823) * (Go.bits .and .i64 a1 1073741823))) / 1073741824))) / 1073741824))))))) else (if a1 < 0 then (some (wrap64 ((-1) * (wrap64 ((wrap64 ((a0 / 1073741824) * ((wrap64 (-a1)) / 1073741824))) + ((wrap64 ((wrap64 ((wrap64 ((a0 / 1073741824) * (Go.bits .and .i64 (wrap64 (-a1)) 1073741823))) + (wrap64 ((Go.bits .and .i64 a0 1073741823) * ((wrap64 (-a1)) / 1073741824))))) + ((wrap64 ((Go.bits .and .i64 a0 1073741823) * (Go.bits .and .i64 (wrap64 (-a1)) 1073741823))) / 1073741824))) / 1073741824)))))) else (some (wrap64 (1 * (wrap64 ((wrap64 ((a0 / 1073741824) * (a1 / 1073741824))) + ((wrap64 ((wrap64 ((wrap64 ((a0 / 1073741824) * (Go.bits .and .i64 a1 1073741823))) + (wrap64 ((Go.bits .and .i64 a0 1073741823) * (a1 / 1073741824))))) + ((wrap64 ((Go.bits .and .i64 a0 1073741823) * (Go.bits .and .i64 a1 1073741823))) / 1073741824))) / 1073741824)))))))) = some r := h
 clear h
 by_cases c3 : a0 < 0
 ·rw [if_pos c3] at H
  have c3b0 : decide (a0 < 0) = true := decide_eq_true c3
  clear c3
  by_cases c4 : a1 < 0
  ·rw [if_pos c4] at H
   have c4b0 : decide (a1 < 0) = true := decide_eq_true c4
   clear c4
   obtain rfl := Option.some.inj H
   simp only [Option.some.injEq, Prod.mk.injEq] at H
   obtain ⟨rfl⟩ := H
   go_enter Try.func90, Try.ntmps90
   go_wp2
   go_ret
   exact ⟨by first | rfl | (simp; done) | (simp [*]; done), by repeat (first | exact Drawn0.refl _ | apply Drawn0.step)⟩
  ·rw [if_neg c4] at H
   have c4b0 : decide (a1 < 0) = false := decide_eq_false c4
   clear c4
   obtain rfl := Option.some.inj H
   simp only [Option.some.injEq, Prod.mk.injEq] at H
   obtain ⟨rfl⟩ := H
   go_enter Try.func90, Try.ntmps90
   go_wp2
   go_ret
   exact ⟨by first | rfl | (simp; done) | (simp [*]; done), by repeat (first | exact Drawn0.refl _ | apply Drawn0.step)⟩
 ·rw [if_neg c3] at H
  have c3b0 : decide (a0 < 0) = false := decide_eq_false c3
  clear c3
  by_cases c5 : a1 < 0
  ·rw [if_pos c5] at H
   have c5b0 : decide (a1 < 0) = true := decide_eq_true c5
   clear c5
   obtain rfl := Option.some.inj H
   simp only [Option.some.injEq, Prod.mk.injEq] at H
   obtain ⟨rfl⟩ := H
   go_enter Try.func90, Try.ntmps90
   go_wp2
   go_ret
   exact ⟨by first | rfl | (simp; done) | (simp [*]; done), by repeat (first | exact Drawn0.refl _ | apply Drawn0.step)⟩
  ·rw [if_neg c5] at H
   have c5b0 : decide (a1 < 0) = false := decide_eq_false c5
   clear c5
   obtain rfl := Option.some.inj H
   simp only [Option.some.injEq, Prod.mk.injEq] at H
   obtain ⟨rfl⟩ := H
   go_enter Try.func90, Try.ntmps90
   go_wp2
   go_ret
   exact ⟨by first | rfl | (simp; done) | (simp [*]; done), by repeat (first | exact Drawn0.refl _ | apply Drawn0.step)⟩
end Go.Proofs.Ytmahlfjnejbcnaa.PAll
end
section
namespace Go.Proofs.Ytmahlfjnejbcnaa.PAll
open Go.RowKit YtmahlfjnejbcnaaW.PrintWords YtmahlfjnejbcnaaW.PrintLast YtmahlfjnejbcnaaW.PrintMore More2
attribute [local go_sem] max2_int min2_int max_two min_two max_three min_three max_four min_four tdiv2e18_ tdiv1e18_ cellSS_  -- for this text's walks alone
def ephemerisref2_SinCos.l0 : Nat → Int → Int → Int → Option (Int × Int)
 | 0, _, _, _ => none
 | k + 1, x6, x7, x41 => if x41 < 12 then ((ephemerisref2_Mul.f x6 (wrap64 (1152921504606846976 - x7))).bind fun t275 => ((ephemerisref2_Mul.f x6 x6).bind fun t276 => (ephemerisref2_SinCos.l0 k (wrap64 (2 * t275)) (wrap64 (2 * t276)) (wrap64 (x41 + 1))))) else (some (x6, wrap64 (1152921504606846976 - x7)))
def ephemerisref2_SinCos.f (k : Nat) (a0 : Int) : Option (Int × Int) := (ephemerisref2_Mod.f a0 1000000000000000).bind fun t269 => ((ephemerisref2_Mul.f ((wrap64 ((wrap64 (t269 * 7244)) + (wrap64 (Int.tdiv (wrap64 ((wrap64 (Int.tdiv t269 1000000)) * 19458077)) 1000)))) / 4096) ((wrap64 ((wrap64 (t269 * 7244)) + (wrap64 (Int.tdiv (wrap64 ((wrap64 (Int.tdiv t269 1000000)) * 19458077)) 1000)))) / 4096)).bind fun t270 => ((ephemerisref2_Mul.f ((wrap64 ((wrap64 (t269 * 7244)) + (wrap64 (Int.tdiv (wrap64 ((wrap64 (Int.tdiv t269 1000000)) * 19458077)) 1000)))) / 4096) t270).bind fun t271 => ((ephemerisref2_Mul.f ((wrap64 ((wrap64 (t269 * 7244)) + (wrap64 (Int.tdiv (wrap64 ((wrap64 (Int.tdiv t269 1000000)) * 19458077)) 1000)))) / 4096) t270).bind fun t272 => ((ephemerisref2_Mul.f t272 t270).bind fun t273 => ((ephemerisref2_Mul.f t270 t270).bind fun t274 => (ephemerisref2_SinCos.l0 k (wrap64 ((wrap64 (((wrap64 ((wrap64 (t269 * 7244)) + (wrap64 (Int.tdiv (wrap64 ((wrap64 (Int.tdiv t269 1000000)) * 19458077)) 1000)))) / 4096) - (wrap64 (Int.tdiv t271 6)))) + (wrap64 (Int.tdiv t273 120)))) (wrap64 ((wrap64 (Int.tdiv t270 2)) - (wrap64 (Int.tdiv t274 24)))) 0))))))
theorem ephemerisref2_SinCos.calls (k : Nat) (a0 : Int) (r1 : Int) (r2 : Int) (w : World) (h : ephemerisref2_SinCos.f k a0 = some (r1, r2)) :
  Calls Try.prog 71 #[.int .i64 a0] w fun e w' => e = .returned (.tuple #[.int .i64 r1, .int .i64 r2]) ∧ Drawn0 w w' := by
 have H : ((ephemerisref2_Mod.f a0 1000000000000000).bind fun t269 => ((ephemerisref2_Mul.f ((wrap64 ((wrap64 (t269 * 7244)) + (wrap64 (Int.tdiv (wrap64 ((wrap64 (Int.tdiv t269 1000000)) * 19458077)) 1000)))) / 4096) ((wrap64 ((wrap64 (t269 * 7244)) + (wrap64 (Int.tdiv (wrap64 ((wrap64 (Int.tdiv t269 1000000)) * 19458077)) 1000)))) / 4096)).bind fun t270 => ((ephemerisref2_Mul.f ((wrap64 ((wrap64 (t269 * 7244)) + (wrap64 (Int.tdiv (wrap64 ((wrap64 (Int.tdiv t269 1000000)) * 19458077)) 1000)))) / 4096) t270).bind fun t271 => ((ephemerisref2_Mul.f ((wrap64 ((wrap64 (t269 * 7244)) + (wrap64 (Int.tdiv (wrap64 ((wrap64 (Int.tdiv t269 1000000)) * 19458077)) 1000)))) / 4096) t270).bind fun t272 => ((ephemerisref2_Mul.f t272 t270).bind fun t273 => ((ephemerisref2_Mul.f t270 t270).bind fun t274 => (ephemerisref2_SinCos.l0 k (wrap64 ((wrap64 (((wrap64 ((wrap64 (t269 * 7244)) + (wrap64 (Int.tdiv (wrap64 ((wrap64 (Int.tdiv t269 1000000)) * 19458077)) 1000)))) / 4096) - (wrap64 (Int.tdiv t271 6)))) + (wrap64 (Int.tdiv t273 120)))) (wrap64 ((wrap64 (Int.tdiv t270 2)) - (wrap64 (Int.tdiv t274 24)))) 0))))))) = some (r1, r2) := h
 clear h
 replace H := Option.bind_eq_some_iff.mp H
 obtain ⟨t269, A20, H⟩ := H
 replace H : ((ephemerisref2_Mul.f ((wrap64 ((wrap64 (t269 * 7244)) + (wrap64 (Int.tdiv (wrap64 ((wrap64 (Int.tdiv t269 1000000)) * 19458077)) 1000)))) / 4096) ((wrap64 ((wrap64 (t269 * 7244)) + (wrap64 (Int.tdiv (wrap64 ((wrap64 (Int.tdiv t269 1000000)) * 19458077)) 1000)))) / 4096)).bind fun t270 => ((ephemerisref2_Mul.f ((wrap64 ((wrap64 (t269 * 7244)) + (wrap64 (Int.tdiv (wrap64 ((wrap64 (Int.tdiv t269 1000000)) * 19458077)) 1000)))) / 4096) t270).bind fun t271 => ((ephemerisref2_Mul.f ((wrap64 ((wrap64 (t269 * 7244)) + (wrap64 (Int.tdiv (wrap64 ((wrap64 (Int.tdiv t269 1000000)) * 19458077)) 1000)))) / 4096) t270).bind fun t272 => ((ephemerisref2_Mul.f t272 t270).bind fun t273 => ((ephemerisref2_Mul.f t270 t270).bind fun t274 => (ephemerisref2_SinCos.l0 k (wrap64 ((wrap64 (((wrap64 ((wrap64 (t269 * 7244)) + (wrap64 (Int.tdiv (wrap64 ((wrap64 (Int.tdiv t269 1000000)) * 19458077)) 1000)))) / 4096) - (wrap64 (Int.tdiv t271 6)))) + (wrap64 (Int.tdiv t273 120)))) (wrap64 ((wrap64 (Int.tdiv t270 2)) - (wrap64 (Int.tdiv t274 24)))) 0)))))) = some (r1, r2) := H
 have A2 := Aside0.mk A20
 clear A20
 replace H := Option.bind_eq_some_iff.mp H
 obtain ⟨t270, A30, H⟩ := H
 replace H : ((ephemerisref2_Mul.f ((wrap64 ((wrap64 (t269 * 7244)) + (wrap64 (Int.tdiv (wrap64 ((wrap64 (Int.tdiv t269 1000000)) * 19458077)) 1000)))) / 4096) t270).bind fun t271 => ((ephemerisref2_Mul.f ((wrap64 ((wrap64 (t269 * 7244)) + (wrap64 (Int.tdiv (wrap64 ((wrap64 (Int.tdiv t269 1000000)) * 19458077)) 1000)))) / 4096) t270).bind fun t272 => ((ephemerisref2_Mul.f t272 t270).bind fun t273 => ((ephemerisref2_Mul.f t270 t270).bind fun t274 => (ephemerisref2_SinCos.l0 k (wrap64 ((wrap64 (((wrap64 ((wrap64 (t269 * 7244)) + (wrap64 (Int.tdiv (wrap64 ((wrap64 (Int.tdiv t269 1000000)) * 19458077)) 1000)))) / 4096) - (wrap64 (Int.tdiv t271 6)))) + (wrap64 (Int.tdiv t273 120)))) (wrap64 ((wrap64 (Int.tdiv t270 2)) - (wrap64 (Int.tdiv t274 24)))) 0))))) = some (r1, r2) := H
 have A3 := Aside0.mk A30
 clear A30
 replace H := Option.bind_eq_some_iff.mp H
 obtain ⟨t271, A40, H⟩ := H
 replace H : ((ephemerisref2_Mul.f ((wrap64 ((wrap64 (t269 * 7244)) + (wrap64 (Int.tdiv (wrap64 ((wrap64 (Int.tdiv t269 1000000)) * 19458077)) 1000)))) / 4096) t270).bind fun t272 => ((ephemerisref2_Mul.f t272 t270).bind fun t273 => ((ephemerisref2_Mul.f t270 t270).bind fun t274 => (ephemerisref2_SinCos.l0 k (wrap64 ((wrap64 (((wrap64 ((wrap64 (t269 * 7244)) + (wrap64 (Int.tdiv (wrap64 ((wrap64 (Int.tdiv t269 1000000)) * 19458077)) 1000)))) / 4096) - (wrap64 (Int.tdiv t271 6)))) + (wrap64 (Int.tdiv t273 120)))) (wrap64 ((wrap64 (Int.tdiv t270 2)) - (wrap64 (Int.tdiv t274 24)))) 0)))) = some (r1, r2) := H
 have A4 := Aside0.mk A40
 clear A40
 replace H := Option.bind_eq_some_iff.mp H
 obtain ⟨t272, A50, H⟩ := H
 replace H : ((ephemerisref2_Mul.f t272 t270).bind fun t273 => ((ephemerisref2_Mul.f t270 t270).bind fun t274 => (ephemerisref2_SinCos.l0 k (wrap64 ((wrap64 (((wrap64 ((wrap64 (t269 * 7244)) + (wrap64 (Int.tdiv (wrap64 ((wrap64 (Int.tdiv t269 1000000)) * 19458077)) 1000)))) / 4096) - (wrap64 (Int.tdiv t271 6)))) + (wrap64 (Int.tdiv t273 120)))) (wrap64 ((wrap64 (Int.tdiv t270 2)) - (wrap64 (Int.tdiv t274 24)))) 0))) = some (r1, r2) := H
 have A5 := Aside0.mk A50
 clear A50
 replace H := Option.bind_eq_some_iff.mp H
 obtain ⟨t273, A60, H⟩ := H
 replace H : ((ephemerisref2_Mul.f t270 t270).bind fun t274 => (ephemerisref2_SinCos.l0 k (wrap64 ((wrap64 (((wrap64 ((wrap64 (t269 * 7244)) + (wrap64 (Int.tdiv (wrap64 ((wrap64 (Int.tdiv t269 1000000)) * 19458077)) 1000)))) / 4096) - (wrap64 (Int.tdiv t271 6)))) + (wrap64 (Int.tdiv t273 120)))) (wrap64 ((wrap64 (Int.tdiv t270 2)) - (wrap64 (Int.tdiv t274 24)))) 0)) = some (r1, r2) := H
 have A6 := Aside0.mk A60
 clear A60
 replace H := Option.bind_eq_some_iff.mp H
 obtain ⟨t274, A70, H⟩ := H
 replace H : (ephemerisref2_SinCos.l0 k (wrap64 ((wrap64 (((wrap64 ((wrap64 (t269 * 7244)) + (wrap64 (Int.tdiv (wrap64 ((wrap64 (Int.tdiv t269 1000000)) * 19458077)) 1000)))) / 4096) - (wrap64 (Int.tdiv t271 6)))) + (wrap64 (Int.tdiv t273 120)))) (wrap64 ((wrap64 (Int.tdiv t270 2)) - (wrap64 (Int.tdiv t274 24)))) 0) = some (r1, r2) := H
 have A7 := Aside0.mk A70
 clear A70
 have H' := Aside0.mk H
 clear H
 go_enter Try.func71, Try.ntmps71
 go_wp2_with (first | ((with_reducible refine gate_callee (f := 40) rfl ?_); refine goesL_ (some 9) rfl rfl Try.func40 (by kernel_rfl) rfl #[.int .i64 a0, .int .i64 1000000000000000] rfl (by (try simp only [List.map_toArray, List.map_cons, List.map_nil]); first | done | rfl | (simp only [List.length_drop, List.length_take]; rfl)) ?_; (with_reducible refine (ephemerisref2_Mod.calls a0 1000000000000000 t269 _ A2.out).mono ?_); rintro e w' ⟨rfl, ⟨nd, rfl⟩⟩; refine ⟨_, rfl, ?_⟩) | ((with_reducible refine gate_callee (f := 90) rfl ?_); refine goesL_ (some 20) rfl rfl Try.func90 (by kernel_rfl) rfl #[.int .i64 ((wrap64 ((wrap64 (t269 * 7244)) + (wrap64 (Int.tdiv (wrap64 ((wrap64 (Int.tdiv t269 1000000)) * 19458077)) 1000)))) / 4096), .int .i64 ((wrap64 ((wrap64 (t269 * 7244)) + (wrap64 (Int.tdiv (wrap64 ((wrap64 (Int.tdiv t269 1000000)) * 19458077)) 1000)))) / 4096)] rfl (by (try simp only [List.map_toArray, List.map_cons, List.map_nil]); first | done | rfl | (simp only [List.length_drop, List.length_take]; rfl)) ?_; (with_reducible refine (ephemerisref2_Mul.calls ((wrap64 ((wrap64 (t269 * 7244)) + (wrap64 (Int.tdiv (wrap64 ((wrap64 (Int.tdiv t269 1000000)) * 19458077)) 1000)))) / 4096) ((wrap64 ((wrap64 (t269 * 7244)) + (wrap64 (Int.tdiv (wrap64 ((wrap64 (Int.tdiv t269 1000000)) * 19458077)) 1000)))) / 4096) t270 _ A3.out).mono ?_); rintro e w' ⟨rfl, ⟨nd, rfl⟩⟩; refine ⟨_, rfl, ?_⟩) | ((with_reducible refine gate_callee (f := 90) rfl ?_); refine goesL_ (some 24) rfl rfl Try.func90 (by kernel_rfl) rfl #[.int .i64 ((wrap64 ((wrap64 (t269 * 7244)) + (wrap64 (Int.tdiv (wrap64 ((wrap64 (Int.tdiv t269 1000000)) * 19458077)) 1000)))) / 4096), .int .i64 t270] rfl (by (try simp only [List.map_toArray, List.map_cons, List.map_nil]); first | done | rfl | (simp only [List.length_drop, List.length_take]; rfl)) ?_; (with_reducible refine (ephemerisref2_Mul.calls ((wrap64 ((wrap64 (t269 * 7244)) + (wrap64 (Int.tdiv (wrap64 ((wrap64 (Int.tdiv t269 1000000)) * 19458077)) 1000)))) / 4096) t270 t271 _ A4.out).mono ?_); rintro e w' ⟨rfl, ⟨nd, rfl⟩⟩; refine ⟨_, rfl, ?_⟩) | ((with_reducible refine gate_callee (f := 90) rfl ?_); refine goesL_ (some 29) rfl rfl Try.func90 (by kernel_rfl) rfl #[.int .i64 ((wrap64 ((wrap64 (t269 * 7244)) + (wrap64 (Int.tdiv (wrap64 ((wrap64 (Int.tdiv t269 1000000)) * 19458077)) 1000)))) / 4096), .int .i64 t270] rfl (by (try simp only [List.map_toArray, List.map_cons, List.map_nil]); first | done | rfl | (simp only [List.length_drop, List.length_take]; rfl)) ?_; (with_reducible refine (ephemerisref2_Mul.calls ((wrap64 ((wrap64 (t269 * 7244)) + (wrap64 (Int.tdiv (wrap64 ((wrap64 (Int.tdiv t269 1000000)) * 19458077)) 1000)))) / 4096) t270 t272 _ A5.out).mono ?_); rintro e w' ⟨rfl, ⟨nd, rfl⟩⟩; refine ⟨_, rfl, ?_⟩) | ((with_reducible refine gate_callee (f := 90) rfl ?_); refine goesL_ (some 31) rfl rfl Try.func90 (by kernel_rfl) rfl #[.int .i64 t272, .int .i64 t270] rfl (by (try simp only [List.map_toArray, List.map_cons, List.map_nil]); first | done | rfl | (simp only [List.length_drop, List.length_take]; rfl)) ?_; (with_reducible refine (ephemerisref2_Mul.calls t272 t270 t273 _ A6.out).mono ?_); rintro e w' ⟨rfl, ⟨nd, rfl⟩⟩; refine ⟨_, rfl, ?_⟩) | ((with_reducible refine gate_callee (f := 90) rfl ?_); refine goesL_ (some 38) rfl rfl Try.func90 (by kernel_rfl) rfl #[.int .i64 t270, .int .i64 t270] rfl (by (try simp only [List.map_toArray, List.map_cons, List.map_nil]); first | done | rfl | (simp only [List.length_drop, List.length_take]; rfl)) ?_; (with_reducible refine (ephemerisref2_Mul.calls t270 t270 t274 _ A7.out).mono ?_); rintro e w' ⟨rfl, ⟨nd, rfl⟩⟩; refine ⟨_, rfl, ?_⟩))
 go_loopg [6, 7, 41] k (fun kq v6 v7 v41 w' => ∃ (x6_1 : Int) (x7_1 : Int) (x41_1 : Int), v6 = .int .i64 x6_1 ∧ v7 = .int .i64 x7_1 ∧ v41 = .int .i64 x41_1 ∧ Aside0 (ephemerisref2_SinCos.l0 kq x6_1 x7_1 x41_1 = some (r1, r2)) ∧ Aside0 (kq ≤ k) ∧ Drawn0 w w')
 case atStart => exact ⟨(wrap64 ((wrap64 (((wrap64 ((wrap64 (t269 * 7244)) + (wrap64 (Int.tdiv (wrap64 ((wrap64 (Int.tdiv t269 1000000)) * 19458077)) 1000)))) / 4096) - (wrap64 (Int.tdiv t271 6)))) + (wrap64 (Int.tdiv t273 120)))), (wrap64 ((wrap64 (Int.tdiv t270 2)) - (wrap64 (Int.tdiv t274 24)))), (0), (by first | rfl | (simp; done) | (simp [*]; done)), (by first | rfl | (simp; done) | (simp [*]; done)), (by first | rfl | (simp; done) | (simp [*]; done)), H', ⟨Nat.le_refl _⟩, by repeat (first | exact Drawn0.refl _ | apply Drawn0.step)⟩
 case round =>
  clear H'
  try clear p2
  try clear c4
  try clear p6
  try clear c7
  obtain ⟨x6_1, x7_1, x41_1, rfl, rfl, rfl, HA, HK1, ⟨m1, rfl⟩⟩ := hrel
  cases gk with
  | zero => exact absurd HA.out (by simp [ephemerisref2_SinCos.l0])
  | succ k1 =>
   have H := HA.out
   clear HA
   simp only [ephemerisref2_SinCos.l0] at H
   by_cases c8 : x41_1 < 12
   ·rw [if_pos c8] at H
    have c8b0 : decide (x41_1 < 12) = true := decide_eq_true c8
    clear c8
    replace H := Option.bind_eq_some_iff.mp H
    obtain ⟨t275, A90, H⟩ := H
    replace H : ((ephemerisref2_Mul.f x6_1 x6_1).bind fun t276 => (ephemerisref2_SinCos.l0 k1 (wrap64 (2 * t275)) (wrap64 (2 * t276)) (wrap64 (x41_1 + 1)))) = some (r1, r2) := H
    have A9 := Aside0.mk A90
    clear A90
    replace H := Option.bind_eq_some_iff.mp H
    obtain ⟨t276, A100, H⟩ := H
    replace H : (ephemerisref2_SinCos.l0 k1 (wrap64 (2 * t275)) (wrap64 (2 * t276)) (wrap64 (x41_1 + 1))) = some (r1, r2) := H
    have A10 := Aside0.mk A100
    clear A100
    have H' := Aside0.mk H
    clear H
    go_wp2_with (first | ((with_reducible refine gate_callee (f := 90) rfl ?_); refine goesL_ (some 46) rfl rfl Try.func90 (by kernel_rfl) rfl #[.int .i64 x6_1, .int .i64 (wrap64 (1152921504606846976 - x7_1))] rfl (by (try simp only [List.map_toArray, List.map_cons, List.map_nil]); first | done | rfl | (simp only [List.length_drop, List.length_take]; rfl)) ?_; (with_reducible refine (ephemerisref2_Mul.calls x6_1 (wrap64 (1152921504606846976 - x7_1)) t275 _ A9.out).mono ?_); rintro e w' ⟨rfl, ⟨nd, rfl⟩⟩; refine ⟨_, rfl, ?_⟩) | ((with_reducible refine gate_callee (f := 90) rfl ?_); refine goesL_ (some 50) rfl rfl Try.func90 (by kernel_rfl) rfl #[.int .i64 x6_1, .int .i64 x6_1] rfl (by (try simp only [List.map_toArray, List.map_cons, List.map_nil]); first | done | rfl | (simp only [List.length_drop, List.length_take]; rfl)) ?_; (with_reducible refine (ephemerisref2_Mul.calls x6_1 x6_1 t276 _ A10.out).mono ?_); rintro e w' ⟨rfl, ⟨nd, rfl⟩⟩; refine ⟨_, rfl, ?_⟩))
    go_roundg k1
    case measure => have := HK1.out; omega
    case rel => exact ⟨(wrap64 (2 * t275)), (wrap64 (2 * t276)), (wrap64 (x41_1 + 1)), (by first | rfl | (simp; done) | (simp [*]; done)), (by first | rfl | (simp; done) | (simp [*]; done)), (by first | rfl | (simp; done) | (simp [*]; done)), H', ⟨by have := HK1.out; omega⟩, by repeat (first | exact Drawn0.refl _ | apply Drawn0.step)⟩
   ·rw [if_neg c8] at H
    have c8b0 : decide (x41_1 < 12) = false := decide_eq_false c8
    clear c8
    simp only [Option.some.injEq, Prod.mk.injEq] at H
    obtain ⟨rfl, rfl⟩ := H
    go_wp2
    go_ret2
    exact ⟨by first | rfl | (simp; done) | (simp [*]; done), by repeat (first | exact Drawn0.refl _ | apply Drawn0.step)⟩
end Go.Proofs.Ytmahlfjnejbcnaa.PAll
end
section
namespace Go.Proofs.Ytmahlfjnejbcnaa.PAll
open Go.RowKit YtmahlfjnejbcnaaW.PrintWords YtmahlfjnejbcnaaW.PrintLast YtmahlfjnejbcnaaW.PrintMore More2
attribute [local go_sem] max2_int min2_int max_two min_two max_three min_three max_four min_four tdiv2e18_ tdiv1e18_ cellSS_  -- for this text's walks alone
def ephemerisref2_Part.f (a0 : Int) (a1 : Int) : Option (Int) := if a1 < 0 then (some (wrap64 ((-1) * ((wrap64 ((wrap64 (a0 * ((wrap64 (-a1)) / 1073741824))) + ((wrap64 (a0 * (Go.bits .and .i64 (wrap64 (-a1)) 1073741823))) / 1073741824))) / 1024)))) else (some (wrap64 (1 * ((wrap64 ((wrap64 (a0 * (a1 / 1073741824))) + ((wrap64 (a0 * (Go.bits .and .i64 a1 1073741823))) / 1073741824))) / 1024))))
theorem ephemerisref2_Part.calls (a0 : Int) (a1 : Int) (r : Int) (w : World) (h : ephemerisref2_Part.f a0 a1 = some r) :
  Calls Try.prog 72 #[.int .i64 a0, .int .i64 a1] w fun e w' => e = .returned (.int .i64 r) ∧ Drawn0 w w' := by
 have H : (if a1 < 0 then (some (wrap64 ((-1) * ((wrap64 ((wrap64 (a0 * ((wrap64 (-a1)) / 1073741824))) + ((wrap64 (a0 * (Go.bits .and .i64 (wrap64 (-a1)) 1073741823))) / 1073741824))) / 1024)))) else (some (wrap64 (1 * ((wrap64 ((wrap64 (a0 * (a1 / 1073741824))) + ((wrap64 (a0 * (Go.bits .and .i64 a1 1073741823))) / 1073741824))) / 1024))))) = some r := h
 clear h
 by_cases c3 : a1 < 0
 ·rw [if_pos c3] at H
  have c3b0 : decide (a1 < 0) = true := decide_eq_true c3
  clear c3
  obtain rfl := Option.some.inj H
  simp only [Option.some.injEq, Prod.mk.injEq] at H
  obtain ⟨rfl⟩ := H
  go_enter Try.func72, Try.ntmps72
  go_wp2
  go_ret
  exact ⟨by first | rfl | (simp; done) | (simp [*]; done), by repeat (first | exact Drawn0.refl _ | apply Drawn0.step)⟩
 ·rw [if_neg c3] at H
  have c3b0 : decide (a1 < 0) = false := decide_eq_false c3
  clear c3
  obtain rfl := Option.some.inj H
  simp only [Option.some.injEq, Prod.mk.injEq] at H
  obtain ⟨rfl⟩ := H
  go_enter Try.func72, Try.ntmps72
  go_wp2
  go_ret
  exact ⟨by first | rfl | (simp; done) | (simp [*]; done), by repeat (first | exact Drawn0.refl _ | apply Drawn0.step)⟩
end Go.Proofs.Ytmahlfjnejbcnaa.PAll
end
section
namespace Go.Proofs.Ytmahlfjnejbcnaa.PAll
open Go.RowKit YtmahlfjnejbcnaaW.PrintWords YtmahlfjnejbcnaaW.PrintLast YtmahlfjnejbcnaaW.PrintMore More2
attribute [local go_sem] max2_int min2_int max_two min_two max_three min_three max_four min_four tdiv2e18_ tdiv1e18_ cellSS_  -- for this text's walks alone
def ephemerisref2_Sum.l0 : Nat → Int → Int → List (S71) → Int → Int → Option (Int)
 | 0, _, _, _, _, _ => none
 | k + 1, x1, x5, x14, x15, x16 => if x16 < x15 then (if 0 ≤ x16 then (if x16 < (x14.length : Int) then ((ephemerisref2_Arg.f k ((rd_T71 x14 x16).f2) x1).bind fun t280 => ((ephemerisref2_SinCos.f k (wrap64 (t280 + (wrap64 (((rd_T71 x14 x16).f1) * 1000000))))).bind fun bt281 => ((ephemerisref2_Part.f ((rd_T71 x14 x16).f0) bt281.1).bind fun t283 => (ephemerisref2_Sum.l0 k x1 (wrap64 (x5 + t283)) x14 x15 (wrap64 (x16 + 1)))))) else (none)) else (none)) else (some x5)
def ephemerisref2_Sum.f (k : Nat) (a0_0 : Int) (a0_1 : Int) (l0_2 : List (S71)) (a0_3 : Int) (a1 : Int) : Option (Int) := ephemerisref2_Sum.l0 k a1 (wrap64 (a0_0 * 1048576)) l0_2 (l0_2.length : Int) 0
theorem ephemerisref2_Sum.calls (k : Nat) (a0_0 : Int) (a0_1 : Int) (A0_2 : Option Addr) (c0_2 : Nat) (l0_2 : List (S71)) (a0_3 : Int) (a1 : Int) (r : Int) (w : World) (hr0_2 : Kd.C k71 w A0_2 l0_2.length l0_2) (hc0_2 : l0_2.length ≤ c0_2) (h : ephemerisref2_Sum.f k a0_0 a0_1 l0_2 a0_3 a1 = some r) :
  Calls Try.prog 53 #[.agg #[.int .i64 a0_0, .int .i64 a0_1, .slice A0_2 l0_2.length c0_2, .int .i64 a0_3], .int .i64 a1] w fun e w' => e = .returned (.int .i64 r) ∧ Below w.heap.size w w' := by
 have hu57 := Try.underlying57
 have hu71 := Try.underlying71
 have HR0_2 := Aside0.mk hr0_2
 have HC0_2 := Aside0.mk hc0_2
 clear hr0_2 hc0_2
 have HB := Aside0.mk (Below.refl w.heap.size w)
 have H : (ephemerisref2_Sum.l0 k a1 (wrap64 (a0_0 * 1048576)) l0_2 (l0_2.length : Int) 0) = some r := h
 clear h
 have H' := Aside0.mk H
 clear H
 go_enter Try.func53, Try.ntmps53
 go_wp2_with (first | ((with_reducible refine gate_dst (N := 2) rfl ?_); refine box_event ?hg (N := 2) ?hd (cs := #[.int .i64 a0_0, .int .i64 a0_1, .slice A0_2 l0_2.length c0_2, .int .i64 a0_3]) (t := 57) ?hr ?_; (case hd => rfl); (case hg => rfl); (case hr => first | (go_simp; done) | (go_simp; rfl)); intro gb277 hg w3 hbox hb; have n0_ := Aside0.mk (below_step (by repeat (first | (with_reducible first | exact HB.out | apply below_alloc | apply pw_below_drewN | apply below_drew1) | exact HB.out)) hb); have n1_ := Aside0.mk (hbox); have n2_ := Aside0.mk ((by rw [hg]; exact (below_size (by repeat (first | (with_reducible first | exact HB.out | apply below_alloc | apply pw_below_drewN | apply below_drew1) | exact HB.out))) : w.heap.size ≤ gb277)); have n3_ := Aside0.mk ((by rw [hg]; exact (below_size (by repeat (first | (with_reducible first | exact HB.out | apply below_alloc | apply pw_below_drewN | apply below_drew1) | exact HB.out))) : w.heap.size ≤ gb277)); clear HB; have HB := n0_; have BK277 := n1_; have GW277 := n2_; have GE277 := n3_; clear n0_ n1_ n2_ n3_; clear hb hbox hg; have hcz4_0 : w3.cell? ⟨gb277, 0, none⟩ = some (.int .i64 a0_0) := (blk_cell BK277.out 0).trans rfl; have hcz4_1 : w3.cell? ⟨gb277, 1, none⟩ = some (.int .i64 a0_1) := (blk_cell BK277.out 1).trans rfl; have hcz4_2 : w3.cell? ⟨gb277, 2, none⟩ = some (.slice A0_2 l0_2.length c0_2) := (blk_cell BK277.out 2).trans rfl; have hcz4_3 : w3.cell? ⟨gb277, 3, none⟩ = some (.int .i64 a0_3) := (blk_cell BK277.out 3).trans rfl; have hfz4_0 := blk_frozen BK277.out 0; have hfz4_1 := blk_frozen BK277.out 1; have hfz4_2 := blk_frozen BK277.out 2; have hfz4_3 := blk_frozen BK277.out 3))
 repeat (go_quiet (first | ((with_reducible refine gate_dst (N := 2) rfl ?_); refine box_event ?hg (N := 2) ?hd (cs := #[.int .i64 a0_0, .int .i64 a0_1, .slice A0_2 l0_2.length c0_2, .int .i64 a0_3]) (t := 57) ?hr ?_; (case hd => rfl); (case hg => rfl); (case hr => first | (go_simp; done) | (go_simp; rfl)); intro gb277 hg w3 hbox hb; have n0_ := Aside0.mk (below_step (by repeat (first | (with_reducible first | exact HB.out | apply below_alloc | apply pw_below_drewN | apply below_drew1) | exact HB.out)) hb); have n1_ := Aside0.mk (hbox); have n2_ := Aside0.mk ((by rw [hg]; exact (below_size (by repeat (first | (with_reducible first | exact HB.out | apply below_alloc | apply pw_below_drewN | apply below_drew1) | exact HB.out))) : w.heap.size ≤ gb277)); have n3_ := Aside0.mk ((by rw [hg]; exact (below_size (by repeat (first | (with_reducible first | exact HB.out | apply below_alloc | apply pw_below_drewN | apply below_drew1) | exact HB.out))) : w.heap.size ≤ gb277)); clear HB; have HB := n0_; have BK277 := n1_; have GW277 := n2_; have GE277 := n3_; clear n0_ n1_ n2_ n3_; clear hb hbox hg; have hcz4_0 : w3.cell? ⟨gb277, 0, none⟩ = some (.int .i64 a0_0) := (blk_cell BK277.out 0).trans rfl; have hcz4_1 : w3.cell? ⟨gb277, 1, none⟩ = some (.int .i64 a0_1) := (blk_cell BK277.out 1).trans rfl; have hcz4_2 : w3.cell? ⟨gb277, 2, none⟩ = some (.slice A0_2 l0_2.length c0_2) := (blk_cell BK277.out 2).trans rfl; have hcz4_3 : w3.cell? ⟨gb277, 3, none⟩ = some (.int .i64 a0_3) := (blk_cell BK277.out 3).trans rfl; have hfz4_0 := blk_frozen BK277.out 0; have hfz4_1 := blk_frozen BK277.out 1; have hfz4_2 := blk_frozen BK277.out 2; have hfz4_3 := blk_frozen BK277.out 3)); try go_wp2_with (first | ((with_reducible refine gate_dst (N := 2) rfl ?_); refine box_event ?hg (N := 2) ?hd (cs := #[.int .i64 a0_0, .int .i64 a0_1, .slice A0_2 l0_2.length c0_2, .int .i64 a0_3]) (t := 57) ?hr ?_; (case hd => rfl); (case hg => rfl); (case hr => first | (go_simp; done) | (go_simp; rfl)); intro gb277 hg w3 hbox hb; have n0_ := Aside0.mk (below_step (by repeat (first | (with_reducible first | exact HB.out | apply below_alloc | apply pw_below_drewN | apply below_drew1) | exact HB.out)) hb); have n1_ := Aside0.mk (hbox); have n2_ := Aside0.mk ((by rw [hg]; exact (below_size (by repeat (first | (with_reducible first | exact HB.out | apply below_alloc | apply pw_below_drewN | apply below_drew1) | exact HB.out))) : w.heap.size ≤ gb277)); have n3_ := Aside0.mk ((by rw [hg]; exact (below_size (by repeat (first | (with_reducible first | exact HB.out | apply below_alloc | apply pw_below_drewN | apply below_drew1) | exact HB.out))) : w.heap.size ≤ gb277)); clear HB; have HB := n0_; have BK277 := n1_; have GW277 := n2_; have GE277 := n3_; clear n0_ n1_ n2_ n3_; clear hb hbox hg; have hcz4_0 : w3.cell? ⟨gb277, 0, none⟩ = some (.int .i64 a0_0) := (blk_cell BK277.out 0).trans rfl; have hcz4_1 : w3.cell? ⟨gb277, 1, none⟩ = some (.int .i64 a0_1) := (blk_cell BK277.out 1).trans rfl; have hcz4_2 : w3.cell? ⟨gb277, 2, none⟩ = some (.slice A0_2 l0_2.length c0_2) := (blk_cell BK277.out 2).trans rfl; have hcz4_3 : w3.cell? ⟨gb277, 3, none⟩ = some (.int .i64 a0_3) := (blk_cell BK277.out 3).trans rfl; have hfz4_0 := blk_frozen BK277.out 0; have hfz4_1 := blk_frozen BK277.out 1; have hfz4_2 := blk_frozen BK277.out 2; have hfz4_3 := blk_frozen BK277.out 3)))
 go_loopg [5, 16] k (fun kq v5 v16 w' => ∃ (x5_1 : Int) (x16_1 : Int), v5 = .int .i64 x5_1 ∧ v16 = .int .i64 x16_1 ∧ Aside0 (ephemerisref2_Sum.l0 kq a1 x5_1 l0_2 (l0_2.length : Int) x16_1 = some r) ∧ Aside0 (kq ≤ k) ∧ Aside0 (w'.heap[gb277]? = some (.cells #[.int .i64 a0_0, .int .i64 a0_1, (.slice A0_2 l0_2.length c0_2), .int .i64 a0_3] 57 (0, 0))) ∧ Aside0 (Below w.heap.size w w'))
 case atStart => exact ⟨(wrap64 (a0_0 * 1048576)), (0), (by first | rfl | (simp; done) | (simp [*]; done)), (by first | rfl | (simp; done) | (simp [*]; done)), H', ⟨Nat.le_refl _⟩, ⟨by (with_reducible repeat (first | refine blk_drewN ?_ _ | refine blk_drew ?_ | refine blk_alloc ?_ _)); exact BK277.out⟩, ⟨by repeat (first | (with_reducible first | exact HB.out | apply below_alloc | apply pw_below_drewN | apply below_drew1 | refine below_set ?_ GE277.out) | exact HB.out)⟩⟩
 case round =>
  clear H'
  try clear p2
  try clear hcz4_0
  try clear hcz4_1
  try clear hcz4_2
  try clear hcz4_3
  try clear hfz4_0
  try clear hfz4_1
  try clear hfz4_2
  try clear hfz4_3
  obtain ⟨x5_1, x16_1, rfl, rfl, HA, HK1, BK277, HB⟩ := hrel
  cases gk with
  | zero => exact absurd HA.out (by simp [ephemerisref2_Sum.l0])
  | succ k1 =>
   have H := HA.out
   clear HA
   simp only [ephemerisref2_Sum.l0] at H
   by_cases c5 : x16_1 < (l0_2.length : Int)
   ·rw [if_pos c5] at H
    have c5b0 : decide (x16_1 < (l0_2.length : Int)) = true := decide_eq_true c5
    clear c5
    by_cases c6 : 0 ≤ x16_1
    ·rw [if_pos c6] at H
     have c6b0 : decide (0 ≤ x16_1) = true := decide_eq_true c6
     clear c6
     by_cases c7 : x16_1 < (l0_2.length : Int)
     ·rw [if_pos c7] at H
      have c7b0 : decide (x16_1 < (l0_2.length : Int)) = true := decide_eq_true c7
      clear c7
      replace H := Option.bind_eq_some_iff.mp H
      obtain ⟨t280, A80, H⟩ := H
      replace H : ((ephemerisref2_SinCos.f k1 (wrap64 (t280 + (wrap64 (((rd_T71 l0_2 x16_1).f1) * 1000000))))).bind fun bt281 => ((ephemerisref2_Part.f ((rd_T71 l0_2 x16_1).f0) bt281.1).bind fun t283 => (ephemerisref2_Sum.l0 k1 a1 (wrap64 (x5_1 + t283)) l0_2 (l0_2.length : Int) (wrap64 (x16_1 + 1))))) = some r := H
      have A8 := Aside0.mk A80
      clear A80
      replace H := Option.bind_eq_some_iff.mp H
      obtain ⟨⟨t281, t282⟩, A90, H⟩ := H
      replace H : ((ephemerisref2_Part.f ((rd_T71 l0_2 x16_1).f0) t281).bind fun t283 => (ephemerisref2_Sum.l0 k1 a1 (wrap64 (x5_1 + t283)) l0_2 (l0_2.length : Int) (wrap64 (x16_1 + 1)))) = some r := H
      have A9 := Aside0.mk A90
      clear A90
      replace H := Option.bind_eq_some_iff.mp H
      obtain ⟨t283, A100, H⟩ := H
      replace H : (ephemerisref2_Sum.l0 k1 a1 (wrap64 (x5_1 + t283)) l0_2 (l0_2.length : Int) (wrap64 (x16_1 + 1))) = some r := H
      have A10 := Aside0.mk A100
      clear A100
      have H' := Aside0.mk H
      clear H
      have p278 : 0 ≤ (x16_1 : Int) := of_decide_eq_true (by first | (with_reducible assumption) | assumption)
      have q278 : x16_1 < (l0_2.length : Int) := of_decide_eq_true (by first | (with_reducible assumption) | assumption)
      obtain ⟨ad278, e278, hx278_0, hx278_1, hx278_2⟩ := at_T71 HR0_2.out x16_1 p278 q278
      cases e278
      replace hx278_0 := (HB.out.cell (World.block_lt_of_cell? w _ hx278_0)).trans hx278_0
      replace hx278_1 := (HB.out.cell (World.block_lt_of_cell? w _ hx278_1)).trans hx278_1
      replace hx278_2 := (HB.out.cell (World.block_lt_of_cell? w _ hx278_2)).trans hx278_2
      replace p278 := eq_true p278
      replace q278 := eq_true q278
      go_wp2_with (first | ((with_reducible refine gate_dst (N := 7) rfl ?_); refine box_event ?hg (N := 7) ?hd (cs := #[.int .i64 0, .int .i64 0, .int .i64 0]) (t := 71) ?hr ?_; (case hd => rfl); (case hg => rfl); (case hr => first | (go_simp; done) | (go_simp; rfl)); intro gb279 hg w11 hbox hb; have n0_ := Aside0.mk (blk_below (g := gb277) (o := .cells #[.int .i64 a0_0, .int .i64 a0_1, .slice (some ad278) l0_2.length c0_2, .int .i64 a0_3] 57 (0, 0)) (by (with_reducible repeat (first | refine blk_drewN ?_ _ | refine blk_drew ?_ | refine blk_alloc ?_ _)); exact BK277.out) hb); have n1_ := Aside0.mk (below_step (by repeat (first | (with_reducible first | exact HB.out | apply below_alloc | apply pw_below_drewN | apply below_drew1 | refine below_set ?_ GE277.out) | exact HB.out)) hb); have n2_ := Aside0.mk (hbox); have n3_ := Aside0.mk ((by rw [hg]; exact (below_size (by repeat (first | (with_reducible first | exact HB.out | apply below_alloc | apply pw_below_drewN | apply below_drew1 | refine below_set ?_ GE277.out) | exact HB.out))) : w.heap.size ≤ gb279)); have n4_ := Aside0.mk ((by rw [hg]; exact (below_size (by repeat (first | (with_reducible first | exact HB.out | apply below_alloc | apply pw_below_drewN | apply below_drew1 | refine below_set ?_ GE277.out) | exact HB.out))) : w.heap.size ≤ gb279)); have n5_ := Aside0.mk ((by rw [hg]; exact Nat.ne_of_lt (blk_lt (g := gb277) (o := .cells #[.int .i64 a0_0, .int .i64 a0_1, .slice (some ad278) l0_2.length c0_2, .int .i64 a0_3] 57 (0, 0)) (by (with_reducible repeat (first | refine blk_drewN ?_ _ | refine blk_drew ?_ | refine blk_alloc ?_ _)); exact BK277.out)) : gb277 ≠ gb279)); have n6_ := Aside0.mk ((by rw [hg]; exact Nat.ne_of_gt (blk_lt (g := gb277) (o := .cells #[.int .i64 a0_0, .int .i64 a0_1, .slice (some ad278) l0_2.length c0_2, .int .i64 a0_3] 57 (0, 0)) (by (with_reducible repeat (first | refine blk_drewN ?_ _ | refine blk_drew ?_ | refine blk_alloc ?_ _)); exact BK277.out)) : gb279 ≠ gb277)); clear BK277; clear HB; have BK277 := n0_; have HB := n1_; have BK279 := n2_; have GW279 := n3_; have GE279 := n4_; have NB277_279 := n5_; have NB279_277 := n6_; clear n0_ n1_ n2_ n3_ n4_ n5_ n6_; clear hb hbox hg; have hnb12 := NB279_277.out; have hnc12 := NB277_279.out; have hcz13_0 : w11.cell? ⟨gb279, 0, none⟩ = some (.int .i64 0) := (blk_cell BK279.out 0).trans rfl; have hcz13_1 : w11.cell? ⟨gb279, 1, none⟩ = some (.int .i64 0) := (blk_cell BK279.out 1).trans rfl; have hcz13_2 : w11.cell? ⟨gb279, 2, none⟩ = some (.int .i64 0) := (blk_cell BK279.out 2).trans rfl; have hfz13_0 := blk_frozen BK279.out 0; have hfz13_1 := blk_frozen BK279.out 1; have hfz13_2 := blk_frozen BK279.out 2) | (go_at_call 68; (with_reducible refine (ephemerisref2_Arg.calls k1 ((rd_T71 l0_2 x16_1).f2) a1 t280 _ A8.out).mono ?_); rintro e w' ⟨rfl, ⟨nd, rfl⟩⟩; (try first | exact ⟨rfl, _, World.drewN_drewN _ _ _⟩ | exact ⟨rfl, _, Eq.trans (World.drewN_drewN _ _ _) (congrArg (World.drewN _) (Nat.add_assoc _ _ _))⟩)) | (go_at_call 71; (with_reducible refine (ephemerisref2_SinCos.calls k1 (wrap64 (t280 + (wrap64 (((rd_T71 l0_2 x16_1).f1) * 1000000)))) t281 t282 _ A9.out).mono ?_); rintro e w' ⟨rfl, ⟨nd, rfl⟩⟩; (try first | exact ⟨rfl, _, World.drewN_drewN _ _ _⟩ | exact ⟨rfl, _, Eq.trans (World.drewN_drewN _ _ _) (congrArg (World.drewN _) (Nat.add_assoc _ _ _))⟩)) | (go_at_call 72; (with_reducible refine (ephemerisref2_Part.calls ((rd_T71 l0_2 x16_1).f0) t281 t283 _ A10.out).mono ?_); rintro e w' ⟨rfl, ⟨nd, rfl⟩⟩; (try first | exact ⟨rfl, _, World.drewN_drewN _ _ _⟩ | exact ⟨rfl, _, Eq.trans (World.drewN_drewN _ _ _) (congrArg (World.drewN _) (Nat.add_assoc _ _ _))⟩)))
      repeat (go_quiet (first | ((with_reducible refine gate_dst (N := 7) rfl ?_); refine box_event ?hg (N := 7) ?hd (cs := #[.int .i64 0, .int .i64 0, .int .i64 0]) (t := 71) ?hr ?_; (case hd => rfl); (case hg => rfl); (case hr => first | (go_simp; done) | (go_simp; rfl)); intro gb279 hg w11 hbox hb; have n0_ := Aside0.mk (blk_below (g := gb277) (o := .cells #[.int .i64 a0_0, .int .i64 a0_1, .slice (some ad278) l0_2.length c0_2, .int .i64 a0_3] 57 (0, 0)) (by (with_reducible repeat (first | refine blk_drewN ?_ _ | refine blk_drew ?_ | refine blk_alloc ?_ _)); exact BK277.out) hb); have n1_ := Aside0.mk (below_step (by repeat (first | (with_reducible first | exact HB.out | apply below_alloc | apply pw_below_drewN | apply below_drew1 | refine below_set ?_ GE277.out) | exact HB.out)) hb); have n2_ := Aside0.mk (hbox); have n3_ := Aside0.mk ((by rw [hg]; exact (below_size (by repeat (first | (with_reducible first | exact HB.out | apply below_alloc | apply pw_below_drewN | apply below_drew1 | refine below_set ?_ GE277.out) | exact HB.out))) : w.heap.size ≤ gb279)); have n4_ := Aside0.mk ((by rw [hg]; exact (below_size (by repeat (first | (with_reducible first | exact HB.out | apply below_alloc | apply pw_below_drewN | apply below_drew1 | refine below_set ?_ GE277.out) | exact HB.out))) : w.heap.size ≤ gb279)); have n5_ := Aside0.mk ((by rw [hg]; exact Nat.ne_of_lt (blk_lt (g := gb277) (o := .cells #[.int .i64 a0_0, .int .i64 a0_1, .slice (some ad278) l0_2.length c0_2, .int .i64 a0_3] 57 (0, 0)) (by (with_reducible repeat (first | refine blk_drewN ?_ _ | refine blk_drew ?_ | refine blk_alloc ?_ _)); exact BK277.out)) : gb277 ≠ gb279)); have n6_ := Aside0.mk ((by rw [hg]; exact Nat.ne_of_gt (blk_lt (g := gb277) (o := .cells #[.int .i64 a0_0, .int .i64 a0_1, .slice (some ad278) l0_2.length c0_2, .int .i64 a0_3] 57 (0, 0)) (by (with_reducible repeat (first | refine blk_drewN ?_ _ | refine blk_drew ?_ | refine blk_alloc ?_ _)); exact BK277.out)) : gb279 ≠ gb277)); clear BK277; clear HB; have BK277 := n0_; have HB := n1_; have BK279 := n2_; have GW279 := n3_; have GE279 := n4_; have NB277_279 := n5_; have NB279_277 := n6_; clear n0_ n1_ n2_ n3_ n4_ n5_ n6_; clear hb hbox hg; have hnb12 := NB279_277.out; have hnc12 := NB277_279.out; have hcz13_0 : w11.cell? ⟨gb279, 0, none⟩ = some (.int .i64 0) := (blk_cell BK279.out 0).trans rfl; have hcz13_1 : w11.cell? ⟨gb279, 1, none⟩ = some (.int .i64 0) := (blk_cell BK279.out 1).trans rfl; have hcz13_2 : w11.cell? ⟨gb279, 2, none⟩ = some (.int .i64 0) := (blk_cell BK279.out 2).trans rfl; have hfz13_0 := blk_frozen BK279.out 0; have hfz13_1 := blk_frozen BK279.out 1; have hfz13_2 := blk_frozen BK279.out 2) | (go_at_call 68; (with_reducible refine (ephemerisref2_Arg.calls k1 ((rd_T71 l0_2 x16_1).f2) a1 t280 _ A8.out).mono ?_); rintro e w' ⟨rfl, ⟨nd, rfl⟩⟩; (try first | exact ⟨rfl, _, World.drewN_drewN _ _ _⟩ | exact ⟨rfl, _, Eq.trans (World.drewN_drewN _ _ _) (congrArg (World.drewN _) (Nat.add_assoc _ _ _))⟩)) | (go_at_call 71; (with_reducible refine (ephemerisref2_SinCos.calls k1 (wrap64 (t280 + (wrap64 (((rd_T71 l0_2 x16_1).f1) * 1000000)))) t281 t282 _ A9.out).mono ?_); rintro e w' ⟨rfl, ⟨nd, rfl⟩⟩; (try first | exact ⟨rfl, _, World.drewN_drewN _ _ _⟩ | exact ⟨rfl, _, Eq.trans (World.drewN_drewN _ _ _) (congrArg (World.drewN _) (Nat.add_assoc _ _ _))⟩)) | (go_at_call 72; (with_reducible refine (ephemerisref2_Part.calls ((rd_T71 l0_2 x16_1).f0) t281 t283 _ A10.out).mono ?_); rintro e w' ⟨rfl, ⟨nd, rfl⟩⟩; (try first | exact ⟨rfl, _, World.drewN_drewN _ _ _⟩ | exact ⟨rfl, _, Eq.trans (World.drewN_drewN _ _ _) (congrArg (World.drewN _) (Nat.add_assoc _ _ _))⟩))); try go_wp2_with (first | ((with_reducible refine gate_dst (N := 7) rfl ?_); refine box_event ?hg (N := 7) ?hd (cs := #[.int .i64 0, .int .i64 0, .int .i64 0]) (t := 71) ?hr ?_; (case hd => rfl); (case hg => rfl); (case hr => first | (go_simp; done) | (go_simp; rfl)); intro gb279 hg w11 hbox hb; have n0_ := Aside0.mk (blk_below (g := gb277) (o := .cells #[.int .i64 a0_0, .int .i64 a0_1, .slice (some ad278) l0_2.length c0_2, .int .i64 a0_3] 57 (0, 0)) (by (with_reducible repeat (first | refine blk_drewN ?_ _ | refine blk_drew ?_ | refine blk_alloc ?_ _)); exact BK277.out) hb); have n1_ := Aside0.mk (below_step (by repeat (first | (with_reducible first | exact HB.out | apply below_alloc | apply pw_below_drewN | apply below_drew1 | refine below_set ?_ GE277.out) | exact HB.out)) hb); have n2_ := Aside0.mk (hbox); have n3_ := Aside0.mk ((by rw [hg]; exact (below_size (by repeat (first | (with_reducible first | exact HB.out | apply below_alloc | apply pw_below_drewN | apply below_drew1 | refine below_set ?_ GE277.out) | exact HB.out))) : w.heap.size ≤ gb279)); have n4_ := Aside0.mk ((by rw [hg]; exact (below_size (by repeat (first | (with_reducible first | exact HB.out | apply below_alloc | apply pw_below_drewN | apply below_drew1 | refine below_set ?_ GE277.out) | exact HB.out))) : w.heap.size ≤ gb279)); have n5_ := Aside0.mk ((by rw [hg]; exact Nat.ne_of_lt (blk_lt (g := gb277) (o := .cells #[.int .i64 a0_0, .int .i64 a0_1, .slice (some ad278) l0_2.length c0_2, .int .i64 a0_3] 57 (0, 0)) (by (with_reducible repeat (first | refine blk_drewN ?_ _ | refine blk_drew ?_ | refine blk_alloc ?_ _)); exact BK277.out)) : gb277 ≠ gb279)); have n6_ := Aside0.mk ((by rw [hg]; exact Nat.ne_of_gt (blk_lt (g := gb277) (o := .cells #[.int .i64 a0_0, .int .i64 a0_1, .slice (some ad278) l0_2.length c0_2, .int .i64 a0_3] 57 (0, 0)) (by (with_reducible repeat (first | refine blk_drewN ?_ _ | refine blk_drew ?_ | refine blk_alloc ?_ _)); exact BK277.out)) : gb279 ≠ gb277)); clear BK277; clear HB; have BK277 := n0_; have HB := n1_; have BK279 := n2_; have GW279 := n3_; have GE279 := n4_; have NB277_279 := n5_; have NB279_277 := n6_; clear n0_ n1_ n2_ n3_ n4_ n5_ n6_; clear hb hbox hg; have hnb12 := NB279_277.out; have hnc12 := NB277_279.out; have hcz13_0 : w11.cell? ⟨gb279, 0, none⟩ = some (.int .i64 0) := (blk_cell BK279.out 0).trans rfl; have hcz13_1 : w11.cell? ⟨gb279, 1, none⟩ = some (.int .i64 0) := (blk_cell BK279.out 1).trans rfl; have hcz13_2 : w11.cell? ⟨gb279, 2, none⟩ = some (.int .i64 0) := (blk_cell BK279.out 2).trans rfl; have hfz13_0 := blk_frozen BK279.out 0; have hfz13_1 := blk_frozen BK279.out 1; have hfz13_2 := blk_frozen BK279.out 2) | (go_at_call 68; (with_reducible refine (ephemerisref2_Arg.calls k1 ((rd_T71 l0_2 x16_1).f2) a1 t280 _ A8.out).mono ?_); rintro e w' ⟨rfl, ⟨nd, rfl⟩⟩; (try first | exact ⟨rfl, _, World.drewN_drewN _ _ _⟩ | exact ⟨rfl, _, Eq.trans (World.drewN_drewN _ _ _) (congrArg (World.drewN _) (Nat.add_assoc _ _ _))⟩)) | (go_at_call 71; (with_reducible refine (ephemerisref2_SinCos.calls k1 (wrap64 (t280 + (wrap64 (((rd_T71 l0_2 x16_1).f1) * 1000000)))) t281 t282 _ A9.out).mono ?_); rintro e w' ⟨rfl, ⟨nd, rfl⟩⟩; (try first | exact ⟨rfl, _, World.drewN_drewN _ _ _⟩ | exact ⟨rfl, _, Eq.trans (World.drewN_drewN _ _ _) (congrArg (World.drewN _) (Nat.add_assoc _ _ _))⟩)) | (go_at_call 72; (with_reducible refine (ephemerisref2_Part.calls ((rd_T71 l0_2 x16_1).f0) t281 t283 _ A10.out).mono ?_); rintro e w' ⟨rfl, ⟨nd, rfl⟩⟩; (try first | exact ⟨rfl, _, World.drewN_drewN _ _ _⟩ | exact ⟨rfl, _, Eq.trans (World.drewN_drewN _ _ _) (congrArg (World.drewN _) (Nat.add_assoc _ _ _))⟩))))
      go_roundg k1
      case measure => have := HK1.out; omega
      case rel => exact ⟨(wrap64 (x5_1 + t283)), (wrap64 (x16_1 + 1)), (by first | rfl | (simp; done) | (simp [*]; done)), (by first | rfl | (simp; done) | (simp [*]; done)), H', ⟨by have := HK1.out; omega⟩, ⟨by (with_reducible repeat (first | refine blk_drewN ?_ _ | refine blk_drew ?_ | refine blk_alloc ?_ _)); refine blk_far ?_ NB277_279.out _; (with_reducible repeat (first | refine blk_drewN ?_ _ | refine blk_drew ?_ | refine blk_alloc ?_ _)); refine blk_far ?_ NB277_279.out _; (with_reducible repeat (first | refine blk_drewN ?_ _ | refine blk_drew ?_ | refine blk_alloc ?_ _)); refine blk_far ?_ NB277_279.out _; (with_reducible repeat (first | refine blk_drewN ?_ _ | refine blk_drew ?_ | refine blk_alloc ?_ _)); exact BK277.out⟩, ⟨by repeat (first | (with_reducible first | exact HB.out | apply below_alloc | apply pw_below_drewN | apply below_drew1 | refine below_set ?_ GE277.out | refine below_set ?_ GE279.out) | exact HB.out)⟩⟩
     ·rw [if_neg c7] at H
      exact absurd H (by simp)
    ·rw [if_neg c6] at H
     exact absurd H (by simp)
   ·rw [if_neg c5] at H
    have c5b0 : decide (x16_1 < (l0_2.length : Int)) = false := decide_eq_false c5
    clear c5
    obtain rfl := Option.some.inj H
    simp only [Option.some.injEq, Prod.mk.injEq] at H
    obtain ⟨rfl⟩ := H
    go_wp2
    repeat (go_quiet (fail); try go_wp2)
    go_ret
    exact ⟨by first | rfl | (simp [errW_none, errW_some] <;> rfl) | (simp [*, errW_none, errW_some] <;> rfl), by repeat (first | (with_reducible first | exact HB.out | apply below_alloc | apply pw_below_drewN | apply below_drew1 | refine below_set ?_ GE277.out) | exact HB.out)⟩
end Go.Proofs.Ytmahlfjnejbcnaa.PAll
end
section
namespace Go.Proofs.Ytmahlfjnejbcnaa.PAll
open Go.RowKit YtmahlfjnejbcnaaW.PrintWords YtmahlfjnejbcnaaW.PrintLast YtmahlfjnejbcnaaW.PrintMore More2
attribute [local go_sem] max2_int min2_int max_two min_two max_three min_three max_four min_four tdiv2e18_ tdiv1e18_ cellSS_  -- for this text's walks alone
def ephemerisref2_Whole.f (k : Nat) (a0_0 : Int) (a0_1 : Int) (l0_2 : List (S71)) (a0_3 : Int) (a1 : Int) : Option (Int) := (ephemerisref2_Arg.f k a0_1 a1).bind fun t285 => ((ephemerisref2_Sum.f k a0_0 a0_1 l0_2 a0_3 a1).bind fun t286 => ((ephemerisref2_Mod.f (wrap64 ((wrap64 (t286 + (wrap64 ((wrap64 (Int.tdiv t285 1000000)) * 1048576)))) + (wrap64 (Int.tdiv (wrap64 ((Int.tmod t285 1000000) * 1048576)) 1000000)))) 1048576000000000).bind fun t287 => (some t287)))
theorem ephemerisref2_Whole.calls (k : Nat) (a0_0 : Int) (a0_1 : Int) (A0_2 : Option Addr) (c0_2 : Nat) (l0_2 : List (S71)) (a0_3 : Int) (a1 : Int) (r : Int) (w : World) (hr0_2 : Kd.C k71 w A0_2 l0_2.length l0_2) (hc0_2 : l0_2.length ≤ c0_2) (h : ephemerisref2_Whole.f k a0_0 a0_1 l0_2 a0_3 a1 = some r) :
  Calls Try.prog 41 #[.agg #[.int .i64 a0_0, .int .i64 a0_1, .slice A0_2 l0_2.length c0_2, .int .i64 a0_3], .int .i64 a1] w fun e w' => e = .returned (.int .i64 r) ∧ Below w.heap.size w w' := by
 have hu57 := Try.underlying57
 have HR0_2 := Aside0.mk hr0_2
 have HC0_2 := Aside0.mk hc0_2
 clear hr0_2 hc0_2
 have HB := Aside0.mk (Below.refl w.heap.size w)
 have H : ((ephemerisref2_Arg.f k a0_1 a1).bind fun t285 => ((ephemerisref2_Sum.f k a0_0 a0_1 l0_2 a0_3 a1).bind fun t286 => ((ephemerisref2_Mod.f (wrap64 ((wrap64 (t286 + (wrap64 ((wrap64 (Int.tdiv t285 1000000)) * 1048576)))) + (wrap64 (Int.tdiv (wrap64 ((Int.tmod t285 1000000) * 1048576)) 1000000)))) 1048576000000000).bind fun t287 => (some t287)))) = some r := h
 clear h
 replace H := Option.bind_eq_some_iff.mp H
 obtain ⟨t285, A30, H⟩ := H
 replace H : ((ephemerisref2_Sum.f k a0_0 a0_1 l0_2 a0_3 a1).bind fun t286 => ((ephemerisref2_Mod.f (wrap64 ((wrap64 (t286 + (wrap64 ((wrap64 (Int.tdiv t285 1000000)) * 1048576)))) + (wrap64 (Int.tdiv (wrap64 ((Int.tmod t285 1000000) * 1048576)) 1000000)))) 1048576000000000).bind fun t287 => (some t287))) = some r := H
 have A3 := Aside0.mk A30
 clear A30
 replace H := Option.bind_eq_some_iff.mp H
 obtain ⟨t286, A40, H⟩ := H
 replace H : ((ephemerisref2_Mod.f (wrap64 ((wrap64 (t286 + (wrap64 ((wrap64 (Int.tdiv t285 1000000)) * 1048576)))) + (wrap64 (Int.tdiv (wrap64 ((Int.tmod t285 1000000) * 1048576)) 1000000)))) 1048576000000000).bind fun t287 => (some t287)) = some r := H
 have A4 := Aside0.mk A40
 clear A40
 replace H := Option.bind_eq_some_iff.mp H
 obtain ⟨t287, A50, H⟩ := H
 replace H : (some t287) = some r := H
 have A5 := Aside0.mk A50
 clear A50
 obtain rfl := Option.some.inj H
 simp only [Option.some.injEq, Prod.mk.injEq] at H
 obtain ⟨rfl⟩ := H
 go_enter Try.func41, Try.ntmps41
 go_wp2_with (first | ((with_reducible refine gate_dst (N := 2) rfl ?_); refine box_event ?hg (N := 2) ?hd (cs := #[.int .i64 a0_0, .int .i64 a0_1, .slice A0_2 l0_2.length c0_2, .int .i64 a0_3]) (t := 57) ?hr ?_; (case hd => rfl); (case hg => rfl); (case hr => first | (go_simp; done) | (go_simp; rfl)); intro gb284 hg w6 hbox hb; have n0_ := Aside0.mk (below_step (by repeat (first | (with_reducible first | exact HB.out | apply below_alloc | apply pw_below_drewN | apply below_drew1) | exact HB.out)) hb); have n1_ := Aside0.mk (hbox); have n2_ := Aside0.mk ((by rw [hg]; exact (below_size (by repeat (first | (with_reducible first | exact HB.out | apply below_alloc | apply pw_below_drewN | apply below_drew1) | exact HB.out))) : w.heap.size ≤ gb284)); have n3_ := Aside0.mk ((by rw [hg]; exact (below_size (by repeat (first | (with_reducible first | exact HB.out | apply below_alloc | apply pw_below_drewN | apply below_drew1) | exact HB.out))) : w.heap.size ≤ gb284)); clear HB; have HB := n0_; have BK284 := n1_; have GW284 := n2_; have GE284 := n3_; clear n0_ n1_ n2_ n3_; clear hb hbox hg; have hcz7_0 : w6.cell? ⟨gb284, 0, none⟩ = some (.int .i64 a0_0) := (blk_cell BK284.out 0).trans rfl; have hcz7_1 : w6.cell? ⟨gb284, 1, none⟩ = some (.int .i64 a0_1) := (blk_cell BK284.out 1).trans rfl; have hcz7_2 : w6.cell? ⟨gb284, 2, none⟩ = some (.slice A0_2 l0_2.length c0_2) := (blk_cell BK284.out 2).trans rfl; have hcz7_3 : w6.cell? ⟨gb284, 3, none⟩ = some (.int .i64 a0_3) := (blk_cell BK284.out 3).trans rfl; have hfz7_0 := blk_frozen BK284.out 0; have hfz7_1 := blk_frozen BK284.out 1; have hfz7_2 := blk_frozen BK284.out 2; have hfz7_3 := blk_frozen BK284.out 3) | ((with_reducible refine gate_callee (f := 68) rfl ?_); refine goesL_ (some 9) rfl rfl Try.func68 (by kernel_rfl) rfl #[.int .i64 a0_1, .int .i64 a1] rfl (by (try simp only [List.map_toArray, List.map_cons, List.map_nil]); first | done | rfl | (simp only [List.length_drop, List.length_take]; rfl)) ?_; (with_reducible refine (ephemerisref2_Arg.calls k a0_1 a1 t285 _ A3.out).mono ?_); rintro e w' ⟨rfl, ⟨nd, rfl⟩⟩; refine ⟨_, rfl, ?_⟩) | ((with_reducible refine gate_callee (f := 53) rfl ?_); refine goesL_ (some 12) rfl rfl Try.func53 (by kernel_rfl) rfl #[.agg #[.int .i64 a0_0, .int .i64 a0_1, .slice A0_2 l0_2.length c0_2, .int .i64 a0_3], .int .i64 a1] rfl (by (try simp only [List.map_toArray, List.map_cons, List.map_nil]); first | done | rfl | (simp only [List.length_drop, List.length_take]; rfl)) ?_; (with_reducible refine (ephemerisref2_Sum.calls k a0_0 a0_1 _ _ l0_2 a0_3 a1 t286 _ ?side1 ?side2 A4.out).mono ?_); (case side1 => repeat (first | exact (Kd.C_below HR0_2.out (by repeat (first | (with_reducible first | exact HB.out | apply below_alloc | apply pw_below_drewN | apply below_drew1 | refine below_set ?_ GE284.out) | exact HB.out))) | (with_reducible refine Kd.C_alloc ?_ _) | (with_reducible refine Kd.C_drewN ?_ _) | (with_reducible refine Kd.C_drew ?_))); (case side2 => exact HC0_2.out); rintro e w8 ⟨rfl, hb⟩; refine ⟨_, rfl, ?_⟩; have n0_ := Aside0.mk (blk_below (g := gb284) (o := .cells #[.int .i64 a0_0, .int .i64 a0_1, .slice A0_2 l0_2.length c0_2, .int .i64 a0_3] 57 (0, 0)) (by (with_reducible repeat (first | refine blk_drewN ?_ _ | refine blk_drew ?_ | refine blk_alloc ?_ _)); exact BK284.out) hb); have n1_ := Aside0.mk (below_step (by repeat (first | (with_reducible first | exact HB.out | apply below_alloc | apply pw_below_drewN | apply below_drew1 | refine below_set ?_ GE284.out) | exact HB.out)) hb); clear BK284; clear HB; have BK284 := n0_; have HB := n1_; clear n0_ n1_; (try clear hb); (try clear hb2); (try clear hk); (try clear hi)) | ((with_reducible refine gate_callee (f := 40) rfl ?_); refine goesL_ (some 22) rfl rfl Try.func40 (by kernel_rfl) rfl #[.int .i64 (wrap64 ((wrap64 (t286 + (wrap64 ((wrap64 (Int.tdiv t285 1000000)) * 1048576)))) + (wrap64 (Int.tdiv (wrap64 ((Int.tmod t285 1000000) * 1048576)) 1000000)))), .int .i64 1048576000000000] rfl (by (try simp only [List.map_toArray, List.map_cons, List.map_nil]); first | done | rfl | (simp only [List.length_drop, List.length_take]; rfl)) ?_; (with_reducible refine (ephemerisref2_Mod.calls (wrap64 ((wrap64 (t286 + (wrap64 ((wrap64 (Int.tdiv t285 1000000)) * 1048576)))) + (wrap64 (Int.tdiv (wrap64 ((Int.tmod t285 1000000) * 1048576)) 1000000)))) 1048576000000000 t287 _ A5.out).mono ?_); rintro e w' ⟨rfl, ⟨nd, rfl⟩⟩; refine ⟨_, rfl, ?_⟩))
 go_ret
 exact ⟨by first | rfl | (simp [errW_none, errW_some] <;> rfl) | (simp [*, errW_none, errW_some] <;> rfl), by repeat (first | (with_reducible first | exact HB.out | apply below_alloc | apply pw_below_drewN | apply below_drew1 | refine below_set ?_ GE284.out) | exact HB.out)⟩
end Go.Proofs.Ytmahlfjnejbcnaa.PAll
end
