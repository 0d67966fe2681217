/- Written by a program of this session: what one law needs. -/
import Derived.Test.YtcifakgcbgodiaaTideEndsn4
set_option maxHeartbeats 8000000
set_option maxRecDepth 100000
set_option linter.unusedSimpArgs false
set_option linter.unusedVariables false
section
namespace Go.Proofs.Ytcifakgcbgodiaa.PAll
open Go.RowKit YtcifakgcbgodiaaW.PrintWords YtcifakgcbgodiaaW.PrintLast YtcifakgcbgodiaaW.PrintMore More2
attribute [local go_sem] max2_int min2_int max_two min_two max_three min_three max_four min_four tdiv2e18_ tdiv1e18_ cellSS_  -- for this text's walks alone
def series_Turned.j0 : Nat → Int → Int → Int → Int → Int → Option (Int)
 | 0, _, _, _, _, _ => none
 | k + 1, x0, x5, x6, x7, x8 => if x5 < 0 then ((interval_Floor.f x0 86400000).bind fun t161 => ((interval_Floor.f (wrap64 ((wrap64 (-(wrap64 ((Int.tmod (wrap64 ((Int.tmod (wrap64 (x7 * (wrap64 (Int.tdiv x8 1000)))) 1000000000000000) * 1000)) 1000000000000000) + (Int.tmod (wrap64 (x7 * (Int.tmod x8 1000))) 1000000000000000))))) + (wrap64 ((wrap64 (t161 * x6)) + (wrap64 (Int.tdiv (wrap64 ((wrap64 (x0 - (wrap64 (t161 * 86400000)))) * x6)) 86400000)))))) 1000000000000000).bind fun t162 => (some (wrap64 ((wrap64 ((wrap64 (-(wrap64 ((Int.tmod (wrap64 ((Int.tmod (wrap64 (x7 * (wrap64 (Int.tdiv x8 1000)))) 1000000000000000) * 1000)) 1000000000000000) + (Int.tmod (wrap64 (x7 * (Int.tmod x8 1000))) 1000000000000000))))) + (wrap64 ((wrap64 (t161 * x6)) + (wrap64 (Int.tdiv (wrap64 ((wrap64 (x0 - (wrap64 (t161 * 86400000)))) * x6)) 86400000)))))) - (wrap64 (t162 * 1000000000000000))))))) else ((interval_Floor.f x0 86400000).bind fun t163 => ((interval_Floor.f (wrap64 ((wrap64 ((Int.tmod (wrap64 ((Int.tmod (wrap64 (x7 * (wrap64 (Int.tdiv x8 1000)))) 1000000000000000) * 1000)) 1000000000000000) + (Int.tmod (wrap64 (x7 * (Int.tmod x8 1000))) 1000000000000000))) + (wrap64 ((wrap64 (t163 * x6)) + (wrap64 (Int.tdiv (wrap64 ((wrap64 (x0 - (wrap64 (t163 * 86400000)))) * x6)) 86400000)))))) 1000000000000000).bind fun t164 => (some (wrap64 ((wrap64 ((wrap64 ((Int.tmod (wrap64 ((Int.tmod (wrap64 (x7 * (wrap64 (Int.tdiv x8 1000)))) 1000000000000000) * 1000)) 1000000000000000) + (Int.tmod (wrap64 (x7 * (Int.tmod x8 1000))) 1000000000000000))) + (wrap64 ((wrap64 (t163 * x6)) + (wrap64 (Int.tdiv (wrap64 ((wrap64 (x0 - (wrap64 (t163 * 86400000)))) * x6)) 86400000)))))) - (wrap64 (t164 * 1000000000000000)))))))
def series_Turned.f (k : Nat) (a0 : Int) (a1 : Int) : Option (Int) := (interval_Floor.f a1 86400000).bind fun t159 => ((interval_Floor.f a0 1000000000000000).bind fun t160 => (if t159 < 0 then (series_Turned.j0 k a0 t159 (wrap64 (a1 - (wrap64 (t159 * 86400000)))) (wrap64 (a0 - (wrap64 (t160 * 1000000000000000)))) (wrap64 (-t159))) else (series_Turned.j0 k a0 t159 (wrap64 (a1 - (wrap64 (t159 * 86400000)))) (wrap64 (a0 - (wrap64 (t160 * 1000000000000000)))) t159)))
theorem series_Turned.mono_l : ∀ k, (∀ y0 y1 y2 y3 y4, LeO (series_Turned.j0 k y0 y1 y2 y3 y4) (series_Turned.j0 (k + 1) y0 y1 y2 y3 y4))
 | 0 => fun _ _ _ _ _ r h => by simp [series_Turned.j0] at h
 | k + 1 => by
  have ih0 := series_Turned.mono_l k
  ·intro y0 y1 y2 y3 y4
   unfold series_Turned.j0
   repeat' first
   | (with_reducible exact ih0 _ _ _ _ _)
   | (with_reducible exact LeO.refl _)
   | (with_reducible exact LeO.none _)
   | (with_reducible refine LeO.ite ?_ ?_)
   | (with_reducible refine LeO.bind ?_ (fun _ => ?_))
   | exact ih0 _ _ _ _ _
   | exact LeO.none _
   | refine LeO.ite ?_ ?_
   | refine LeO.bind ?_ (fun _ => ?_)
theorem series_Turned.mono : ∀ a0 a1 k, LeO (series_Turned.f k a0 a1) (series_Turned.f (k + 1) a0 a1) := by
 intro a0 a1 k
 have ih0 := series_Turned.mono_l k
 unfold series_Turned.f
 repeat' first
   | (with_reducible exact ih0 _ _ _ _ _)
   | (with_reducible exact LeO.refl _)
   | (with_reducible exact LeO.none _)
   | (with_reducible refine LeO.ite ?_ ?_)
   | (with_reducible refine LeO.bind ?_ (fun _ => ?_))
   | exact ih0 _ _ _ _ _
   | exact LeO.none _
   | refine LeO.ite ?_ ?_
   | refine LeO.bind ?_ (fun _ => ?_)
theorem series_Turned.calls (k : Nat) (a0 : Int) (a1 : Int) (r : Int) (w : World) (h : series_Turned.f k a0 a1 = some r) :
  Calls Try.prog 89 #[.int .i64 a0, .int .i64 a1] w fun e w' => e = .returned (.int .i64 r) ∧ Drawn0 w w' := by
 have H : ((interval_Floor.f a1 86400000).bind fun t159 => ((interval_Floor.f a0 1000000000000000).bind fun t160 => (if t159 < 0 then (series_Turned.j0 k a0 t159 (wrap64 (a1 - (wrap64 (t159 * 86400000)))) (wrap64 (a0 - (wrap64 (t160 * 1000000000000000)))) (wrap64 (-t159))) else (series_Turned.j0 k a0 t159 (wrap64 (a1 - (wrap64 (t159 * 86400000)))) (wrap64 (a0 - (wrap64 (t160 * 1000000000000000)))) t159)))) = some r := h
 clear h
 replace H := Option.bind_eq_some_iff.mp H
 obtain ⟨t159, A30, H⟩ := H
 replace H : ((interval_Floor.f a0 1000000000000000).bind fun t160 => (if t159 < 0 then (series_Turned.j0 k a0 t159 (wrap64 (a1 - (wrap64 (t159 * 86400000)))) (wrap64 (a0 - (wrap64 (t160 * 1000000000000000)))) (wrap64 (-t159))) else (series_Turned.j0 k a0 t159 (wrap64 (a1 - (wrap64 (t159 * 86400000)))) (wrap64 (a0 - (wrap64 (t160 * 1000000000000000)))) t159))) = some r := H
 have A3 := Aside0.mk A30
 clear A30
 replace H := Option.bind_eq_some_iff.mp H
 obtain ⟨t160, A40, H⟩ := H
 replace H : (if t159 < 0 then (series_Turned.j0 k a0 t159 (wrap64 (a1 - (wrap64 (t159 * 86400000)))) (wrap64 (a0 - (wrap64 (t160 * 1000000000000000)))) (wrap64 (-t159))) else (series_Turned.j0 k a0 t159 (wrap64 (a1 - (wrap64 (t159 * 86400000)))) (wrap64 (a0 - (wrap64 (t160 * 1000000000000000)))) t159)) = some r := H
 have A4 := Aside0.mk A40
 clear A40
 have HC5 := Aside0.mk H
 clear H
 go_enter Try.func89, Try.ntmps89
 go_upto_if 24 with (first | ((with_reducible refine gate_callee (f := 76) rfl ?_); refine goesL_ (some 12) rfl rfl Try.func76 (by kernel_rfl) rfl #[.int .i64 a1, .int .i64 86400000] rfl (by (try simp only [List.map_toArray, List.map_cons, List.map_nil]); first | done | rfl | (simp only [List.length_drop, List.length_take]; rfl)) ?_; (with_reducible refine (interval_Floor.calls a1 86400000 t159 _ A3.out).mono ?_); rintro e w' ⟨rfl, ⟨nd, rfl⟩⟩; refine ⟨_, rfl, ?_⟩) | ((with_reducible refine gate_callee (f := 76) rfl ?_); refine goesL_ (some 19) rfl rfl Try.func76 (by kernel_rfl) rfl #[.int .i64 a0, .int .i64 1000000000000000] rfl (by (try simp only [List.map_toArray, List.map_cons, List.map_nil]); first | done | rfl | (simp only [List.length_drop, List.length_take]; rfl)) ?_; (with_reducible refine (interval_Floor.calls a0 1000000000000000 t160 _ A4.out).mono ?_); rintro e w' ⟨rfl, ⟨nd, rfl⟩⟩; refine ⟨_, rfl, ?_⟩))
 (try simp only [Act.put, List.setIfInBounds_toArray, List.set_cons_zero, List.set_cons_succ])
 go_cut [8] (fun v8 wc => ∃ (kq : Nat) (x8_4 : Int), v8 = .int .i64 x8_4 ∧ Aside0 (series_Turned.j0 kq a0 t159 (wrap64 (a1 - (wrap64 (t159 * 86400000)))) (wrap64 (a0 - (wrap64 (t160 * 1000000000000000)))) x8_4 = some r) ∧ Aside0 (kq ≤ k) ∧ Drawn0 w wc)
 case first =>
  have H := HC5.out
  clear HC5
  by_cases c6 : t159 < 0
  ·rw [if_pos c6] at H
   have c6b0 : decide (t159 < 0) = true := decide_eq_true c6
   clear c6
   (first | rw [c6b0] | (simp only [i64_w, i32_w]; rw [c6b0]) | skip)
   have H' := Aside0.mk H
   clear H
   go_wp2
   go_meet
   case rel => exact ⟨_, (wrap64 (-t159)), (by first | rfl | (simp; done) | (simp [*]; done)), H', ⟨by first | omega | exact Nat.le_refl _⟩, by repeat (first | exact Drawn0.refl _ | apply Drawn0.step)⟩
  ·rw [if_neg c6] at H
   have c6b0 : decide (t159 < 0) = false := decide_eq_false c6
   clear c6
   (first | rw [c6b0] | (simp only [i64_w, i32_w]; rw [c6b0]) | skip)
   have H' := Aside0.mk H
   clear H
   go_wp2
   go_meet
   case rel => exact ⟨_, (t159), (by first | rfl | (simp; done) | (simp [*]; done)), H', ⟨by first | omega | exact Nat.le_refl _⟩, by repeat (first | exact Drawn0.refl _ | apply Drawn0.step)⟩
 case rest =>
  clear HC5
  try clear p2
  try clear c6
  try clear c6b0
  try clear p6
  obtain ⟨kq, x8_4, rfl, HA, HJ4, ⟨mc4, rfl⟩⟩ := hcut
  cases kq with
  | zero => exact absurd HA.out (by simp [series_Turned.j0])
  | succ kj4 =>
   have H := HA.out
   clear HA
   simp only [series_Turned.j0] at H
   by_cases c7 : t159 < 0
   ·rw [if_pos c7] at H
    have c7b0 : decide (t159 < 0) = true := decide_eq_true c7
    clear c7
    replace H := Option.bind_eq_some_iff.mp H
    obtain ⟨t161, A80, H⟩ := H
    replace H : ((interval_Floor.f (wrap64 ((wrap64 (-(wrap64 ((Int.tmod (wrap64 ((Int.tmod (wrap64 ((wrap64 (a0 - (wrap64 (t160 * 1000000000000000)))) * (wrap64 (Int.tdiv x8_4 1000)))) 1000000000000000) * 1000)) 1000000000000000) + (Int.tmod (wrap64 ((wrap64 (a0 - (wrap64 (t160 * 1000000000000000)))) * (Int.tmod x8_4 1000))) 1000000000000000))))) + (wrap64 ((wrap64 (t161 * (wrap64 (a1 - (wrap64 (t159 * 86400000)))))) + (wrap64 (Int.tdiv (wrap64 ((wrap64 (a0 - (wrap64 (t161 * 86400000)))) * (wrap64 (a1 - (wrap64 (t159 * 86400000)))))) 86400000)))))) 1000000000000000).bind fun t162 => (some (wrap64 ((wrap64 ((wrap64 (-(wrap64 ((Int.tmod (wrap64 ((Int.tmod (wrap64 ((wrap64 (a0 - (wrap64 (t160 * 1000000000000000)))) * (wrap64 (Int.tdiv x8_4 1000)))) 1000000000000000) * 1000)) 1000000000000000) + (Int.tmod (wrap64 ((wrap64 (a0 - (wrap64 (t160 * 1000000000000000)))) * (Int.tmod x8_4 1000))) 1000000000000000))))) + (wrap64 ((wrap64 (t161 * (wrap64 (a1 - (wrap64 (t159 * 86400000)))))) + (wrap64 (Int.tdiv (wrap64 ((wrap64 (a0 - (wrap64 (t161 * 86400000)))) * (wrap64 (a1 - (wrap64 (t159 * 86400000)))))) 86400000)))))) - (wrap64 (t162 * 1000000000000000)))))) = some r := H
    have A8 := Aside0.mk A80
    clear A80
    replace H := Option.bind_eq_some_iff.mp H
    obtain ⟨t162, A90, H⟩ := H
    replace H : (some (wrap64 ((wrap64 ((wrap64 (-(wrap64 ((Int.tmod (wrap64 ((Int.tmod (wrap64 ((wrap64 (a0 - (wrap64 (t160 * 1000000000000000)))) * (wrap64 (Int.tdiv x8_4 1000)))) 1000000000000000) * 1000)) 1000000000000000) + (Int.tmod (wrap64 ((wrap64 (a0 - (wrap64 (t160 * 1000000000000000)))) * (Int.tmod x8_4 1000))) 1000000000000000))))) + (wrap64 ((wrap64 (t161 * (wrap64 (a1 - (wrap64 (t159 * 86400000)))))) + (wrap64 (Int.tdiv (wrap64 ((wrap64 (a0 - (wrap64 (t161 * 86400000)))) * (wrap64 (a1 - (wrap64 (t159 * 86400000)))))) 86400000)))))) - (wrap64 (t162 * 1000000000000000))))) = some r := H
    have A9 := Aside0.mk A90
    clear A90
    obtain rfl := Option.some.inj H
    simp only [Option.some.injEq, Prod.mk.injEq] at H
    obtain ⟨rfl⟩ := H
    go_wp2_with (first | ((with_reducible refine gate_callee (f := 76) rfl ?_); refine goesL_ (some 45) rfl rfl Try.func76 (by kernel_rfl) rfl #[.int .i64 a0, .int .i64 86400000] rfl (by (try simp only [List.map_toArray, List.map_cons, List.map_nil]); first | done | rfl | (simp only [List.length_drop, List.length_take]; rfl)) ?_; (with_reducible refine (interval_Floor.calls a0 86400000 t161 _ A8.out).mono ?_); rintro e w' ⟨rfl, ⟨nd, rfl⟩⟩; refine ⟨_, rfl, ?_⟩) | ((with_reducible refine gate_callee (f := 76) rfl ?_); refine goesL_ (some 61) rfl rfl Try.func76 (by kernel_rfl) rfl #[.int .i64 (wrap64 ((wrap64 (-(wrap64 ((Int.tmod (wrap64 ((Int.tmod (wrap64 ((wrap64 (a0 - (wrap64 (t160 * 1000000000000000)))) * (wrap64 (Int.tdiv x8_4 1000)))) 1000000000000000) * 1000)) 1000000000000000) + (Int.tmod (wrap64 ((wrap64 (a0 - (wrap64 (t160 * 1000000000000000)))) * (Int.tmod x8_4 1000))) 1000000000000000))))) + (wrap64 ((wrap64 (t161 * (wrap64 (a1 - (wrap64 (t159 * 86400000)))))) + (wrap64 (Int.tdiv (wrap64 ((wrap64 (a0 - (wrap64 (t161 * 86400000)))) * (wrap64 (a1 - (wrap64 (t159 * 86400000)))))) 86400000)))))), .int .i64 1000000000000000] rfl (by (try simp only [List.map_toArray, List.map_cons, List.map_nil]); first | done | rfl | (simp only [List.length_drop, List.length_take]; rfl)) ?_; (with_reducible refine (interval_Floor.calls (wrap64 ((wrap64 (-(wrap64 ((Int.tmod (wrap64 ((Int.tmod (wrap64 ((wrap64 (a0 - (wrap64 (t160 * 1000000000000000)))) * (wrap64 (Int.tdiv x8_4 1000)))) 1000000000000000) * 1000)) 1000000000000000) + (Int.tmod (wrap64 ((wrap64 (a0 - (wrap64 (t160 * 1000000000000000)))) * (Int.tmod x8_4 1000))) 1000000000000000))))) + (wrap64 ((wrap64 (t161 * (wrap64 (a1 - (wrap64 (t159 * 86400000)))))) + (wrap64 (Int.tdiv (wrap64 ((wrap64 (a0 - (wrap64 (t161 * 86400000)))) * (wrap64 (a1 - (wrap64 (t159 * 86400000)))))) 86400000)))))) 1000000000000000 t162 _ A9.out).mono ?_); rintro e w' ⟨rfl, ⟨nd, rfl⟩⟩; refine ⟨_, rfl, ?_⟩))
    go_ret
    exact ⟨by first | rfl | (simp; done) | (simp [*]; done), by repeat (first | exact Drawn0.refl _ | apply Drawn0.step)⟩
   ·rw [if_neg c7] at H
    have c7b0 : decide (t159 < 0) = false := decide_eq_false c7
    clear c7
    replace H := Option.bind_eq_some_iff.mp H
    obtain ⟨t163, A100, H⟩ := H
    replace H : ((interval_Floor.f (wrap64 ((wrap64 ((Int.tmod (wrap64 ((Int.tmod (wrap64 ((wrap64 (a0 - (wrap64 (t160 * 1000000000000000)))) * (wrap64 (Int.tdiv x8_4 1000)))) 1000000000000000) * 1000)) 1000000000000000) + (Int.tmod (wrap64 ((wrap64 (a0 - (wrap64 (t160 * 1000000000000000)))) * (Int.tmod x8_4 1000))) 1000000000000000))) + (wrap64 ((wrap64 (t163 * (wrap64 (a1 - (wrap64 (t159 * 86400000)))))) + (wrap64 (Int.tdiv (wrap64 ((wrap64 (a0 - (wrap64 (t163 * 86400000)))) * (wrap64 (a1 - (wrap64 (t159 * 86400000)))))) 86400000)))))) 1000000000000000).bind fun t164 => (some (wrap64 ((wrap64 ((wrap64 ((Int.tmod (wrap64 ((Int.tmod (wrap64 ((wrap64 (a0 - (wrap64 (t160 * 1000000000000000)))) * (wrap64 (Int.tdiv x8_4 1000)))) 1000000000000000) * 1000)) 1000000000000000) + (Int.tmod (wrap64 ((wrap64 (a0 - (wrap64 (t160 * 1000000000000000)))) * (Int.tmod x8_4 1000))) 1000000000000000))) + (wrap64 ((wrap64 (t163 * (wrap64 (a1 - (wrap64 (t159 * 86400000)))))) + (wrap64 (Int.tdiv (wrap64 ((wrap64 (a0 - (wrap64 (t163 * 86400000)))) * (wrap64 (a1 - (wrap64 (t159 * 86400000)))))) 86400000)))))) - (wrap64 (t164 * 1000000000000000)))))) = some r := H
    have A10 := Aside0.mk A100
    clear A100
    replace H := Option.bind_eq_some_iff.mp H
    obtain ⟨t164, A110, H⟩ := H
    replace H : (some (wrap64 ((wrap64 ((wrap64 ((Int.tmod (wrap64 ((Int.tmod (wrap64 ((wrap64 (a0 - (wrap64 (t160 * 1000000000000000)))) * (wrap64 (Int.tdiv x8_4 1000)))) 1000000000000000) * 1000)) 1000000000000000) + (Int.tmod (wrap64 ((wrap64 (a0 - (wrap64 (t160 * 1000000000000000)))) * (Int.tmod x8_4 1000))) 1000000000000000))) + (wrap64 ((wrap64 (t163 * (wrap64 (a1 - (wrap64 (t159 * 86400000)))))) + (wrap64 (Int.tdiv (wrap64 ((wrap64 (a0 - (wrap64 (t163 * 86400000)))) * (wrap64 (a1 - (wrap64 (t159 * 86400000)))))) 86400000)))))) - (wrap64 (t164 * 1000000000000000))))) = some r := H
    have A11 := Aside0.mk A110
    clear A110
    obtain rfl := Option.some.inj H
    simp only [Option.some.injEq, Prod.mk.injEq] at H
    obtain ⟨rfl⟩ := H
    go_wp2_with (first | ((with_reducible refine gate_callee (f := 76) rfl ?_); refine goesL_ (some 45) rfl rfl Try.func76 (by kernel_rfl) rfl #[.int .i64 a0, .int .i64 86400000] rfl (by (try simp only [List.map_toArray, List.map_cons, List.map_nil]); first | done | rfl | (simp only [List.length_drop, List.length_take]; rfl)) ?_; (with_reducible refine (interval_Floor.calls a0 86400000 t163 _ A10.out).mono ?_); rintro e w' ⟨rfl, ⟨nd, rfl⟩⟩; refine ⟨_, rfl, ?_⟩) | ((with_reducible refine gate_callee (f := 76) rfl ?_); refine goesL_ (some 61) rfl rfl Try.func76 (by kernel_rfl) rfl #[.int .i64 (wrap64 ((wrap64 ((Int.tmod (wrap64 ((Int.tmod (wrap64 ((wrap64 (a0 - (wrap64 (t160 * 1000000000000000)))) * (wrap64 (Int.tdiv x8_4 1000)))) 1000000000000000) * 1000)) 1000000000000000) + (Int.tmod (wrap64 ((wrap64 (a0 - (wrap64 (t160 * 1000000000000000)))) * (Int.tmod x8_4 1000))) 1000000000000000))) + (wrap64 ((wrap64 (t163 * (wrap64 (a1 - (wrap64 (t159 * 86400000)))))) + (wrap64 (Int.tdiv (wrap64 ((wrap64 (a0 - (wrap64 (t163 * 86400000)))) * (wrap64 (a1 - (wrap64 (t159 * 86400000)))))) 86400000)))))), .int .i64 1000000000000000] rfl (by (try simp only [List.map_toArray, List.map_cons, List.map_nil]); first | done | rfl | (simp only [List.length_drop, List.length_take]; rfl)) ?_; (with_reducible refine (interval_Floor.calls (wrap64 ((wrap64 ((Int.tmod (wrap64 ((Int.tmod (wrap64 ((wrap64 (a0 - (wrap64 (t160 * 1000000000000000)))) * (wrap64 (Int.tdiv x8_4 1000)))) 1000000000000000) * 1000)) 1000000000000000) + (Int.tmod (wrap64 ((wrap64 (a0 - (wrap64 (t160 * 1000000000000000)))) * (Int.tmod x8_4 1000))) 1000000000000000))) + (wrap64 ((wrap64 (t163 * (wrap64 (a1 - (wrap64 (t159 * 86400000)))))) + (wrap64 (Int.tdiv (wrap64 ((wrap64 (a0 - (wrap64 (t163 * 86400000)))) * (wrap64 (a1 - (wrap64 (t159 * 86400000)))))) 86400000)))))) 1000000000000000 t164 _ A11.out).mono ?_); rintro e w' ⟨rfl, ⟨nd, rfl⟩⟩; refine ⟨_, rfl, ?_⟩))
    go_ret
    exact ⟨by first | rfl | (simp; done) | (simp [*]; done), by repeat (first | exact Drawn0.refl _ | apply Drawn0.step)⟩
end Go.Proofs.Ytcifakgcbgodiaa.PAll
end
section
namespace Go.Proofs.Ytcifakgcbgodiaa.PAll
open Go.RowKit YtcifakgcbgodiaaW.PrintWords YtcifakgcbgodiaaW.PrintLast YtcifakgcbgodiaaW.PrintMore More2
attribute [local go_sem] max2_int min2_int max_two min_two max_three min_three max_four min_four tdiv2e18_ tdiv1e18_ cellSS_  -- for this text's walks alone
def interval_abs.f (a0 : Int) : Option (Int) := if a0 < 0 then (some (wrap64 (-a0))) else (some a0)
theorem interval_abs.calls (a0 : Int) (r : Int) (w : World) (h : interval_abs.f a0 = some r) :
  Calls Try.prog 117 #[.int .i64 a0] w fun e w' => e = .returned (.int .i64 r) ∧ Drawn0 w w' := by
 have H : (if a0 < 0 then (some (wrap64 (-a0))) else (some a0)) = some r := h
 clear h
 by_cases c2 : a0 < 0
 ·rw [if_pos c2] at H
  have c2b0 : decide (a0 < 0) = true := decide_eq_true c2
  clear c2
  obtain rfl := Option.some.inj H
  simp only [Option.some.injEq, Prod.mk.injEq] at H
  obtain ⟨rfl⟩ := H
  go_enter Try.func117, Try.ntmps117
  go_wp2
  go_ret
  exact ⟨by first | rfl | (simp; done) | (simp [*]; done), by repeat (first | exact Drawn0.refl _ | apply Drawn0.step)⟩
 ·rw [if_neg c2] at H
  have c2b0 : decide (a0 < 0) = false := decide_eq_false c2
  clear c2
  obtain rfl := Option.some.inj H
  simp only [Option.some.injEq, Prod.mk.injEq] at H
  obtain ⟨rfl⟩ := H
  go_enter Try.func117, Try.ntmps117
  go_wp2
  go_ret
  exact ⟨by first | rfl | (simp; done) | (simp [*]; done), by repeat (first | exact Drawn0.refl _ | apply Drawn0.step)⟩
end Go.Proofs.Ytcifakgcbgodiaa.PAll
end
section
namespace Go.Proofs.Ytcifakgcbgodiaa.PAll
open Go.RowKit YtcifakgcbgodiaaW.PrintWords YtcifakgcbgodiaaW.PrintLast YtcifakgcbgodiaaW.PrintMore More2
attribute [local go_sem] max2_int min2_int max_two min_two max_three min_three max_four min_four tdiv2e18_ tdiv1e18_ cellSS_  -- for this text's walks alone
def interval_part.j0 : Nat → Int → Int → Int → Int → Bool → Option (Int × Bool)
 | 0, _, _, _, _, _ => none
 | k + 1, x0, x1, x2, x8, x21 => if x21 = true then (some (0, false)) else ((interval_Floor.f (wrap64 ((wrap64 (x0 - (wrap64 (x8 * x2)))) * x1)) x2).bind fun t167 => ((interval_out.f (wrap64 ((wrap64 (x8 * x1)) + t167))).bind fun t168 => (some (wrap64 ((wrap64 (x8 * x1)) + t167), !t168))))
def interval_part.f (k : Nat) (a0 : Int) (a1 : Int) (a2 : Int) : Option (Int × Bool) := (interval_Floor.f a0 a2).bind fun t165 => (if a1 = 0 then (interval_part.j0 k a0 a1 a2 t165 false) else ((interval_abs.f t165).bind fun t166 => (interval_part.j0 k a0 a1 a2 t165 (decide (t166 > (wrap64 ((2000000000000000000 : Int) / a1)))))))
theorem interval_part.mono_l : ∀ k, (∀ y0 y1 y2 y3 y4, LeO (interval_part.j0 k y0 y1 y2 y3 y4) (interval_part.j0 (k + 1) y0 y1 y2 y3 y4))
 | 0 => fun _ _ _ _ _ r h => by simp [interval_part.j0] at h
 | k + 1 => by
  have ih0 := interval_part.mono_l k
  ·intro y0 y1 y2 y3 y4
   unfold interval_part.j0
   repeat' first
   | (with_reducible exact ih0 _ _ _ _ _)
   | (with_reducible exact LeO.refl _)
   | (with_reducible exact LeO.none _)
   | (with_reducible refine LeO.ite ?_ ?_)
   | (with_reducible refine LeO.bind ?_ (fun _ => ?_))
   | exact ih0 _ _ _ _ _
   | exact LeO.none _
   | refine LeO.ite ?_ ?_
   | refine LeO.bind ?_ (fun _ => ?_)
theorem interval_part.mono : ∀ a0 a1 a2 k, LeO (interval_part.f k a0 a1 a2) (interval_part.f (k + 1) a0 a1 a2) := by
 intro a0 a1 a2 k
 have ih0 := interval_part.mono_l k
 unfold interval_part.f
 repeat' first
   | (with_reducible exact ih0 _ _ _ _ _)
   | (with_reducible exact LeO.refl _)
   | (with_reducible exact LeO.none _)
   | (with_reducible refine LeO.ite ?_ ?_)
   | (with_reducible refine LeO.bind ?_ (fun _ => ?_))
   | exact ih0 _ _ _ _ _
   | exact LeO.none _
   | refine LeO.ite ?_ ?_
   | refine LeO.bind ?_ (fun _ => ?_)
theorem interval_part.calls (k : Nat) (a0 : Int) (a1 : Int) (a2 : Int) (r1 : Int) (r2 : Bool) (w : World) (h : interval_part.f k a0 a1 a2 = some (r1, r2)) :
  Calls Try.prog 112 #[.int .i64 a0, .int .i64 a1, .int .i64 a2] w fun e w' => e = .returned (.tuple #[.int .i64 r1, .bool r2]) ∧ Drawn0 w w' := by
 have H : ((interval_Floor.f a0 a2).bind fun t165 => (if a1 = 0 then (interval_part.j0 k a0 a1 a2 t165 false) else ((interval_abs.f t165).bind fun t166 => (interval_part.j0 k a0 a1 a2 t165 (decide (t166 > (wrap64 ((2000000000000000000 : Int) / a1)))))))) = some (r1, r2) := h
 clear h
 replace H := Option.bind_eq_some_iff.mp H
 obtain ⟨t165, A40, H⟩ := H
 replace H : (if a1 = 0 then (interval_part.j0 k a0 a1 a2 t165 false) else ((interval_abs.f t165).bind fun t166 => (interval_part.j0 k a0 a1 a2 t165 (decide (t166 > (wrap64 ((2000000000000000000 : Int) / a1))))))) = some (r1, r2) := H
 have A4 := Aside0.mk A40
 clear A40
 have HC5 := Aside0.mk H
 clear H
 go_enter Try.func112, Try.ntmps112
 go_upto_region 2 with (first | (go_at_call 76; (with_reducible refine (interval_Floor.calls a0 a2 t165 _ A4.out).mono ?_); rintro e w' ⟨rfl, ⟨nd, rfl⟩⟩; (try first | exact ⟨rfl, _, World.drewN_drewN _ _ _⟩ | exact ⟨rfl, _, Eq.trans (World.drewN_drewN _ _ _) (congrArg (World.drewN _) (Nat.add_assoc _ _ _))⟩)))
 repeat (go_quiet (first | (go_at_call 76; (with_reducible refine (interval_Floor.calls a0 a2 t165 _ A4.out).mono ?_); rintro e w' ⟨rfl, ⟨nd, rfl⟩⟩; (try first | exact ⟨rfl, _, World.drewN_drewN _ _ _⟩ | exact ⟨rfl, _, Eq.trans (World.drewN_drewN _ _ _) (congrArg (World.drewN _) (Nat.add_assoc _ _ _))⟩))); go_upto_region 2 with (first | (go_at_call 76; (with_reducible refine (interval_Floor.calls a0 a2 t165 _ A4.out).mono ?_); rintro e w' ⟨rfl, ⟨nd, rfl⟩⟩; (try first | exact ⟨rfl, _, World.drewN_drewN _ _ _⟩ | exact ⟨rfl, _, Eq.trans (World.drewN_drewN _ _ _) (congrArg (World.drewN _) (Nat.add_assoc _ _ _))⟩))))
 (try simp only [Act.put, List.setIfInBounds_toArray, List.set_cons_zero, List.set_cons_succ])
 go_cut [21] (fun v21 wc => ∃ (kq : Nat) (x21_4 : Bool), v21 = .bool x21_4 ∧ Aside0 (interval_part.j0 kq a0 a1 a2 t165 x21_4 = some (r1, r2)) ∧ Aside0 (kq ≤ k) ∧ Drawn0 w wc)
 case first =>
  have H := HC5.out
  clear HC5
  by_cases c6 : a1 = 0
  ·rw [if_pos c6] at H
   have c6b0 : (a1 == 0) = true := beq_iff_eq.mpr c6
   have c6b1 : (a1 != 0) = false := bne_eq_false_iff_eq.mpr c6
   clear c6
   (first | rw [c6b0] | (simp only [i64_w, i32_w]; rw [c6b0]) | skip)
   have H' := Aside0.mk H
   clear H
   go_wp2
   repeat (go_quiet (fail); try go_wp2)
   go_meet
   case rel => exact ⟨_, (false), (by first | rfl | (simp; done) | (simp [*]; done)), H', ⟨by first | omega | exact Nat.le_refl _⟩, by repeat (first | exact Drawn0.refl _ | apply Drawn0.step)⟩
  ·rw [if_neg c6] at H
   have c6b0 : (a1 == 0) = false := beq_eq_false_iff_ne.mpr c6
   have c6b1 : (a1 != 0) = true := bne_iff_ne.mpr c6
   (first | rw [c6b0] | (simp only [i64_w, i32_w]; rw [c6b0]) | skip)
   replace H := Option.bind_eq_some_iff.mp H
   obtain ⟨t166, A70, H⟩ := H
   replace H : (interval_part.j0 k a0 a1 a2 t165 (decide (t166 > (wrap64 ((2000000000000000000 : Int) / a1))))) = some (r1, r2) := H
   have A7 := Aside0.mk A70
   clear A70
   have H' := Aside0.mk H
   clear H
   go_wp2_with (first | (go_at_call 117; (with_reducible refine (interval_abs.calls t165 t166 _ A7.out).mono ?_); rintro e w' ⟨rfl, ⟨nd, rfl⟩⟩; (try first | exact ⟨rfl, _, World.drewN_drewN _ _ _⟩ | exact ⟨rfl, _, Eq.trans (World.drewN_drewN _ _ _) (congrArg (World.drewN _) (Nat.add_assoc _ _ _))⟩)))
   repeat (go_quiet (first | (go_at_call 117; (with_reducible refine (interval_abs.calls t165 t166 _ A7.out).mono ?_); rintro e w' ⟨rfl, ⟨nd, rfl⟩⟩; (try first | exact ⟨rfl, _, World.drewN_drewN _ _ _⟩ | exact ⟨rfl, _, Eq.trans (World.drewN_drewN _ _ _) (congrArg (World.drewN _) (Nat.add_assoc _ _ _))⟩))); try go_wp2_with (first | (go_at_call 117; (with_reducible refine (interval_abs.calls t165 t166 _ A7.out).mono ?_); rintro e w' ⟨rfl, ⟨nd, rfl⟩⟩; (try first | exact ⟨rfl, _, World.drewN_drewN _ _ _⟩ | exact ⟨rfl, _, Eq.trans (World.drewN_drewN _ _ _) (congrArg (World.drewN _) (Nat.add_assoc _ _ _))⟩))))
   go_meet
   case rel => exact ⟨_, (decide (t166 > (wrap64 ((2000000000000000000 : Int) / a1)))), (by first | rfl | (simp; done) | (simp [*]; done)), H', ⟨by first | omega | exact Nat.le_refl _⟩, by repeat (first | exact Drawn0.refl _ | apply Drawn0.step)⟩
 case rest =>
  clear HC5
  try clear c1
  try clear p2
  try clear c6
  try clear c6b0
  try clear c6b1
  try clear p6
  obtain ⟨kq, x21_4, rfl, HA, HJ4, ⟨mc4, rfl⟩⟩ := hcut
  cases kq with
  | zero => exact absurd HA.out (by simp [interval_part.j0])
  | succ kj4 =>
   have H := HA.out
   clear HA
   simp only [interval_part.j0] at H
   by_cases c8 : x21_4 = true
   ·subst c8
    have H1 : (some (0, false)) = some (r1, r2) := by rw [if_pos rfl] at H; exact H
    clear H
    have H := H1
    clear H1
    simp only [Option.some.injEq, Prod.mk.injEq] at H
    obtain ⟨rfl, rfl⟩ := H
    go_wp2
    repeat (go_quiet (fail); try go_wp2)
    go_ret2
    exact ⟨by first | rfl | (simp; done) | (simp [*]; done), by repeat (first | exact Drawn0.refl _ | apply Drawn0.step)⟩
   ·replace c8 := Bool.eq_false_iff.mpr c8
    subst c8
    have H1 : ((interval_Floor.f (wrap64 ((wrap64 (a0 - (wrap64 (t165 * a2)))) * a1)) a2).bind fun t167 => ((interval_out.f (wrap64 ((wrap64 (t165 * a1)) + t167))).bind fun t168 => (some (wrap64 ((wrap64 (t165 * a1)) + t167), !t168)))) = some (r1, r2) := by rw [if_neg (show ¬ (false = true) by decide)] at H; exact H
    clear H
    have H := H1
    clear H1
    replace H := Option.bind_eq_some_iff.mp H
    obtain ⟨t167, A90, H⟩ := H
    replace H : ((interval_out.f (wrap64 ((wrap64 (t165 * a1)) + t167))).bind fun t168 => (some (wrap64 ((wrap64 (t165 * a1)) + t167), !t168))) = some (r1, r2) := H
    have A9 := Aside0.mk A90
    clear A90
    replace H := Option.bind_eq_some_iff.mp H
    obtain ⟨t168, A100, H⟩ := H
    replace H : (some (wrap64 ((wrap64 (t165 * a1)) + t167), !t168)) = some (r1, r2) := H
    have A10 := Aside0.mk A100
    clear A100
    simp only [Option.some.injEq, Prod.mk.injEq] at H
    obtain ⟨rfl, rfl⟩ := H
    go_wp2_with (first | (go_at_call 76; (with_reducible refine (interval_Floor.calls (wrap64 ((wrap64 (a0 - (wrap64 (t165 * a2)))) * a1)) a2 t167 _ A9.out).mono ?_); rintro e w' ⟨rfl, ⟨nd, rfl⟩⟩; (try first | exact ⟨rfl, _, World.drewN_drewN _ _ _⟩ | exact ⟨rfl, _, Eq.trans (World.drewN_drewN _ _ _) (congrArg (World.drewN _) (Nat.add_assoc _ _ _))⟩)) | (go_at_call 107; (with_reducible refine (interval_out.calls (wrap64 ((wrap64 (t165 * a1)) + t167)) t168 _ A10.out).mono ?_); rintro e w' ⟨rfl, ⟨nd, rfl⟩⟩; (try first | exact ⟨rfl, _, World.drewN_drewN _ _ _⟩ | exact ⟨rfl, _, Eq.trans (World.drewN_drewN _ _ _) (congrArg (World.drewN _) (Nat.add_assoc _ _ _))⟩)))
    repeat (go_quiet (first | (go_at_call 76; (with_reducible refine (interval_Floor.calls (wrap64 ((wrap64 (a0 - (wrap64 (t165 * a2)))) * a1)) a2 t167 _ A9.out).mono ?_); rintro e w' ⟨rfl, ⟨nd, rfl⟩⟩; (try first | exact ⟨rfl, _, World.drewN_drewN _ _ _⟩ | exact ⟨rfl, _, Eq.trans (World.drewN_drewN _ _ _) (congrArg (World.drewN _) (Nat.add_assoc _ _ _))⟩)) | (go_at_call 107; (with_reducible refine (interval_out.calls (wrap64 ((wrap64 (t165 * a1)) + t167)) t168 _ A10.out).mono ?_); rintro e w' ⟨rfl, ⟨nd, rfl⟩⟩; (try first | exact ⟨rfl, _, World.drewN_drewN _ _ _⟩ | exact ⟨rfl, _, Eq.trans (World.drewN_drewN _ _ _) (congrArg (World.drewN _) (Nat.add_assoc _ _ _))⟩))); try go_wp2_with (first | (go_at_call 76; (with_reducible refine (interval_Floor.calls (wrap64 ((wrap64 (a0 - (wrap64 (t165 * a2)))) * a1)) a2 t167 _ A9.out).mono ?_); rintro e w' ⟨rfl, ⟨nd, rfl⟩⟩; (try first | exact ⟨rfl, _, World.drewN_drewN _ _ _⟩ | exact ⟨rfl, _, Eq.trans (World.drewN_drewN _ _ _) (congrArg (World.drewN _) (Nat.add_assoc _ _ _))⟩)) | (go_at_call 107; (with_reducible refine (interval_out.calls (wrap64 ((wrap64 (t165 * a1)) + t167)) t168 _ A10.out).mono ?_); rintro e w' ⟨rfl, ⟨nd, rfl⟩⟩; (try first | exact ⟨rfl, _, World.drewN_drewN _ _ _⟩ | exact ⟨rfl, _, Eq.trans (World.drewN_drewN _ _ _) (congrArg (World.drewN _) (Nat.add_assoc _ _ _))⟩))))
    go_ret2
    exact ⟨by first | rfl | (simp; done) | (simp [*]; done), by repeat (first | exact Drawn0.refl _ | apply Drawn0.step)⟩
end Go.Proofs.Ytcifakgcbgodiaa.PAll
end
section
namespace Go.Proofs.Ytcifakgcbgodiaa.PAll
open Go.RowKit YtcifakgcbgodiaaW.PrintWords YtcifakgcbgodiaaW.PrintLast YtcifakgcbgodiaaW.PrintMore More2
attribute [local go_sem] max2_int min2_int max_two min_two max_three min_three max_four min_four tdiv2e18_ tdiv1e18_ cellSS_  -- for this text's walks alone
mutual
def interval_Scale.j0 : Nat → Int → Int → Bool → Int → Int → Option (Int × Int × Int)
 | 0, _, _, _, _, _ => none
 | k + 1, x1, x2, x32, x170000, x170001 => if x32 = true then (some (0, 0, 1)) else (if x1 < 0 then (interval_Scale.j1 k (wrap64 (-x1)) x2 (wrap64 (-x170001)) (wrap64 (-x170000))) else (interval_Scale.j1 k x1 x2 x170000 x170001))
def interval_Scale.j1 : Nat → Int → Int → Int → Int → Option (Int × Int × Int)
 | 0, _, _, _, _ => none
 | k + 1, x1, x2, x170000, x170001 => (interval_part.f k x170000 x1 x2).bind fun bt172 => ((interval_part.f k (wrap64 (-x170001)) x1 x2).bind fun bt174 => (if bt172.2 = true then (if bt174.2 = true then (some (bt172.1, wrap64 (-bt174.1), 0)) else (some (0, 0, 14))) else (some (0, 0, 14))))
end
def interval_Scale.f (k : Nat) (a0_0 : Int) (a0_1 : Int) (a1 : Int) (a2 : Int) : Option (Int × Int × Int) := (interval_Check.f k a0_0 a0_1).bind fun t171 => (if t171 = 0 then (if a2 < 1 then (interval_Scale.j0 k a1 a2 true a0_0 a0_1) else (if a2 > 1000000000 then (interval_Scale.j0 k a1 a2 true a0_0 a0_1) else (if a1 < (-1000000000) then (interval_Scale.j0 k a1 a2 true a0_0 a0_1) else (interval_Scale.j0 k a1 a2 (decide (a1 > 1000000000)) a0_0 a0_1)))) else (some (0, 0, t171)))
theorem interval_Scale.mono_l : ∀ k, (∀ y0 y1 y2 y3 y4, LeO (interval_Scale.j0 k y0 y1 y2 y3 y4) (interval_Scale.j0 (k + 1) y0 y1 y2 y3 y4)) ∧ (∀ y0 y1 y2 y3, LeO (interval_Scale.j1 k y0 y1 y2 y3) (interval_Scale.j1 (k + 1) y0 y1 y2 y3))
 | 0 => ⟨fun _ _ _ _ _ r h => by simp [interval_Scale.j0] at h, fun _ _ _ _ r h => by simp [interval_Scale.j1] at h⟩
 | k + 1 => by
  obtain ⟨ih0, ih1⟩ := interval_Scale.mono_l k
  refine ⟨?_, ?_⟩
  ·intro y0 y1 y2 y3 y4
   unfold interval_Scale.j0
   repeat' first
   | (with_reducible exact ih0 _ _ _ _ _)
   | (with_reducible exact ih1 _ _ _ _)
   | (with_reducible exact interval_Check.mono _ _ _)
   | (with_reducible exact interval_part.mono _ _ _ _)
   | (with_reducible exact LeO.refl _)
   | (with_reducible exact LeO.none _)
   | (with_reducible refine LeO.ite ?_ ?_)
   | (with_reducible refine LeO.bind ?_ (fun _ => ?_))
   | exact ih0 _ _ _ _ _
   | exact ih1 _ _ _ _
   | exact interval_Check.mono _ _ _
   | exact interval_part.mono _ _ _ _
   | exact LeO.none _
   | refine LeO.ite ?_ ?_
   | refine LeO.bind ?_ (fun _ => ?_)
  ·intro y0 y1 y2 y3
   unfold interval_Scale.j1
   repeat' first
   | (with_reducible exact ih0 _ _ _ _ _)
   | (with_reducible exact ih1 _ _ _ _)
   | (with_reducible exact interval_Check.mono _ _ _)
   | (with_reducible exact interval_part.mono _ _ _ _)
   | (with_reducible exact LeO.refl _)
   | (with_reducible exact LeO.none _)
   | (with_reducible refine LeO.ite ?_ ?_)
   | (with_reducible refine LeO.bind ?_ (fun _ => ?_))
   | exact ih0 _ _ _ _ _
   | exact ih1 _ _ _ _
   | exact interval_Check.mono _ _ _
   | exact interval_part.mono _ _ _ _
   | exact LeO.none _
   | refine LeO.ite ?_ ?_
   | refine LeO.bind ?_ (fun _ => ?_)
theorem interval_Scale.mono : ∀ a0 a1 a2 a3 k, LeO (interval_Scale.f k a0 a1 a2 a3) (interval_Scale.f (k + 1) a0 a1 a2 a3) := by
 intro a0 a1 a2 a3 k
 obtain ⟨ih0, ih1⟩ := interval_Scale.mono_l k
 unfold interval_Scale.f
 repeat' first
   | (with_reducible exact ih0 _ _ _ _ _)
   | (with_reducible exact ih1 _ _ _ _)
   | (with_reducible exact interval_Check.mono _ _ _)
   | (with_reducible exact interval_part.mono _ _ _ _)
   | (with_reducible exact LeO.refl _)
   | (with_reducible exact LeO.none _)
   | (with_reducible refine LeO.ite ?_ ?_)
   | (with_reducible refine LeO.bind ?_ (fun _ => ?_))
   | exact ih0 _ _ _ _ _
   | exact ih1 _ _ _ _
   | exact interval_Check.mono _ _ _
   | exact interval_part.mono _ _ _ _
   | exact LeO.none _
   | refine LeO.ite ?_ ?_
   | refine LeO.bind ?_ (fun _ => ?_)
theorem interval_Scale.calls (k : Nat) (a0_0 : Int) (a0_1 : Int) (a1 : Int) (a2 : Int) (r1 : Int) (r2 : Int) (r3 : Int) (w : World) (h : interval_Scale.f k a0_0 a0_1 a1 a2 = some (r1, r2, r3)) :
  Calls Try.prog 102 #[.agg #[.int .i64 a0_0, .int .i64 a0_1], .int .i64 a1, .int .i64 a2] w fun e w' => e = .returned (.tuple #[.agg #[.int .i64 r1, .int .i64 r2], .int .i64 r3]) ∧ Below w.heap.size w w' := by
 have hu24 := Try.underlying24
 have HB := Aside0.mk (Below.refl w.heap.size w)
 have H : ((interval_Check.f k a0_0 a0_1).bind fun t171 => (if t171 = 0 then (if a2 < 1 then (interval_Scale.j0 k a1 a2 true a0_0 a0_1) else (if a2 > 1000000000 then (interval_Scale.j0 k a1 a2 true a0_0 a0_1) else (if a1 < (-1000000000) then (interval_Scale.j0 k a1 a2 true a0_0 a0_1) else (interval_Scale.j0 k a1 a2 (decide (a1 > 1000000000)) a0_0 a0_1)))) else (some (0, 0, t171)))) = some (r1, r2, r3) := h
 clear h
 replace H := Option.bind_eq_some_iff.mp H
 obtain ⟨t171, A40, H⟩ := H
 replace H : (if t171 = 0 then (if a2 < 1 then (interval_Scale.j0 k a1 a2 true a0_0 a0_1) else (if a2 > 1000000000 then (interval_Scale.j0 k a1 a2 true a0_0 a0_1) else (if a1 < (-1000000000) then (interval_Scale.j0 k a1 a2 true a0_0 a0_1) else (interval_Scale.j0 k a1 a2 (decide (a1 > 1000000000)) a0_0 a0_1)))) else (some (0, 0, t171))) = some (r1, r2, r3) := H
 have A4 := Aside0.mk A40
 clear A40
 have HC5 := Aside0.mk H
 clear H
 go_enter Try.func102, Try.ntmps102
 go_upto_if 16 with (first | ((with_reducible refine gate_dst (N := 3) rfl ?_); refine box_event ?hg (N := 3) ?hd (cs := #[.int .i64 a0_0, .int .i64 a0_1]) (t := 24) ?hr ?_; (case hd => rfl); (case hg => rfl); (case hr => first | (go_simp; done) | (go_simp; rfl)); intro gb169 hg w6 hbox hb; have n0_ := Aside0.mk (below_step (by repeat (first | (with_reducible first | exact HB.out | apply below_alloc | apply pw_below_drewN | apply below_drew1) | exact HB.out)) hb); have n1_ := Aside0.mk (hbox); have n2_ := Aside0.mk ((by rw [hg]; exact (below_size (by repeat (first | (with_reducible first | exact HB.out | apply below_alloc | apply pw_below_drewN | apply below_drew1) | exact HB.out))) : w.heap.size ≤ gb169)); have n3_ := Aside0.mk ((by rw [hg]; exact (below_size (by repeat (first | (with_reducible first | exact HB.out | apply below_alloc | apply pw_below_drewN | apply below_drew1) | exact HB.out))) : w.heap.size ≤ gb169)); clear HB; have HB := n0_; have BK169 := n1_; have GW169 := n2_; have GE169 := n3_; clear n0_ n1_ n2_ n3_; clear hb hbox hg) | ((with_reducible refine gate_dst (N := 6) rfl ?_); refine box_event ?hg (N := 6) ?hd (cs := #[.int .i64 0, .int .i64 0]) (t := 24) ?hr ?_; (case hd => rfl); (case hg => rfl); (case hr => first | (go_simp; done) | (go_simp; rfl)); intro gb170 hg w7 hbox hb; have n0_ := Aside0.mk (blk_below (g := gb169) (o := .cells #[.int .i64 a0_0, .int .i64 a0_1] 24 (0, 0)) (by (with_reducible repeat (first | refine blk_drewN ?_ _ | refine blk_drew ?_ | refine blk_alloc ?_ _)); exact BK169.out) hb); have n1_ := Aside0.mk (below_step (by repeat (first | (with_reducible first | exact HB.out | apply below_alloc | apply pw_below_drewN | apply below_drew1 | refine below_set ?_ GE169.out) | exact HB.out)) hb); have n2_ := Aside0.mk (hbox); have n3_ := Aside0.mk ((by rw [hg]; exact (below_size (by repeat (first | (with_reducible first | exact HB.out | apply below_alloc | apply pw_below_drewN | apply below_drew1 | refine below_set ?_ GE169.out) | exact HB.out))) : w.heap.size ≤ gb170)); have n4_ := Aside0.mk ((by rw [hg]; exact (below_size (by repeat (first | (with_reducible first | exact HB.out | apply below_alloc | apply pw_below_drewN | apply below_drew1 | refine below_set ?_ GE169.out) | exact HB.out))) : w.heap.size ≤ gb170)); have n5_ := Aside0.mk ((by rw [hg]; exact Nat.ne_of_lt (blk_lt (g := gb169) (o := .cells #[.int .i64 a0_0, .int .i64 a0_1] 24 (0, 0)) (by (with_reducible repeat (first | refine blk_drewN ?_ _ | refine blk_drew ?_ | refine blk_alloc ?_ _)); exact BK169.out)) : gb169 ≠ gb170)); have n6_ := Aside0.mk ((by rw [hg]; exact Nat.ne_of_gt (blk_lt (g := gb169) (o := .cells #[.int .i64 a0_0, .int .i64 a0_1] 24 (0, 0)) (by (with_reducible repeat (first | refine blk_drewN ?_ _ | refine blk_drew ?_ | refine blk_alloc ?_ _)); exact BK169.out)) : gb170 ≠ gb169)); clear BK169; clear HB; have BK169 := n0_; have HB := n1_; have BK170 := n2_; have GW170 := n3_; have GE170 := n4_; have NB169_170 := n5_; have NB170_169 := n6_; clear n0_ n1_ n2_ n3_ n4_ n5_ n6_; clear hb hbox hg; have hnb8 := NB169_170.out; have hnc8 := NB170_169.out; have hcz9_0 : w7.cell? ⟨gb169, 0, none⟩ = some (.int .i64 a0_0) := (blk_cell BK169.out 0).trans rfl; have hcz9_1 : w7.cell? ⟨gb169, 1, none⟩ = some (.int .i64 a0_1) := (blk_cell BK169.out 1).trans rfl; have hfz9_0 := blk_frozen BK169.out 0; have hfz9_1 := blk_frozen BK169.out 1) | ((with_reducible refine gate_callee (f := 94) rfl ?_); refine goesL_ (some 14) rfl rfl Try.func94 (by kernel_rfl) rfl #[.agg #[.int .i64 a0_0, .int .i64 a0_1]] rfl (by (try simp only [List.map_toArray, List.map_cons, List.map_nil]); first | done | rfl | (simp only [List.length_drop, List.length_take]; rfl)) ?_; (with_reducible refine (interval_Check.calls k a0_0 a0_1 t171 _ A4.out).mono ?_); rintro e w10 ⟨rfl, hb⟩; refine ⟨_, rfl, ?_⟩; have n0_ := Aside0.mk (blk_below (g := gb169) (o := .cells #[.int .i64 a0_0, .int .i64 a0_1] 24 (0, 0)) (by (with_reducible repeat (first | refine blk_drewN ?_ _ | refine blk_drew ?_ | refine blk_alloc ?_ _)); exact BK169.out) hb); have n1_ := Aside0.mk (blk_below (g := gb170) (o := .cells #[.int .i64 0, .int .i64 0] 24 (0, 0)) (by (with_reducible repeat (first | refine blk_drewN ?_ _ | refine blk_drew ?_ | refine blk_alloc ?_ _)); exact BK170.out) hb); have n2_ := Aside0.mk (below_step (by repeat (first | (with_reducible first | exact HB.out | apply below_alloc | apply pw_below_drewN | apply below_drew1 | refine below_set ?_ GE169.out | refine below_set ?_ GE170.out) | exact HB.out)) hb); clear BK169; clear BK170; clear HB; have BK169 := n0_; have BK170 := n1_; have HB := n2_; clear n0_ n1_ n2_; (try clear hb); (try clear hb2); (try clear hk); (try clear hi)))
 (try simp only [Act.put, List.setIfInBounds_toArray, List.set_cons_zero, List.set_cons_succ])
 have H := HC5.out
 clear HC5
 by_cases c11 : t171 = 0
 ·rw [if_pos c11] at H
  have c11b0 : (t171 == 0) = true := beq_iff_eq.mpr c11
  have c11b1 : (t171 != 0) = false := bne_eq_false_iff_eq.mpr c11
  clear c11
  (first | rw [c11b0] | (simp only [i64_w, i32_w]; rw [c11b0]) | skip)
  have HC12 := Aside0.mk H
  clear H
  go_upto_region 4 with (fail)
  go_cut [32] (fun v32 wc => ∃ (kq : Nat) (x32_11 : Bool), v32 = .bool x32_11 ∧ Aside0 (interval_Scale.j0 kq a1 a2 x32_11 a0_0 a0_1 = some (r1, r2, r3)) ∧ Aside0 (kq ≤ k) ∧ Aside0 (wc.heap[gb169]? = some (.cells #[.int .i64 a0_0, .int .i64 a0_1] 24 (0, 0))) ∧ Aside0 (wc.heap[gb170]? = some (.cells #[.int .i64 0, .int .i64 0] 24 (0, 0))) ∧ Aside0 (Below w.heap.size w wc))
  case first =>
   have H := HC12.out
   clear HC12
   by_cases c13 : a2 < 1
   ·rw [if_pos c13] at H
    have c13b0 : decide (a2 < 1) = true := decide_eq_true c13
    clear c13
    (first | rw [c13b0] | (simp only [i64_w, i32_w]; rw [c13b0]) | skip)
    have H' := Aside0.mk H
    clear H
    go_wp2
    go_meet
    case rel => exact ⟨_, (true), (by first | rfl | (simp; done) | (simp [*]; done)), H', ⟨by first | omega | exact Nat.le_refl _⟩, ⟨by (with_reducible repeat (first | refine blk_drewN ?_ _ | refine blk_drew ?_ | refine blk_alloc ?_ _)); exact BK169.out⟩, ⟨by (with_reducible repeat (first | refine blk_drewN ?_ _ | refine blk_drew ?_ | refine blk_alloc ?_ _)); exact BK170.out⟩, ⟨by repeat (first | (with_reducible first | exact HB.out | apply below_alloc | apply pw_below_drewN | apply below_drew1 | refine below_set ?_ GE169.out | refine below_set ?_ GE170.out) | exact HB.out)⟩⟩
   ·rw [if_neg c13] at H
    have c13b0 : decide (a2 < 1) = false := decide_eq_false c13
    clear c13
    (first | rw [c13b0] | (simp only [i64_w, i32_w]; rw [c13b0]) | skip)
    by_cases c14 : a2 > 1000000000
    ·rw [if_pos c14] at H
     have c14b0 : decide (1000000000 < a2) = true := decide_eq_true c14
     clear c14
     have H' := Aside0.mk H
     clear H
     go_wp2
     go_meet
     case rel => exact ⟨_, (true), (by first | rfl | (simp; done) | (simp [*]; done)), H', ⟨by first | omega | exact Nat.le_refl _⟩, ⟨by (with_reducible repeat (first | refine blk_drewN ?_ _ | refine blk_drew ?_ | refine blk_alloc ?_ _)); exact BK169.out⟩, ⟨by (with_reducible repeat (first | refine blk_drewN ?_ _ | refine blk_drew ?_ | refine blk_alloc ?_ _)); exact BK170.out⟩, ⟨by repeat (first | (with_reducible first | exact HB.out | apply below_alloc | apply pw_below_drewN | apply below_drew1 | refine below_set ?_ GE169.out | refine below_set ?_ GE170.out) | exact HB.out)⟩⟩
    ·rw [if_neg c14] at H
     have c14b0 : decide (1000000000 < a2) = false := decide_eq_false c14
     clear c14
     by_cases c15 : a1 < (-1000000000)
     ·rw [if_pos c15] at H
      have c15b0 : decide (a1 < (-1000000000)) = true := decide_eq_true c15
      clear c15
      have H' := Aside0.mk H
      clear H
      go_wp2
      go_meet
      case rel => exact ⟨_, (true), (by first | rfl | (simp; done) | (simp [*]; done)), H', ⟨by first | omega | exact Nat.le_refl _⟩, ⟨by (with_reducible repeat (first | refine blk_drewN ?_ _ | refine blk_drew ?_ | refine blk_alloc ?_ _)); exact BK169.out⟩, ⟨by (with_reducible repeat (first | refine blk_drewN ?_ _ | refine blk_drew ?_ | refine blk_alloc ?_ _)); exact BK170.out⟩, ⟨by repeat (first | (with_reducible first | exact HB.out | apply below_alloc | apply pw_below_drewN | apply below_drew1 | refine below_set ?_ GE169.out | refine below_set ?_ GE170.out) | exact HB.out)⟩⟩
     ·rw [if_neg c15] at H
      have c15b0 : decide (a1 < (-1000000000)) = false := decide_eq_false c15
      clear c15
      have H' := Aside0.mk H
      clear H
      go_wp2
      go_meet
      case rel => exact ⟨_, (decide (a1 > 1000000000)), (by first | rfl | (simp; done) | (simp [*]; done)), H', ⟨by first | omega | exact Nat.le_refl _⟩, ⟨by (with_reducible repeat (first | refine blk_drewN ?_ _ | refine blk_drew ?_ | refine blk_alloc ?_ _)); exact BK169.out⟩, ⟨by (with_reducible repeat (first | refine blk_drewN ?_ _ | refine blk_drew ?_ | refine blk_alloc ?_ _)); exact BK170.out⟩, ⟨by repeat (first | (with_reducible first | exact HB.out | apply below_alloc | apply pw_below_drewN | apply below_drew1 | refine below_set ?_ GE169.out | refine below_set ?_ GE170.out) | exact HB.out)⟩⟩
  case rest =>
   clear HC12
   try clear c1
   try clear p2
   try clear c8
   try clear c9
   try clear c10
   try clear c11
   try clear c11b0
   try clear c11b1
   try clear c13
   try clear c13b0
   try clear c14
   try clear c14b0
   try clear c15
   try clear c15b0
   try clear hcz9_0
   try clear hcz9_1
   try clear hfz9_0
   try clear hfz9_1
   obtain ⟨kq, x32_11, rfl, HA, HJ11, BK169, BK170, HB⟩ := hcut
   cases kq with
   | zero => exact absurd HA.out (by simp [interval_Scale.j0])
   | succ kj11 =>
    have H := HA.out
    clear HA
    simp only [interval_Scale.j0] at H
    by_cases c16 : x32_11 = true
    ·subst c16
     have H1 : (some (0, 0, 1)) = some (r1, r2, r3) := by rw [if_pos rfl] at H; exact H
     clear H
     have H := H1
     clear H1
     simp only [Option.some.injEq, Prod.mk.injEq] at H
     obtain ⟨rfl, rfl, rfl⟩ := H
     have hnb17 := NB170_169.out
     have hnc17 := NB169_170.out
     have hcz18_0 : wc.cell? ⟨gb170, 0, none⟩ = some (.int .i64 0) := (blk_cell BK170.out 0).trans rfl
     have hcz18_1 : wc.cell? ⟨gb170, 1, none⟩ = some (.int .i64 0) := (blk_cell BK170.out 1).trans rfl
     have hfz18_0 := blk_frozen BK170.out 0
     have hfz18_1 := blk_frozen BK170.out 1
     go_wp2
     refine bodyPost_ret (results_ct rfl _ _ gb170 24 #[.int .i64 0, .int .i64 0] (0, 0) _ rfl (by (with_reducible repeat (first | refine blk_drewN ?_ _ | refine blk_drew ?_ | refine blk_alloc ?_ _)); refine blk_put (cs := #[.int .i64 0, .int .i64 0]) ?_ 1 _ rfl; (with_reducible repeat (first | refine blk_drewN ?_ _ | refine blk_drew ?_ | refine blk_alloc ?_ _)); refine blk_put (cs := #[.int .i64 0, .int .i64 0]) ?_ 0 _ rfl; (with_reducible repeat (first | refine blk_drewN ?_ _ | refine blk_drew ?_ | refine blk_alloc ?_ _)); exact BK170.out) Try.underlying24 rfl (by kernel_rfl)) rfl ?_
     exact ⟨by first | rfl | (simp [errW_none, errW_some] <;> rfl) | (simp [*, errW_none, errW_some] <;> rfl), by repeat (first | (with_reducible first | exact HB.out | apply below_alloc | apply pw_below_drewN | apply below_drew1 | refine below_set ?_ GE169.out | refine below_set ?_ GE170.out) | exact HB.out)⟩
    ·replace c16 := Bool.eq_false_iff.mpr c16
     subst c16
     have H1 : (if a1 < 0 then (interval_Scale.j1 kj11 (wrap64 (-a1)) a2 (wrap64 (-a0_1)) (wrap64 (-a0_0))) else (interval_Scale.j1 kj11 a1 a2 a0_0 a0_1)) = some (r1, r2, r3) := by rw [if_neg (show ¬ (false = true) by decide)] at H; exact H
     clear H
     have H := H1
     clear H1
     have HC19 := Aside0.mk H
     clear H
     go_upto_if 35 with (fail)
     go_cut [1] (fun v1 wc => ∃ (kq : Nat) (x1_18 : Int) (x170000_18 : Int) (x170001_18 : Int), v1 = .int .i64 x1_18 ∧ Aside0 (interval_Scale.j1 kq x1_18 a2 x170000_18 x170001_18 = some (r1, r2, r3)) ∧ Aside0 (kq ≤ kj11) ∧ Aside0 (wc.heap[gb169]? = some (.cells #[.int .i64 x170000_18, .int .i64 x170001_18] 24 (0, 0))) ∧ Aside0 (wc.heap[gb170]? = some (.cells #[.int .i64 0, .int .i64 0] 24 (0, 0))) ∧ Aside0 (Below w.heap.size w wc))
     case first =>
      have H := HC19.out
      clear HC19
      by_cases c20 : a1 < 0
      ·rw [if_pos c20] at H
       have c20b0 : decide (a1 < 0) = true := decide_eq_true c20
       clear c20
       (first | rw [c20b0] | (simp only [i64_w, i32_w]; rw [c20b0]) | skip)
       have H' := Aside0.mk H
       clear H
       have hnb21 := NB169_170.out
       have hnc21 := NB170_169.out
       have hcz22_0 : wc.cell? ⟨gb169, 0, none⟩ = some (.int .i64 a0_0) := (blk_cell BK169.out 0).trans rfl
       have hcz22_1 : wc.cell? ⟨gb169, 1, none⟩ = some (.int .i64 a0_1) := (blk_cell BK169.out 1).trans rfl
       have hfz22_0 := blk_frozen BK169.out 0
       have hfz22_1 := blk_frozen BK169.out 1
       go_wp2
       go_meet
       case rel => exact ⟨_, (wrap64 (-a1)), (wrap64 (-a0_1)), (wrap64 (-a0_0)), (by first | rfl | (simp; done) | (simp [*]; done)), H', ⟨by have := HJ11.out; first | omega | exact Nat.le_refl _⟩, ⟨by (with_reducible repeat (first | refine blk_drewN ?_ _ | refine blk_drew ?_ | refine blk_alloc ?_ _)); refine blk_put (cs := #[.int .i64 (wrap64 (-a0_1)), .int .i64 a0_1]) ?_ 1 _ rfl; (with_reducible repeat (first | refine blk_drewN ?_ _ | refine blk_drew ?_ | refine blk_alloc ?_ _)); refine blk_put (cs := #[.int .i64 a0_0, .int .i64 a0_1]) ?_ 0 _ rfl; (with_reducible repeat (first | refine blk_drewN ?_ _ | refine blk_drew ?_ | refine blk_alloc ?_ _)); exact BK169.out⟩, ⟨by (with_reducible repeat (first | refine blk_drewN ?_ _ | refine blk_drew ?_ | refine blk_alloc ?_ _)); refine blk_far ?_ NB170_169.out _; (with_reducible repeat (first | refine blk_drewN ?_ _ | refine blk_drew ?_ | refine blk_alloc ?_ _)); refine blk_far ?_ NB170_169.out _; (with_reducible repeat (first | refine blk_drewN ?_ _ | refine blk_drew ?_ | refine blk_alloc ?_ _)); exact BK170.out⟩, ⟨by repeat (first | (with_reducible first | exact HB.out | apply below_alloc | apply pw_below_drewN | apply below_drew1 | refine below_set ?_ GE169.out | refine below_set ?_ GE170.out) | exact HB.out)⟩⟩
      ·rw [if_neg c20] at H
       have c20b0 : decide (a1 < 0) = false := decide_eq_false c20
       clear c20
       (first | rw [c20b0] | (simp only [i64_w, i32_w]; rw [c20b0]) | skip)
       have H' := Aside0.mk H
       clear H
       go_wp2
       go_meet
       case rel => exact ⟨_, (a1), (a0_0), (a0_1), (by first | rfl | (simp; done) | (simp [*]; done)), H', ⟨by have := HJ11.out; first | omega | exact Nat.le_refl _⟩, ⟨by (with_reducible repeat (first | refine blk_drewN ?_ _ | refine blk_drew ?_ | refine blk_alloc ?_ _)); exact BK169.out⟩, ⟨by (with_reducible repeat (first | refine blk_drewN ?_ _ | refine blk_drew ?_ | refine blk_alloc ?_ _)); exact BK170.out⟩, ⟨by repeat (first | (with_reducible first | exact HB.out | apply below_alloc | apply pw_below_drewN | apply below_drew1 | refine below_set ?_ GE169.out | refine below_set ?_ GE170.out) | exact HB.out)⟩⟩
     case rest =>
      clear HC19
      try clear c1
      try clear c2
      try clear p2
      try clear p6
      try clear c8
      try clear c9
      try clear c10
      try clear c11
      try clear c11b0
      try clear c11b1
      try clear c13
      try clear c13b0
      try clear c14
      try clear c14b0
      try clear c15
      try clear c15b0
      try clear c16
      try clear c17
      try clear c20
      try clear c20b0
      try clear c21
      try clear hcz18_0
      try clear hcz18_1
      try clear hcz22_0
      try clear hcz22_1
      try clear hcz9_0
      try clear hcz9_1
      try clear hfz18_0
      try clear hfz18_1
      try clear hfz22_0
      try clear hfz22_1
      try clear hfz9_0
      try clear hfz9_1
      try clear p2
      obtain ⟨kq, x1_18, x170000_18, x170001_18, rfl, HA, HJ18, BK169, BK170, HB⟩ := hcut
      cases kq with
      | zero => exact absurd HA.out (by simp [interval_Scale.j1])
      | succ kj18 =>
       have H := HA.out
       clear HA
       simp only [interval_Scale.j1] at H
       replace H := Option.bind_eq_some_iff.mp H
       obtain ⟨⟨t172, t173⟩, A230, H⟩ := H
       replace H : ((interval_part.f kj18 (wrap64 (-x170001_18)) x1_18 a2).bind fun bt174 => (if t173 = true then (if bt174.2 = true then (some (t172, wrap64 (-bt174.1), 0)) else (some (0, 0, 14))) else (some (0, 0, 14)))) = some (r1, r2, r3) := H
       have A23 := Aside0.mk A230
       clear A230
       replace H := Option.bind_eq_some_iff.mp H
       obtain ⟨⟨t174, t175⟩, A240, H⟩ := H
       replace H : (if t173 = true then (if t175 = true then (some (t172, wrap64 (-t174), 0)) else (some (0, 0, 14))) else (some (0, 0, 14))) = some (r1, r2, r3) := H
       have A24 := Aside0.mk A240
       clear A240
       by_cases c25 : t173 = true
       ·subst c25
        have H1 : (if t175 = true then (some (t172, wrap64 (-t174), 0)) else (some (0, 0, 14))) = some (r1, r2, r3) := by rw [if_pos rfl] at H; exact H
        clear H
        have H := H1
        clear H1
        by_cases c26 : t175 = true
        ·subst c26
         have H1 : (some (t172, wrap64 (-t174), 0)) = some (r1, r2, r3) := by rw [if_pos rfl] at H; exact H
         clear H
         have H := H1
         clear H1
         simp only [Option.some.injEq, Prod.mk.injEq] at H
         obtain ⟨rfl, rfl, rfl⟩ := H
         have hnb27 := NB169_170.out
         have hnc27 := NB170_169.out
         have hcz28_0 : wc.cell? ⟨gb169, 0, none⟩ = some (.int .i64 x170000_18) := (blk_cell BK169.out 0).trans rfl
         have hcz28_1 : wc.cell? ⟨gb169, 1, none⟩ = some (.int .i64 x170001_18) := (blk_cell BK169.out 1).trans rfl
         have hfz28_0 := blk_frozen BK169.out 0
         have hfz28_1 := blk_frozen BK169.out 1
         go_wp2_with (first | ((with_reducible refine gate_callee (f := 112) rfl ?_); refine goesL_ (some 50) rfl rfl Try.func112 (by kernel_rfl) rfl #[.int .i64 x170000_18, .int .i64 x1_18, .int .i64 a2] rfl (by (try simp only [List.map_toArray, List.map_cons, List.map_nil]); first | done | rfl | (simp only [List.length_drop, List.length_take]; rfl)) ?_; (with_reducible refine (interval_part.calls kj18 x170000_18 x1_18 a2 t172 true _ A23.out).mono ?_); rintro e w' ⟨rfl, ⟨nd, rfl⟩⟩; refine ⟨_, rfl, ?_⟩; (try (rw [drewN_self wc]; generalize hq_ : World.drewN wc _ = wc; have n0_ : Aside0 (wc.heap[gb169]? = some (.cells #[.int .i64 x170000_18, .int .i64 x170001_18] 24 (0, 0))) := ⟨by rw [← hq_]; exact (by (with_reducible repeat (first | refine blk_drewN ?_ _ | refine blk_drew ?_ | refine blk_alloc ?_ _)); exact BK169.out)⟩; have n1_ : Aside0 (wc.heap[gb170]? = some (.cells #[.int .i64 0, .int .i64 0] 24 (0, 0))) := ⟨by rw [← hq_]; exact (by (with_reducible repeat (first | refine blk_drewN ?_ _ | refine blk_drew ?_ | refine blk_alloc ?_ _)); exact BK170.out)⟩; have n2_ : Aside0 (Below w.heap.size w wc) := ⟨by rw [← hq_]; exact (by repeat (first | (with_reducible first | exact HB.out | apply below_alloc | apply pw_below_drewN | apply below_drew1 | refine below_set ?_ GE169.out | refine below_set ?_ GE170.out) | exact HB.out))⟩; clear BK169 BK170 HB hq_; have BK169 := n0_; have BK170 := n1_; have HB := n2_; clear n0_ n1_ n2_; have hcy169_0 : wc.cell? ⟨gb169, 0, none⟩ = some (.int .i64 x170000_18) := (blk_cell BK169.out 0).trans rfl; have hfy169_0 := blk_frozen BK169.out 0; have hcy169_1 : wc.cell? ⟨gb169, 1, none⟩ = some (.int .i64 x170001_18) := (blk_cell BK169.out 1).trans rfl; have hfy169_1 := blk_frozen BK169.out 1; have hcy170_0 : wc.cell? ⟨gb170, 0, none⟩ = some (.int .i64 0) := (blk_cell BK170.out 0).trans rfl; have hfy170_0 := blk_frozen BK170.out 0; have hcy170_1 : wc.cell? ⟨gb170, 1, none⟩ = some (.int .i64 0) := (blk_cell BK170.out 1).trans rfl; have hfy170_1 := blk_frozen BK170.out 1))) | ((with_reducible refine gate_callee (f := 112) rfl ?_); refine goesL_ (some 59) rfl rfl Try.func112 (by kernel_rfl) rfl #[.int .i64 (wrap64 (-x170001_18)), .int .i64 x1_18, .int .i64 a2] rfl (by (try simp only [List.map_toArray, List.map_cons, List.map_nil]); first | done | rfl | (simp only [List.length_drop, List.length_take]; rfl)) ?_; (with_reducible refine (interval_part.calls kj18 (wrap64 (-x170001_18)) x1_18 a2 t174 true _ A24.out).mono ?_); rintro e w' ⟨rfl, ⟨nd, rfl⟩⟩; refine ⟨_, rfl, ?_⟩; (try (rw [drewN_self wc]; generalize hq_ : World.drewN wc _ = wc; have n0_ : Aside0 (wc.heap[gb169]? = some (.cells #[.int .i64 x170000_18, .int .i64 x170001_18] 24 (0, 0))) := ⟨by rw [← hq_]; exact (by (with_reducible repeat (first | refine blk_drewN ?_ _ | refine blk_drew ?_ | refine blk_alloc ?_ _)); exact BK169.out)⟩; have n1_ : Aside0 (wc.heap[gb170]? = some (.cells #[.int .i64 0, .int .i64 0] 24 (0, 0))) := ⟨by rw [← hq_]; exact (by (with_reducible repeat (first | refine blk_drewN ?_ _ | refine blk_drew ?_ | refine blk_alloc ?_ _)); exact BK170.out)⟩; have n2_ : Aside0 (Below w.heap.size w wc) := ⟨by rw [← hq_]; exact (by repeat (first | (with_reducible first | exact HB.out | apply below_alloc | apply pw_below_drewN | apply below_drew1 | refine below_set ?_ GE169.out | refine below_set ?_ GE170.out) | exact HB.out))⟩; clear BK169 BK170 HB hq_; have BK169 := n0_; have BK170 := n1_; have HB := n2_; clear n0_ n1_ n2_; have hcy169_0 : wc.cell? ⟨gb169, 0, none⟩ = some (.int .i64 x170000_18) := (blk_cell BK169.out 0).trans rfl; have hfy169_0 := blk_frozen BK169.out 0; have hcy169_1 : wc.cell? ⟨gb169, 1, none⟩ = some (.int .i64 x170001_18) := (blk_cell BK169.out 1).trans rfl; have hfy169_1 := blk_frozen BK169.out 1; have hcy170_0 : wc.cell? ⟨gb170, 0, none⟩ = some (.int .i64 0) := (blk_cell BK170.out 0).trans rfl; have hfy170_0 := blk_frozen BK170.out 0; have hcy170_1 : wc.cell? ⟨gb170, 1, none⟩ = some (.int .i64 0) := (blk_cell BK170.out 1).trans rfl; have hfy170_1 := blk_frozen BK170.out 1)); have hcz29_0 : wc.cell? ⟨gb170, 0, none⟩ = some (.int .i64 0) := (blk_cell BK170.out 0).trans rfl; have hcz29_1 : wc.cell? ⟨gb170, 1, none⟩ = some (.int .i64 0) := (blk_cell BK170.out 1).trans rfl; have hfz29_0 := blk_frozen BK170.out 0; have hfz29_1 := blk_frozen BK170.out 1))
         refine bodyPost_ret (results_ct rfl _ _ gb170 24 #[.int .i64 t172, .int .i64 (wrap64 (-t174))] (0, 0) _ rfl (by (with_reducible repeat (first | refine blk_drewN ?_ _ | refine blk_drew ?_ | refine blk_alloc ?_ _)); refine blk_put (cs := #[.int .i64 t172, .int .i64 0]) ?_ 1 _ rfl; (with_reducible repeat (first | refine blk_drewN ?_ _ | refine blk_drew ?_ | refine blk_alloc ?_ _)); refine blk_put (cs := #[.int .i64 0, .int .i64 0]) ?_ 0 _ rfl; (with_reducible repeat (first | refine blk_drewN ?_ _ | refine blk_drew ?_ | refine blk_alloc ?_ _)); exact BK170.out) Try.underlying24 rfl (by kernel_rfl)) rfl ?_
         exact ⟨by first | rfl | (simp [errW_none, errW_some] <;> rfl) | (simp [*, errW_none, errW_some] <;> rfl), by repeat (first | (with_reducible first | exact HB.out | apply below_alloc | apply pw_below_drewN | apply below_drew1 | refine below_set ?_ GE169.out | refine below_set ?_ GE170.out) | exact HB.out)⟩
        ·replace c26 := Bool.eq_false_iff.mpr c26
         subst c26
         have H1 : (some (0, 0, 14)) = some (r1, r2, r3) := by rw [if_neg (show ¬ (false = true) by decide)] at H; exact H
         clear H
         have H := H1
         clear H1
         simp only [Option.some.injEq, Prod.mk.injEq] at H
         obtain ⟨rfl, rfl, rfl⟩ := H
         have hnb30 := NB169_170.out
         have hnc30 := NB170_169.out
         have hcz31_0 : wc.cell? ⟨gb169, 0, none⟩ = some (.int .i64 x170000_18) := (blk_cell BK169.out 0).trans rfl
         have hcz31_1 : wc.cell? ⟨gb169, 1, none⟩ = some (.int .i64 x170001_18) := (blk_cell BK169.out 1).trans rfl
         have hfz31_0 := blk_frozen BK169.out 0
         have hfz31_1 := blk_frozen BK169.out 1
         go_wp2_with (first | ((with_reducible refine gate_callee (f := 112) rfl ?_); refine goesL_ (some 50) rfl rfl Try.func112 (by kernel_rfl) rfl #[.int .i64 x170000_18, .int .i64 x1_18, .int .i64 a2] rfl (by (try simp only [List.map_toArray, List.map_cons, List.map_nil]); first | done | rfl | (simp only [List.length_drop, List.length_take]; rfl)) ?_; (with_reducible refine (interval_part.calls kj18 x170000_18 x1_18 a2 t172 true _ A23.out).mono ?_); rintro e w' ⟨rfl, ⟨nd, rfl⟩⟩; refine ⟨_, rfl, ?_⟩; (try (rw [drewN_self wc]; generalize hq_ : World.drewN wc _ = wc; have n0_ : Aside0 (wc.heap[gb169]? = some (.cells #[.int .i64 x170000_18, .int .i64 x170001_18] 24 (0, 0))) := ⟨by rw [← hq_]; exact (by (with_reducible repeat (first | refine blk_drewN ?_ _ | refine blk_drew ?_ | refine blk_alloc ?_ _)); exact BK169.out)⟩; have n1_ : Aside0 (wc.heap[gb170]? = some (.cells #[.int .i64 0, .int .i64 0] 24 (0, 0))) := ⟨by rw [← hq_]; exact (by (with_reducible repeat (first | refine blk_drewN ?_ _ | refine blk_drew ?_ | refine blk_alloc ?_ _)); exact BK170.out)⟩; have n2_ : Aside0 (Below w.heap.size w wc) := ⟨by rw [← hq_]; exact (by repeat (first | (with_reducible first | exact HB.out | apply below_alloc | apply pw_below_drewN | apply below_drew1 | refine below_set ?_ GE169.out | refine below_set ?_ GE170.out) | exact HB.out))⟩; clear BK169 BK170 HB hq_; have BK169 := n0_; have BK170 := n1_; have HB := n2_; clear n0_ n1_ n2_; have hcy169_0 : wc.cell? ⟨gb169, 0, none⟩ = some (.int .i64 x170000_18) := (blk_cell BK169.out 0).trans rfl; have hfy169_0 := blk_frozen BK169.out 0; have hcy169_1 : wc.cell? ⟨gb169, 1, none⟩ = some (.int .i64 x170001_18) := (blk_cell BK169.out 1).trans rfl; have hfy169_1 := blk_frozen BK169.out 1; have hcy170_0 : wc.cell? ⟨gb170, 0, none⟩ = some (.int .i64 0) := (blk_cell BK170.out 0).trans rfl; have hfy170_0 := blk_frozen BK170.out 0; have hcy170_1 : wc.cell? ⟨gb170, 1, none⟩ = some (.int .i64 0) := (blk_cell BK170.out 1).trans rfl; have hfy170_1 := blk_frozen BK170.out 1))) | ((with_reducible refine gate_callee (f := 112) rfl ?_); refine goesL_ (some 59) rfl rfl Try.func112 (by kernel_rfl) rfl #[.int .i64 (wrap64 (-x170001_18)), .int .i64 x1_18, .int .i64 a2] rfl (by (try simp only [List.map_toArray, List.map_cons, List.map_nil]); first | done | rfl | (simp only [List.length_drop, List.length_take]; rfl)) ?_; (with_reducible refine (interval_part.calls kj18 (wrap64 (-x170001_18)) x1_18 a2 t174 false _ A24.out).mono ?_); rintro e w' ⟨rfl, ⟨nd, rfl⟩⟩; refine ⟨_, rfl, ?_⟩; (try (rw [drewN_self wc]; generalize hq_ : World.drewN wc _ = wc; have n0_ : Aside0 (wc.heap[gb169]? = some (.cells #[.int .i64 x170000_18, .int .i64 x170001_18] 24 (0, 0))) := ⟨by rw [← hq_]; exact (by (with_reducible repeat (first | refine blk_drewN ?_ _ | refine blk_drew ?_ | refine blk_alloc ?_ _)); exact BK169.out)⟩; have n1_ : Aside0 (wc.heap[gb170]? = some (.cells #[.int .i64 0, .int .i64 0] 24 (0, 0))) := ⟨by rw [← hq_]; exact (by (with_reducible repeat (first | refine blk_drewN ?_ _ | refine blk_drew ?_ | refine blk_alloc ?_ _)); exact BK170.out)⟩; have n2_ : Aside0 (Below w.heap.size w wc) := ⟨by rw [← hq_]; exact (by repeat (first | (with_reducible first | exact HB.out | apply below_alloc | apply pw_below_drewN | apply below_drew1 | refine below_set ?_ GE169.out | refine below_set ?_ GE170.out) | exact HB.out))⟩; clear BK169 BK170 HB hq_; have BK169 := n0_; have BK170 := n1_; have HB := n2_; clear n0_ n1_ n2_; have hcy169_0 : wc.cell? ⟨gb169, 0, none⟩ = some (.int .i64 x170000_18) := (blk_cell BK169.out 0).trans rfl; have hfy169_0 := blk_frozen BK169.out 0; have hcy169_1 : wc.cell? ⟨gb169, 1, none⟩ = some (.int .i64 x170001_18) := (blk_cell BK169.out 1).trans rfl; have hfy169_1 := blk_frozen BK169.out 1; have hcy170_0 : wc.cell? ⟨gb170, 0, none⟩ = some (.int .i64 0) := (blk_cell BK170.out 0).trans rfl; have hfy170_0 := blk_frozen BK170.out 0; have hcy170_1 : wc.cell? ⟨gb170, 1, none⟩ = some (.int .i64 0) := (blk_cell BK170.out 1).trans rfl; have hfy170_1 := blk_frozen BK170.out 1)); have hcz32_0 : wc.cell? ⟨gb170, 0, none⟩ = some (.int .i64 0) := (blk_cell BK170.out 0).trans rfl; have hcz32_1 : wc.cell? ⟨gb170, 1, none⟩ = some (.int .i64 0) := (blk_cell BK170.out 1).trans rfl; have hfz32_0 := blk_frozen BK170.out 0; have hfz32_1 := blk_frozen BK170.out 1))
         refine bodyPost_ret (results_ct rfl _ _ gb170 24 #[.int .i64 0, .int .i64 0] (0, 0) _ rfl (by (with_reducible repeat (first | refine blk_drewN ?_ _ | refine blk_drew ?_ | refine blk_alloc ?_ _)); refine blk_put (cs := #[.int .i64 0, .int .i64 0]) ?_ 1 _ rfl; (with_reducible repeat (first | refine blk_drewN ?_ _ | refine blk_drew ?_ | refine blk_alloc ?_ _)); refine blk_put (cs := #[.int .i64 0, .int .i64 0]) ?_ 0 _ rfl; (with_reducible repeat (first | refine blk_drewN ?_ _ | refine blk_drew ?_ | refine blk_alloc ?_ _)); exact BK170.out) Try.underlying24 rfl (by kernel_rfl)) rfl ?_
         exact ⟨by first | rfl | (simp [errW_none, errW_some] <;> rfl) | (simp [*, errW_none, errW_some] <;> rfl), by repeat (first | (with_reducible first | exact HB.out | apply below_alloc | apply pw_below_drewN | apply below_drew1 | refine below_set ?_ GE169.out | refine below_set ?_ GE170.out) | exact HB.out)⟩
       ·replace c25 := Bool.eq_false_iff.mpr c25
        subst c25
        have H1 : (some (0, 0, 14)) = some (r1, r2, r3) := by rw [if_neg (show ¬ (false = true) by decide)] at H; exact H
        clear H
        have H := H1
        clear H1
        simp only [Option.some.injEq, Prod.mk.injEq] at H
        obtain ⟨rfl, rfl, rfl⟩ := H
        have hnb33 := NB169_170.out
        have hnc33 := NB170_169.out
        have hcz34_0 : wc.cell? ⟨gb169, 0, none⟩ = some (.int .i64 x170000_18) := (blk_cell BK169.out 0).trans rfl
        have hcz34_1 : wc.cell? ⟨gb169, 1, none⟩ = some (.int .i64 x170001_18) := (blk_cell BK169.out 1).trans rfl
        have hfz34_0 := blk_frozen BK169.out 0
        have hfz34_1 := blk_frozen BK169.out 1
        go_wp2_with (first | ((with_reducible refine gate_callee (f := 112) rfl ?_); refine goesL_ (some 50) rfl rfl Try.func112 (by kernel_rfl) rfl #[.int .i64 x170000_18, .int .i64 x1_18, .int .i64 a2] rfl (by (try simp only [List.map_toArray, List.map_cons, List.map_nil]); first | done | rfl | (simp only [List.length_drop, List.length_take]; rfl)) ?_; (with_reducible refine (interval_part.calls kj18 x170000_18 x1_18 a2 t172 false _ A23.out).mono ?_); rintro e w' ⟨rfl, ⟨nd, rfl⟩⟩; refine ⟨_, rfl, ?_⟩; (try (rw [drewN_self wc]; generalize hq_ : World.drewN wc _ = wc; have n0_ : Aside0 (wc.heap[gb169]? = some (.cells #[.int .i64 x170000_18, .int .i64 x170001_18] 24 (0, 0))) := ⟨by rw [← hq_]; exact (by (with_reducible repeat (first | refine blk_drewN ?_ _ | refine blk_drew ?_ | refine blk_alloc ?_ _)); exact BK169.out)⟩; have n1_ : Aside0 (wc.heap[gb170]? = some (.cells #[.int .i64 0, .int .i64 0] 24 (0, 0))) := ⟨by rw [← hq_]; exact (by (with_reducible repeat (first | refine blk_drewN ?_ _ | refine blk_drew ?_ | refine blk_alloc ?_ _)); exact BK170.out)⟩; have n2_ : Aside0 (Below w.heap.size w wc) := ⟨by rw [← hq_]; exact (by repeat (first | (with_reducible first | exact HB.out | apply below_alloc | apply pw_below_drewN | apply below_drew1 | refine below_set ?_ GE169.out | refine below_set ?_ GE170.out) | exact HB.out))⟩; clear BK169 BK170 HB hq_; have BK169 := n0_; have BK170 := n1_; have HB := n2_; clear n0_ n1_ n2_; have hcy169_0 : wc.cell? ⟨gb169, 0, none⟩ = some (.int .i64 x170000_18) := (blk_cell BK169.out 0).trans rfl; have hfy169_0 := blk_frozen BK169.out 0; have hcy169_1 : wc.cell? ⟨gb169, 1, none⟩ = some (.int .i64 x170001_18) := (blk_cell BK169.out 1).trans rfl; have hfy169_1 := blk_frozen BK169.out 1; have hcy170_0 : wc.cell? ⟨gb170, 0, none⟩ = some (.int .i64 0) := (blk_cell BK170.out 0).trans rfl; have hfy170_0 := blk_frozen BK170.out 0; have hcy170_1 : wc.cell? ⟨gb170, 1, none⟩ = some (.int .i64 0) := (blk_cell BK170.out 1).trans rfl; have hfy170_1 := blk_frozen BK170.out 1))) | ((with_reducible refine gate_callee (f := 112) rfl ?_); refine goesL_ (some 59) rfl rfl Try.func112 (by kernel_rfl) rfl #[.int .i64 (wrap64 (-x170001_18)), .int .i64 x1_18, .int .i64 a2] rfl (by (try simp only [List.map_toArray, List.map_cons, List.map_nil]); first | done | rfl | (simp only [List.length_drop, List.length_take]; rfl)) ?_; (with_reducible refine (interval_part.calls kj18 (wrap64 (-x170001_18)) x1_18 a2 t174 t175 _ A24.out).mono ?_); rintro e w' ⟨rfl, ⟨nd, rfl⟩⟩; refine ⟨_, rfl, ?_⟩; (try (rw [drewN_self wc]; generalize hq_ : World.drewN wc _ = wc; have n0_ : Aside0 (wc.heap[gb169]? = some (.cells #[.int .i64 x170000_18, .int .i64 x170001_18] 24 (0, 0))) := ⟨by rw [← hq_]; exact (by (with_reducible repeat (first | refine blk_drewN ?_ _ | refine blk_drew ?_ | refine blk_alloc ?_ _)); exact BK169.out)⟩; have n1_ : Aside0 (wc.heap[gb170]? = some (.cells #[.int .i64 0, .int .i64 0] 24 (0, 0))) := ⟨by rw [← hq_]; exact (by (with_reducible repeat (first | refine blk_drewN ?_ _ | refine blk_drew ?_ | refine blk_alloc ?_ _)); exact BK170.out)⟩; have n2_ : Aside0 (Below w.heap.size w wc) := ⟨by rw [← hq_]; exact (by repeat (first | (with_reducible first | exact HB.out | apply below_alloc | apply pw_below_drewN | apply below_drew1 | refine below_set ?_ GE169.out | refine below_set ?_ GE170.out) | exact HB.out))⟩; clear BK169 BK170 HB hq_; have BK169 := n0_; have BK170 := n1_; have HB := n2_; clear n0_ n1_ n2_; have hcy169_0 : wc.cell? ⟨gb169, 0, none⟩ = some (.int .i64 x170000_18) := (blk_cell BK169.out 0).trans rfl; have hfy169_0 := blk_frozen BK169.out 0; have hcy169_1 : wc.cell? ⟨gb169, 1, none⟩ = some (.int .i64 x170001_18) := (blk_cell BK169.out 1).trans rfl; have hfy169_1 := blk_frozen BK169.out 1; have hcy170_0 : wc.cell? ⟨gb170, 0, none⟩ = some (.int .i64 0) := (blk_cell BK170.out 0).trans rfl; have hfy170_0 := blk_frozen BK170.out 0; have hcy170_1 : wc.cell? ⟨gb170, 1, none⟩ = some (.int .i64 0) := (blk_cell BK170.out 1).trans rfl; have hfy170_1 := blk_frozen BK170.out 1)); have hcz35_0 : wc.cell? ⟨gb170, 0, none⟩ = some (.int .i64 0) := (blk_cell BK170.out 0).trans rfl; have hcz35_1 : wc.cell? ⟨gb170, 1, none⟩ = some (.int .i64 0) := (blk_cell BK170.out 1).trans rfl; have hfz35_0 := blk_frozen BK170.out 0; have hfz35_1 := blk_frozen BK170.out 1))
        refine bodyPost_ret (results_ct rfl _ _ gb170 24 #[.int .i64 0, .int .i64 0] (0, 0) _ rfl (by (with_reducible repeat (first | refine blk_drewN ?_ _ | refine blk_drew ?_ | refine blk_alloc ?_ _)); refine blk_put (cs := #[.int .i64 0, .int .i64 0]) ?_ 1 _ rfl; (with_reducible repeat (first | refine blk_drewN ?_ _ | refine blk_drew ?_ | refine blk_alloc ?_ _)); refine blk_put (cs := #[.int .i64 0, .int .i64 0]) ?_ 0 _ rfl; (with_reducible repeat (first | refine blk_drewN ?_ _ | refine blk_drew ?_ | refine blk_alloc ?_ _)); exact BK170.out) Try.underlying24 rfl (by kernel_rfl)) rfl ?_
        exact ⟨by first | rfl | (simp [errW_none, errW_some] <;> rfl) | (simp [*, errW_none, errW_some] <;> rfl), by repeat (first | (with_reducible first | exact HB.out | apply below_alloc | apply pw_below_drewN | apply below_drew1 | refine below_set ?_ GE169.out | refine below_set ?_ GE170.out) | exact HB.out)⟩
 ·rw [if_neg c11] at H
  have c11b0 : (t171 == 0) = false := beq_eq_false_iff_ne.mpr c11
  have c11b1 : (t171 != 0) = true := bne_iff_ne.mpr c11
  (first | rw [c11b0] | (simp only [i64_w, i32_w]; rw [c11b0]) | skip)
  simp only [Option.some.injEq, Prod.mk.injEq] at H
  obtain ⟨rfl, rfl, rfl⟩ := H
  have hnb36 := NB170_169.out
  have hnc36 := NB169_170.out
  have hcz37_0 : w10.cell? ⟨gb170, 0, none⟩ = some (.int .i64 0) := (blk_cell BK170.out 0).trans rfl
  have hcz37_1 : w10.cell? ⟨gb170, 1, none⟩ = some (.int .i64 0) := (blk_cell BK170.out 1).trans rfl
  have hfz37_0 := blk_frozen BK170.out 0
  have hfz37_1 := blk_frozen BK170.out 1
  go_wp2
  refine bodyPost_ret (results_ct rfl _ _ gb170 24 #[.int .i64 0, .int .i64 0] (0, 0) _ rfl (by (with_reducible repeat (first | refine blk_drewN ?_ _ | refine blk_drew ?_ | refine blk_alloc ?_ _)); refine blk_put (cs := #[.int .i64 0, .int .i64 0]) ?_ 1 _ rfl; (with_reducible repeat (first | refine blk_drewN ?_ _ | refine blk_drew ?_ | refine blk_alloc ?_ _)); refine blk_put (cs := #[.int .i64 0, .int .i64 0]) ?_ 0 _ rfl; (with_reducible repeat (first | refine blk_drewN ?_ _ | refine blk_drew ?_ | refine blk_alloc ?_ _)); exact BK170.out) Try.underlying24 rfl (by kernel_rfl)) rfl ?_
  exact ⟨by first | rfl | (simp [errW_none, errW_some] <;> rfl) | (simp [*, errW_none, errW_some] <;> rfl), by repeat (first | (with_reducible first | exact HB.out | apply below_alloc | apply pw_below_drewN | apply below_drew1 | refine below_set ?_ GE169.out | refine below_set ?_ GE170.out) | exact HB.out)⟩
end Go.Proofs.Ytcifakgcbgodiaa.PAll
end
