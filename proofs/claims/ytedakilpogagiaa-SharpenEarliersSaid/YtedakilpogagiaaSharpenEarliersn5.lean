/- Written by a program of this session: what one law needs. -/
import Derived.Test.YtedakilpogagiaaSharpenEarliersn3
set_option maxHeartbeats 8000000
set_option maxRecDepth 100000
set_option linter.unusedSimpArgs false
set_option linter.unusedVariables false
section
namespace Go.Proofs.Ytedakilpogagiaa.PAll
open Go.RowKit YtedakilpogagiaaW.PrintWords YtedakilpogagiaaW.PrintLast YtedakilpogagiaaW.PrintMore More2
attribute [local go_sem] max2_int min2_int max_two min_two max_three min_three max_four min_four tdiv2e18_ tdiv1e18_ cellSS_  -- for this text's walks alone
def series_Turned.j0 : Nat → Int → Int → Int → Int → Int → Option (Int)
 | 0, _, _, _, _, _ => none
 | k + 1, x0, x5, x6, x7, x8 => if x5 < 0 then ((interval_Floor.f x0 86400000).bind fun t213 => ((interval_Floor.f (wrap64 ((wrap64 (-(wrap64 ((Int.tmod (wrap64 ((Int.tmod (wrap64 (x7 * (wrap64 (Int.tdiv x8 1000)))) 1000000000000000) * 1000)) 1000000000000000) + (Int.tmod (wrap64 (x7 * (Int.tmod x8 1000))) 1000000000000000))))) + (wrap64 ((wrap64 (t213 * x6)) + (wrap64 (Int.tdiv (wrap64 ((wrap64 (x0 - (wrap64 (t213 * 86400000)))) * x6)) 86400000)))))) 1000000000000000).bind fun t214 => (some (wrap64 ((wrap64 ((wrap64 (-(wrap64 ((Int.tmod (wrap64 ((Int.tmod (wrap64 (x7 * (wrap64 (Int.tdiv x8 1000)))) 1000000000000000) * 1000)) 1000000000000000) + (Int.tmod (wrap64 (x7 * (Int.tmod x8 1000))) 1000000000000000))))) + (wrap64 ((wrap64 (t213 * x6)) + (wrap64 (Int.tdiv (wrap64 ((wrap64 (x0 - (wrap64 (t213 * 86400000)))) * x6)) 86400000)))))) - (wrap64 (t214 * 1000000000000000))))))) else ((interval_Floor.f x0 86400000).bind fun t215 => ((interval_Floor.f (wrap64 ((wrap64 ((Int.tmod (wrap64 ((Int.tmod (wrap64 (x7 * (wrap64 (Int.tdiv x8 1000)))) 1000000000000000) * 1000)) 1000000000000000) + (Int.tmod (wrap64 (x7 * (Int.tmod x8 1000))) 1000000000000000))) + (wrap64 ((wrap64 (t215 * x6)) + (wrap64 (Int.tdiv (wrap64 ((wrap64 (x0 - (wrap64 (t215 * 86400000)))) * x6)) 86400000)))))) 1000000000000000).bind fun t216 => (some (wrap64 ((wrap64 ((wrap64 ((Int.tmod (wrap64 ((Int.tmod (wrap64 (x7 * (wrap64 (Int.tdiv x8 1000)))) 1000000000000000) * 1000)) 1000000000000000) + (Int.tmod (wrap64 (x7 * (Int.tmod x8 1000))) 1000000000000000))) + (wrap64 ((wrap64 (t215 * x6)) + (wrap64 (Int.tdiv (wrap64 ((wrap64 (x0 - (wrap64 (t215 * 86400000)))) * x6)) 86400000)))))) - (wrap64 (t216 * 1000000000000000)))))))
def series_Turned.f (k : Nat) (a0 : Int) (a1 : Int) : Option (Int) := (interval_Floor.f a1 86400000).bind fun t211 => ((interval_Floor.f a0 1000000000000000).bind fun t212 => (if t211 < 0 then (series_Turned.j0 k a0 t211 (wrap64 (a1 - (wrap64 (t211 * 86400000)))) (wrap64 (a0 - (wrap64 (t212 * 1000000000000000)))) (wrap64 (-t211))) else (series_Turned.j0 k a0 t211 (wrap64 (a1 - (wrap64 (t211 * 86400000)))) (wrap64 (a0 - (wrap64 (t212 * 1000000000000000)))) t211)))
theorem series_Turned.mono_l : ∀ k, (∀ y0 y1 y2 y3 y4, LeO (series_Turned.j0 k y0 y1 y2 y3 y4) (series_Turned.j0 (k + 1) y0 y1 y2 y3 y4))
 | 0 => fun _ _ _ _ _ r h => by simp [series_Turned.j0] at h
 | k + 1 => by
  have ih0 := series_Turned.mono_l k
  ·intro y0 y1 y2 y3 y4
   unfold series_Turned.j0
   repeat' first
   | (with_reducible exact ih0 _ _ _ _ _)
   | (with_reducible exact LeO.refl _)
   | (with_reducible exact LeO.none _)
   | (with_reducible refine LeO.ite ?_ ?_)
   | (with_reducible refine LeO.bind ?_ (fun _ => ?_))
   | exact ih0 _ _ _ _ _
   | exact LeO.none _
   | refine LeO.ite ?_ ?_
   | refine LeO.bind ?_ (fun _ => ?_)
theorem series_Turned.mono : ∀ a0 a1 k, LeO (series_Turned.f k a0 a1) (series_Turned.f (k + 1) a0 a1) := by
 intro a0 a1 k
 have ih0 := series_Turned.mono_l k
 unfold series_Turned.f
 repeat' first
   | (with_reducible exact ih0 _ _ _ _ _)
   | (with_reducible exact LeO.refl _)
   | (with_reducible exact LeO.none _)
   | (with_reducible refine LeO.ite ?_ ?_)
   | (with_reducible refine LeO.bind ?_ (fun _ => ?_))
   | exact ih0 _ _ _ _ _
   | exact LeO.none _
   | refine LeO.ite ?_ ?_
   | refine LeO.bind ?_ (fun _ => ?_)
theorem series_Turned.calls (k : Nat) (a0 : Int) (a1 : Int) (r : Int) (w : World) (h : series_Turned.f k a0 a1 = some r) :
  Calls Try.prog 127 #[.int .i64 a0, .int .i64 a1] w fun e w' => e = .returned (.int .i64 r) ∧ Drawn0 w w' := by
 have H : ((interval_Floor.f a1 86400000).bind fun t211 => ((interval_Floor.f a0 1000000000000000).bind fun t212 => (if t211 < 0 then (series_Turned.j0 k a0 t211 (wrap64 (a1 - (wrap64 (t211 * 86400000)))) (wrap64 (a0 - (wrap64 (t212 * 1000000000000000)))) (wrap64 (-t211))) else (series_Turned.j0 k a0 t211 (wrap64 (a1 - (wrap64 (t211 * 86400000)))) (wrap64 (a0 - (wrap64 (t212 * 1000000000000000)))) t211)))) = some r := h
 clear h
 replace H := Option.bind_eq_some_iff.mp H
 obtain ⟨t211, A30, H⟩ := H
 replace H : ((interval_Floor.f a0 1000000000000000).bind fun t212 => (if t211 < 0 then (series_Turned.j0 k a0 t211 (wrap64 (a1 - (wrap64 (t211 * 86400000)))) (wrap64 (a0 - (wrap64 (t212 * 1000000000000000)))) (wrap64 (-t211))) else (series_Turned.j0 k a0 t211 (wrap64 (a1 - (wrap64 (t211 * 86400000)))) (wrap64 (a0 - (wrap64 (t212 * 1000000000000000)))) t211))) = some r := H
 have A3 := Aside0.mk A30
 clear A30
 replace H := Option.bind_eq_some_iff.mp H
 obtain ⟨t212, A40, H⟩ := H
 replace H : (if t211 < 0 then (series_Turned.j0 k a0 t211 (wrap64 (a1 - (wrap64 (t211 * 86400000)))) (wrap64 (a0 - (wrap64 (t212 * 1000000000000000)))) (wrap64 (-t211))) else (series_Turned.j0 k a0 t211 (wrap64 (a1 - (wrap64 (t211 * 86400000)))) (wrap64 (a0 - (wrap64 (t212 * 1000000000000000)))) t211)) = some r := H
 have A4 := Aside0.mk A40
 clear A40
 have HC5 := Aside0.mk H
 clear H
 go_enter Try.func127, Try.ntmps127
 go_upto_if 24 with (first | ((with_reducible refine gate_callee (f := 93) rfl ?_); refine goesL_ (some 12) rfl rfl Try.func93 (by kernel_rfl) rfl #[.int .i64 a1, .int .i64 86400000] rfl (by (try simp only [List.map_toArray, List.map_cons, List.map_nil]); first | done | rfl | (simp only [List.length_drop, List.length_take]; rfl)) ?_; (with_reducible refine (interval_Floor.calls a1 86400000 t211 _ A3.out).mono ?_); rintro e w' ⟨rfl, ⟨nd, rfl⟩⟩; refine ⟨_, rfl, ?_⟩) | ((with_reducible refine gate_callee (f := 93) rfl ?_); refine goesL_ (some 19) rfl rfl Try.func93 (by kernel_rfl) rfl #[.int .i64 a0, .int .i64 1000000000000000] rfl (by (try simp only [List.map_toArray, List.map_cons, List.map_nil]); first | done | rfl | (simp only [List.length_drop, List.length_take]; rfl)) ?_; (with_reducible refine (interval_Floor.calls a0 1000000000000000 t212 _ A4.out).mono ?_); rintro e w' ⟨rfl, ⟨nd, rfl⟩⟩; refine ⟨_, rfl, ?_⟩))
 (try simp only [Act.put, List.setIfInBounds_toArray, List.set_cons_zero, List.set_cons_succ])
 go_cut [8] (fun v8 wc => ∃ (kq : Nat) (x8_4 : Int), v8 = .int .i64 x8_4 ∧ Aside0 (series_Turned.j0 kq a0 t211 (wrap64 (a1 - (wrap64 (t211 * 86400000)))) (wrap64 (a0 - (wrap64 (t212 * 1000000000000000)))) x8_4 = some r) ∧ Aside0 (kq ≤ k) ∧ Drawn0 w wc)
 case first =>
  have H := HC5.out
  clear HC5
  by_cases c6 : t211 < 0
  ·rw [if_pos c6] at H
   have c6b0 : decide (t211 < 0) = true := decide_eq_true c6
   clear c6
   (first | rw [c6b0] | (simp only [i64_w, i32_w]; rw [c6b0]) | skip)
   have H' := Aside0.mk H
   clear H
   go_wp2
   go_meet
   case rel => exact ⟨_, (wrap64 (-t211)), (by first | rfl | (simp; done) | (simp [*]; done)), H', ⟨by first | omega | exact Nat.le_refl _⟩, by repeat (first | exact Drawn0.refl _ | apply Drawn0.step)⟩
  ·rw [if_neg c6] at H
   have c6b0 : decide (t211 < 0) = false := decide_eq_false c6
   clear c6
   (first | rw [c6b0] | (simp only [i64_w, i32_w]; rw [c6b0]) | skip)
   have H' := Aside0.mk H
   clear H
   go_wp2
   go_meet
   case rel => exact ⟨_, (t211), (by first | rfl | (simp; done) | (simp [*]; done)), H', ⟨by first | omega | exact Nat.le_refl _⟩, by repeat (first | exact Drawn0.refl _ | apply Drawn0.step)⟩
 case rest =>
  clear HC5
  try clear c1
  try clear p2
  try clear c6
  try clear c6b0
  try clear p6
  obtain ⟨kq, x8_4, rfl, HA, HJ4, ⟨mc4, rfl⟩⟩ := hcut
  cases kq with
  | zero => exact absurd HA.out (by simp [series_Turned.j0])
  | succ kj4 =>
   have H := HA.out
   clear HA
   simp only [series_Turned.j0] at H
   by_cases c7 : t211 < 0
   ·rw [if_pos c7] at H
    have c7b0 : decide (t211 < 0) = true := decide_eq_true c7
    clear c7
    replace H := Option.bind_eq_some_iff.mp H
    obtain ⟨t213, A80, H⟩ := H
    replace H : ((interval_Floor.f (wrap64 ((wrap64 (-(wrap64 ((Int.tmod (wrap64 ((Int.tmod (wrap64 ((wrap64 (a0 - (wrap64 (t212 * 1000000000000000)))) * (wrap64 (Int.tdiv x8_4 1000)))) 1000000000000000) * 1000)) 1000000000000000) + (Int.tmod (wrap64 ((wrap64 (a0 - (wrap64 (t212 * 1000000000000000)))) * (Int.tmod x8_4 1000))) 1000000000000000))))) + (wrap64 ((wrap64 (t213 * (wrap64 (a1 - (wrap64 (t211 * 86400000)))))) + (wrap64 (Int.tdiv (wrap64 ((wrap64 (a0 - (wrap64 (t213 * 86400000)))) * (wrap64 (a1 - (wrap64 (t211 * 86400000)))))) 86400000)))))) 1000000000000000).bind fun t214 => (some (wrap64 ((wrap64 ((wrap64 (-(wrap64 ((Int.tmod (wrap64 ((Int.tmod (wrap64 ((wrap64 (a0 - (wrap64 (t212 * 1000000000000000)))) * (wrap64 (Int.tdiv x8_4 1000)))) 1000000000000000) * 1000)) 1000000000000000) + (Int.tmod (wrap64 ((wrap64 (a0 - (wrap64 (t212 * 1000000000000000)))) * (Int.tmod x8_4 1000))) 1000000000000000))))) + (wrap64 ((wrap64 (t213 * (wrap64 (a1 - (wrap64 (t211 * 86400000)))))) + (wrap64 (Int.tdiv (wrap64 ((wrap64 (a0 - (wrap64 (t213 * 86400000)))) * (wrap64 (a1 - (wrap64 (t211 * 86400000)))))) 86400000)))))) - (wrap64 (t214 * 1000000000000000)))))) = some r := H
    have A8 := Aside0.mk A80
    clear A80
    replace H := Option.bind_eq_some_iff.mp H
    obtain ⟨t214, A90, H⟩ := H
    replace H : (some (wrap64 ((wrap64 ((wrap64 (-(wrap64 ((Int.tmod (wrap64 ((Int.tmod (wrap64 ((wrap64 (a0 - (wrap64 (t212 * 1000000000000000)))) * (wrap64 (Int.tdiv x8_4 1000)))) 1000000000000000) * 1000)) 1000000000000000) + (Int.tmod (wrap64 ((wrap64 (a0 - (wrap64 (t212 * 1000000000000000)))) * (Int.tmod x8_4 1000))) 1000000000000000))))) + (wrap64 ((wrap64 (t213 * (wrap64 (a1 - (wrap64 (t211 * 86400000)))))) + (wrap64 (Int.tdiv (wrap64 ((wrap64 (a0 - (wrap64 (t213 * 86400000)))) * (wrap64 (a1 - (wrap64 (t211 * 86400000)))))) 86400000)))))) - (wrap64 (t214 * 1000000000000000))))) = some r := H
    have A9 := Aside0.mk A90
    clear A90
    obtain rfl := Option.some.inj H
    simp only [Option.some.injEq, Prod.mk.injEq] at H
    obtain ⟨rfl⟩ := H
    go_wp2_with (first | ((with_reducible refine gate_callee (f := 93) rfl ?_); refine goesL_ (some 45) rfl rfl Try.func93 (by kernel_rfl) rfl #[.int .i64 a0, .int .i64 86400000] rfl (by (try simp only [List.map_toArray, List.map_cons, List.map_nil]); first | done | rfl | (simp only [List.length_drop, List.length_take]; rfl)) ?_; (with_reducible refine (interval_Floor.calls a0 86400000 t213 _ A8.out).mono ?_); rintro e w' ⟨rfl, ⟨nd, rfl⟩⟩; refine ⟨_, rfl, ?_⟩) | ((with_reducible refine gate_callee (f := 93) rfl ?_); refine goesL_ (some 61) rfl rfl Try.func93 (by kernel_rfl) rfl #[.int .i64 (wrap64 ((wrap64 (-(wrap64 ((Int.tmod (wrap64 ((Int.tmod (wrap64 ((wrap64 (a0 - (wrap64 (t212 * 1000000000000000)))) * (wrap64 (Int.tdiv x8_4 1000)))) 1000000000000000) * 1000)) 1000000000000000) + (Int.tmod (wrap64 ((wrap64 (a0 - (wrap64 (t212 * 1000000000000000)))) * (Int.tmod x8_4 1000))) 1000000000000000))))) + (wrap64 ((wrap64 (t213 * (wrap64 (a1 - (wrap64 (t211 * 86400000)))))) + (wrap64 (Int.tdiv (wrap64 ((wrap64 (a0 - (wrap64 (t213 * 86400000)))) * (wrap64 (a1 - (wrap64 (t211 * 86400000)))))) 86400000)))))), .int .i64 1000000000000000] rfl (by (try simp only [List.map_toArray, List.map_cons, List.map_nil]); first | done | rfl | (simp only [List.length_drop, List.length_take]; rfl)) ?_; (with_reducible refine (interval_Floor.calls (wrap64 ((wrap64 (-(wrap64 ((Int.tmod (wrap64 ((Int.tmod (wrap64 ((wrap64 (a0 - (wrap64 (t212 * 1000000000000000)))) * (wrap64 (Int.tdiv x8_4 1000)))) 1000000000000000) * 1000)) 1000000000000000) + (Int.tmod (wrap64 ((wrap64 (a0 - (wrap64 (t212 * 1000000000000000)))) * (Int.tmod x8_4 1000))) 1000000000000000))))) + (wrap64 ((wrap64 (t213 * (wrap64 (a1 - (wrap64 (t211 * 86400000)))))) + (wrap64 (Int.tdiv (wrap64 ((wrap64 (a0 - (wrap64 (t213 * 86400000)))) * (wrap64 (a1 - (wrap64 (t211 * 86400000)))))) 86400000)))))) 1000000000000000 t214 _ A9.out).mono ?_); rintro e w' ⟨rfl, ⟨nd, rfl⟩⟩; refine ⟨_, rfl, ?_⟩))
    go_ret
    exact ⟨by first | rfl | (simp; done) | (simp [*]; done), by repeat (first | exact Drawn0.refl _ | apply Drawn0.step)⟩
   ·rw [if_neg c7] at H
    have c7b0 : decide (t211 < 0) = false := decide_eq_false c7
    clear c7
    replace H := Option.bind_eq_some_iff.mp H
    obtain ⟨t215, A100, H⟩ := H
    replace H : ((interval_Floor.f (wrap64 ((wrap64 ((Int.tmod (wrap64 ((Int.tmod (wrap64 ((wrap64 (a0 - (wrap64 (t212 * 1000000000000000)))) * (wrap64 (Int.tdiv x8_4 1000)))) 1000000000000000) * 1000)) 1000000000000000) + (Int.tmod (wrap64 ((wrap64 (a0 - (wrap64 (t212 * 1000000000000000)))) * (Int.tmod x8_4 1000))) 1000000000000000))) + (wrap64 ((wrap64 (t215 * (wrap64 (a1 - (wrap64 (t211 * 86400000)))))) + (wrap64 (Int.tdiv (wrap64 ((wrap64 (a0 - (wrap64 (t215 * 86400000)))) * (wrap64 (a1 - (wrap64 (t211 * 86400000)))))) 86400000)))))) 1000000000000000).bind fun t216 => (some (wrap64 ((wrap64 ((wrap64 ((Int.tmod (wrap64 ((Int.tmod (wrap64 ((wrap64 (a0 - (wrap64 (t212 * 1000000000000000)))) * (wrap64 (Int.tdiv x8_4 1000)))) 1000000000000000) * 1000)) 1000000000000000) + (Int.tmod (wrap64 ((wrap64 (a0 - (wrap64 (t212 * 1000000000000000)))) * (Int.tmod x8_4 1000))) 1000000000000000))) + (wrap64 ((wrap64 (t215 * (wrap64 (a1 - (wrap64 (t211 * 86400000)))))) + (wrap64 (Int.tdiv (wrap64 ((wrap64 (a0 - (wrap64 (t215 * 86400000)))) * (wrap64 (a1 - (wrap64 (t211 * 86400000)))))) 86400000)))))) - (wrap64 (t216 * 1000000000000000)))))) = some r := H
    have A10 := Aside0.mk A100
    clear A100
    replace H := Option.bind_eq_some_iff.mp H
    obtain ⟨t216, A110, H⟩ := H
    replace H : (some (wrap64 ((wrap64 ((wrap64 ((Int.tmod (wrap64 ((Int.tmod (wrap64 ((wrap64 (a0 - (wrap64 (t212 * 1000000000000000)))) * (wrap64 (Int.tdiv x8_4 1000)))) 1000000000000000) * 1000)) 1000000000000000) + (Int.tmod (wrap64 ((wrap64 (a0 - (wrap64 (t212 * 1000000000000000)))) * (Int.tmod x8_4 1000))) 1000000000000000))) + (wrap64 ((wrap64 (t215 * (wrap64 (a1 - (wrap64 (t211 * 86400000)))))) + (wrap64 (Int.tdiv (wrap64 ((wrap64 (a0 - (wrap64 (t215 * 86400000)))) * (wrap64 (a1 - (wrap64 (t211 * 86400000)))))) 86400000)))))) - (wrap64 (t216 * 1000000000000000))))) = some r := H
    have A11 := Aside0.mk A110
    clear A110
    obtain rfl := Option.some.inj H
    simp only [Option.some.injEq, Prod.mk.injEq] at H
    obtain ⟨rfl⟩ := H
    go_wp2_with (first | ((with_reducible refine gate_callee (f := 93) rfl ?_); refine goesL_ (some 45) rfl rfl Try.func93 (by kernel_rfl) rfl #[.int .i64 a0, .int .i64 86400000] rfl (by (try simp only [List.map_toArray, List.map_cons, List.map_nil]); first | done | rfl | (simp only [List.length_drop, List.length_take]; rfl)) ?_; (with_reducible refine (interval_Floor.calls a0 86400000 t215 _ A10.out).mono ?_); rintro e w' ⟨rfl, ⟨nd, rfl⟩⟩; refine ⟨_, rfl, ?_⟩) | ((with_reducible refine gate_callee (f := 93) rfl ?_); refine goesL_ (some 61) rfl rfl Try.func93 (by kernel_rfl) rfl #[.int .i64 (wrap64 ((wrap64 ((Int.tmod (wrap64 ((Int.tmod (wrap64 ((wrap64 (a0 - (wrap64 (t212 * 1000000000000000)))) * (wrap64 (Int.tdiv x8_4 1000)))) 1000000000000000) * 1000)) 1000000000000000) + (Int.tmod (wrap64 ((wrap64 (a0 - (wrap64 (t212 * 1000000000000000)))) * (Int.tmod x8_4 1000))) 1000000000000000))) + (wrap64 ((wrap64 (t215 * (wrap64 (a1 - (wrap64 (t211 * 86400000)))))) + (wrap64 (Int.tdiv (wrap64 ((wrap64 (a0 - (wrap64 (t215 * 86400000)))) * (wrap64 (a1 - (wrap64 (t211 * 86400000)))))) 86400000)))))), .int .i64 1000000000000000] rfl (by (try simp only [List.map_toArray, List.map_cons, List.map_nil]); first | done | rfl | (simp only [List.length_drop, List.length_take]; rfl)) ?_; (with_reducible refine (interval_Floor.calls (wrap64 ((wrap64 ((Int.tmod (wrap64 ((Int.tmod (wrap64 ((wrap64 (a0 - (wrap64 (t212 * 1000000000000000)))) * (wrap64 (Int.tdiv x8_4 1000)))) 1000000000000000) * 1000)) 1000000000000000) + (Int.tmod (wrap64 ((wrap64 (a0 - (wrap64 (t212 * 1000000000000000)))) * (Int.tmod x8_4 1000))) 1000000000000000))) + (wrap64 ((wrap64 (t215 * (wrap64 (a1 - (wrap64 (t211 * 86400000)))))) + (wrap64 (Int.tdiv (wrap64 ((wrap64 (a0 - (wrap64 (t215 * 86400000)))) * (wrap64 (a1 - (wrap64 (t211 * 86400000)))))) 86400000)))))) 1000000000000000 t216 _ A11.out).mono ?_); rintro e w' ⟨rfl, ⟨nd, rfl⟩⟩; refine ⟨_, rfl, ?_⟩))
    go_ret
    exact ⟨by first | rfl | (simp; done) | (simp [*]; done), by repeat (first | exact Drawn0.refl _ | apply Drawn0.step)⟩
end Go.Proofs.Ytedakilpogagiaa.PAll
end
section
namespace Go.Proofs.Ytedakilpogagiaa.PAll
open Go.RowKit YtedakilpogagiaaW.PrintWords YtedakilpogagiaaW.PrintLast YtedakilpogagiaaW.PrintMore More2
attribute [local go_sem] max2_int min2_int max_two min_two max_three min_three max_four min_four tdiv2e18_ tdiv1e18_ cellSS_  -- for this text's walks alone
def trig_out.f (a0 : Int) : Option (Bool) := if a0 < (-1000000000000000000) then (some true) else (some (decide (a0 > 1000000000000000000)))
theorem trig_out.calls (a0 : Int) (r : Bool) (w : World) (h : trig_out.f a0 = some r) :
  Calls Try.prog 100 #[.int .i64 a0] w fun e w' => e = .returned (.bool r) ∧ Drawn0 w w' := by
 have H : (if a0 < (-1000000000000000000) then (some true) else (some (decide (a0 > 1000000000000000000)))) = some r := h
 clear h
 by_cases c2 : a0 < (-1000000000000000000)
 ·rw [if_pos c2] at H
  have c2b0 : decide (a0 < (-1000000000000000000)) = true := decide_eq_true c2
  clear c2
  obtain rfl := Option.some.inj H
  simp only [Option.some.injEq, Prod.mk.injEq] at H
  obtain ⟨rfl⟩ := H
  go_enter Try.func100, Try.ntmps100
  go_wp2
  go_ret
  exact ⟨by first | rfl | (simp; done) | (simp [*]; done), by repeat (first | exact Drawn0.refl _ | apply Drawn0.step)⟩
 ·rw [if_neg c2] at H
  have c2b0 : decide (a0 < (-1000000000000000000)) = false := decide_eq_false c2
  clear c2
  obtain rfl := Option.some.inj H
  simp only [Option.some.injEq, Prod.mk.injEq] at H
  obtain ⟨rfl⟩ := H
  go_enter Try.func100, Try.ntmps100
  go_wp2
  go_ret
  exact ⟨by first | rfl | (simp; done) | (simp [*]; done), by repeat (first | exact Drawn0.refl _ | apply Drawn0.step)⟩
end Go.Proofs.Ytedakilpogagiaa.PAll
end
section
namespace Go.Proofs.Ytedakilpogagiaa.PAll
open Go.RowKit YtedakilpogagiaaW.PrintWords YtedakilpogagiaaW.PrintLast YtedakilpogagiaaW.PrintMore More2
attribute [local go_sem] max2_int min2_int max_two min_two max_three min_three max_four min_four tdiv2e18_ tdiv1e18_ cellSS_  -- for this text's walks alone
def trig_Reduced.f (a0 : Int) : Option (Int) := (interval_Floor.f a0 1000000000).bind fun t157 => (some (wrap64 (a0 - (wrap64 (t157 * 1000000000)))))
theorem trig_Reduced.calls (a0 : Int) (r : Int) (w : World) (h : trig_Reduced.f a0 = some r) :
  Calls Try.prog 101 #[.int .i64 a0] w fun e w' => e = .returned (.int .i64 r) ∧ Drawn0 w w' := by
 have H : ((interval_Floor.f a0 1000000000).bind fun t157 => (some (wrap64 (a0 - (wrap64 (t157 * 1000000000)))))) = some r := h
 clear h
 replace H := Option.bind_eq_some_iff.mp H
 obtain ⟨t157, A20, H⟩ := H
 replace H : (some (wrap64 (a0 - (wrap64 (t157 * 1000000000))))) = some r := H
 have A2 := Aside0.mk A20
 clear A20
 obtain rfl := Option.some.inj H
 simp only [Option.some.injEq, Prod.mk.injEq] at H
 obtain ⟨rfl⟩ := H
 go_enter Try.func101, Try.ntmps101
 go_wp2_with (first | ((with_reducible refine gate_callee (f := 93) rfl ?_); refine goesL_ (some 5) rfl rfl Try.func93 (by kernel_rfl) rfl #[.int .i64 a0, .int .i64 1000000000] rfl (by (try simp only [List.map_toArray, List.map_cons, List.map_nil]); first | done | rfl | (simp only [List.length_drop, List.length_take]; rfl)) ?_; (with_reducible refine (interval_Floor.calls a0 1000000000 t157 _ A2.out).mono ?_); rintro e w' ⟨rfl, ⟨nd, rfl⟩⟩; refine ⟨_, rfl, ?_⟩))
 go_ret
 exact ⟨by first | rfl | (simp; done) | (simp [*]; done), by repeat (first | exact Drawn0.refl _ | apply Drawn0.step)⟩
end Go.Proofs.Ytedakilpogagiaa.PAll
end
section
namespace Go.Proofs.Ytedakilpogagiaa.PAll
open Go.RowKit YtedakilpogagiaaW.PrintWords YtedakilpogagiaaW.PrintLast YtedakilpogagiaaW.PrintMore More2
attribute [local go_sem] max2_int min2_int max_two min_two max_three min_three max_four min_four tdiv2e18_ tdiv1e18_ cellSS_  -- for this text's walks alone
def trig_mul.f (a0 : Int) (a1 : Int) : Option (Int) := some (wrap64 ((wrap64 ((a0 / 1073741824) * (a1 / 1073741824))) + ((wrap64 ((wrap64 ((wrap64 ((a0 / 1073741824) * (Go.bits .and .i64 a1 1073741823))) + (wrap64 ((Go.bits .and .i64 a0 1073741823) * (a1 / 1073741824))))) + ((wrap64 ((Go.bits .and .i64 a0 1073741823) * (Go.bits .and .i64 a1 1073741823))) / 1073741824))) / 1073741824)))
theorem trig_mul.calls (a0 : Int) (a1 : Int) (r : Int) (w : World) (h : trig_mul.f a0 a1 = some r) :
  Calls Try.prog 128 #[.int .i64 a0, .int .i64 a1] w fun e w' => e = .returned (.int .i64 r) ∧ Drawn0 w w' := by
 have H : (some (wrap64 ((wrap64 ((a0 / 1073741824) * (a1 / 1073741824))) + ((wrap64 ((wrap64 ((wrap64 ((a0 / 1073741824) * (Go.bits .and .i64 a1 1073741823))) + (wrap64 ((Go.bits .and .i64 a0 1073741823) * (a1 / 1073741824))))) + ((wrap64 ((Go.bits .and .i64 a0 1073741823) * (Go.bits .and .i64 a1 1073741823))) / 1073741824))) / 1073741824)))) = some r := h
 clear h
 obtain rfl := Option.some.inj H
 simp only [Option.some.injEq, Prod.mk.injEq] at H
 obtain ⟨rfl⟩ := H
 go_enter Try.func128, Try.ntmps128
 go_wp2
 go_ret
 exact ⟨by first | rfl | (simp; done) | (simp [*]; done), by repeat (first | exact Drawn0.refl _ | apply Drawn0.step)⟩
end Go.Proofs.Ytedakilpogagiaa.PAll
end
section
namespace Go.Proofs.Ytedakilpogagiaa.PAll
open Go.RowKit YtedakilpogagiaaW.PrintWords YtedakilpogagiaaW.PrintLast YtedakilpogagiaaW.PrintMore More2
attribute [local go_sem] max2_int min2_int max_two min_two max_three min_three max_four min_four tdiv2e18_ tdiv1e18_ cellSS_  -- for this text's walks alone
def trig_octant.l0 : Nat → Int → Int → Int → Int → Int → Int → Option (Int × Int)
 | 0, _, _, _, _, _, _ => none
 | k + 1, x5, x6, x7, x8, x9, x10 => if x10 ≤ 9 then ((trig_mul.f x9 x5).bind fun t159 => (if (wrap64 ((wrap64 ((wrap64 ((wrap64 (2 * x10)) - 1)) * 2)) * x10)) = 0 then (none) else ((trig_mul.f x8 x5).bind fun t160 => (if (wrap64 ((wrap64 (2 * x10)) * (wrap64 ((wrap64 (2 * x10)) + 1)))) = 0 then (none) else (if (Int.tmod x10 2) = 1 then (trig_octant.l0 k x5 (wrap64 (x6 - (wrap64 (Int.tdiv t160 (wrap64 ((wrap64 (2 * x10)) * (wrap64 ((wrap64 (2 * x10)) + 1)))))))) (wrap64 (x7 - (wrap64 (Int.tdiv t159 (wrap64 ((wrap64 ((wrap64 ((wrap64 (2 * x10)) - 1)) * 2)) * x10)))))) (wrap64 (Int.tdiv t160 (wrap64 ((wrap64 (2 * x10)) * (wrap64 ((wrap64 (2 * x10)) + 1)))))) (wrap64 (Int.tdiv t159 (wrap64 ((wrap64 ((wrap64 ((wrap64 (2 * x10)) - 1)) * 2)) * x10)))) (wrap64 (x10 + 1))) else (trig_octant.l0 k x5 (wrap64 (x6 + (wrap64 (Int.tdiv t160 (wrap64 ((wrap64 (2 * x10)) * (wrap64 ((wrap64 (2 * x10)) + 1)))))))) (wrap64 (x7 + (wrap64 (Int.tdiv t159 (wrap64 ((wrap64 ((wrap64 ((wrap64 (2 * x10)) - 1)) * 2)) * x10)))))) (wrap64 (Int.tdiv t160 (wrap64 ((wrap64 (2 * x10)) * (wrap64 ((wrap64 (2 * x10)) + 1)))))) (wrap64 (Int.tdiv t159 (wrap64 ((wrap64 ((wrap64 ((wrap64 (2 * x10)) - 1)) * 2)) * x10)))) (wrap64 (x10 + 1)))))))) else (some (mx 0 x6, mn 1152921504606846976 x7))
def trig_octant.f (k : Nat) (a0 : Int) : Option (Int × Int) := (trig_mul.f (wrap64 ((wrap64 (a0 * 7244019458)) + (wrap64 (Int.tdiv (wrap64 (a0 * 77122842)) 1000000000)))) (wrap64 ((wrap64 (a0 * 7244019458)) + (wrap64 (Int.tdiv (wrap64 (a0 * 77122842)) 1000000000))))).bind fun t158 => (trig_octant.l0 k t158 (wrap64 ((wrap64 (a0 * 7244019458)) + (wrap64 (Int.tdiv (wrap64 (a0 * 77122842)) 1000000000)))) 1152921504606846976 (wrap64 ((wrap64 (a0 * 7244019458)) + (wrap64 (Int.tdiv (wrap64 (a0 * 77122842)) 1000000000)))) 1152921504606846976 1)
theorem trig_octant.mono_l : ∀ k, (∀ y0 y1 y2 y3 y4 y5, LeO (trig_octant.l0 k y0 y1 y2 y3 y4 y5) (trig_octant.l0 (k + 1) y0 y1 y2 y3 y4 y5))
 | 0 => fun _ _ _ _ _ _ r h => by simp [trig_octant.l0] at h
 | k + 1 => by
  have ih0 := trig_octant.mono_l k
  ·intro y0 y1 y2 y3 y4 y5
   unfold trig_octant.l0
   repeat' first
   | (with_reducible exact ih0 _ _ _ _ _ _)
   | (with_reducible exact LeO.refl _)
   | (with_reducible exact LeO.none _)
   | (with_reducible refine LeO.ite ?_ ?_)
   | (with_reducible refine LeO.bind ?_ (fun _ => ?_))
   | exact ih0 _ _ _ _ _ _
   | exact LeO.none _
   | refine LeO.ite ?_ ?_
   | refine LeO.bind ?_ (fun _ => ?_)
theorem trig_octant.mono : ∀ a0 k, LeO (trig_octant.f k a0) (trig_octant.f (k + 1) a0) := by
 intro a0 k
 have ih0 := trig_octant.mono_l k
 unfold trig_octant.f
 repeat' first
   | (with_reducible exact ih0 _ _ _ _ _ _)
   | (with_reducible exact LeO.refl _)
   | (with_reducible exact LeO.none _)
   | (with_reducible refine LeO.ite ?_ ?_)
   | (with_reducible refine LeO.bind ?_ (fun _ => ?_))
   | exact ih0 _ _ _ _ _ _
   | exact LeO.none _
   | refine LeO.ite ?_ ?_
   | refine LeO.bind ?_ (fun _ => ?_)
theorem trig_octant.calls (k : Nat) (a0 : Int) (r1 : Int) (r2 : Int) (w : World) (h : trig_octant.f k a0 = some (r1, r2)) :
  Calls Try.prog 102 #[.int .i64 a0] w fun e w' => e = .returned (.tuple #[.int .i64 r1, .int .i64 r2]) ∧ Below w.heap.size w w' := by
 have HB := Aside0.mk (Below.refl w.heap.size w)
 have H : ((trig_mul.f (wrap64 ((wrap64 (a0 * 7244019458)) + (wrap64 (Int.tdiv (wrap64 (a0 * 77122842)) 1000000000)))) (wrap64 ((wrap64 (a0 * 7244019458)) + (wrap64 (Int.tdiv (wrap64 (a0 * 77122842)) 1000000000))))).bind fun t158 => (trig_octant.l0 k t158 (wrap64 ((wrap64 (a0 * 7244019458)) + (wrap64 (Int.tdiv (wrap64 (a0 * 77122842)) 1000000000)))) 1152921504606846976 (wrap64 ((wrap64 (a0 * 7244019458)) + (wrap64 (Int.tdiv (wrap64 (a0 * 77122842)) 1000000000)))) 1152921504606846976 1)) = some (r1, r2) := h
 clear h
 replace H := Option.bind_eq_some_iff.mp H
 obtain ⟨t158, A20, H⟩ := H
 replace H : (trig_octant.l0 k t158 (wrap64 ((wrap64 (a0 * 7244019458)) + (wrap64 (Int.tdiv (wrap64 (a0 * 77122842)) 1000000000)))) 1152921504606846976 (wrap64 ((wrap64 (a0 * 7244019458)) + (wrap64 (Int.tdiv (wrap64 (a0 * 77122842)) 1000000000)))) 1152921504606846976 1) = some (r1, r2) := H
 have A2 := Aside0.mk A20
 clear A20
 have H' := Aside0.mk H
 clear H
 go_enter Try.func102, Try.ntmps102
 go_wp2_with (first | ((with_reducible refine gate_callee (f := 128) rfl ?_); refine goesL_ (some 19) rfl rfl Try.func128 (by kernel_rfl) rfl #[.int .i64 (wrap64 ((wrap64 (a0 * 7244019458)) + (wrap64 (Int.tdiv (wrap64 (a0 * 77122842)) 1000000000)))), .int .i64 (wrap64 ((wrap64 (a0 * 7244019458)) + (wrap64 (Int.tdiv (wrap64 (a0 * 77122842)) 1000000000))))] rfl (by (try simp only [List.map_toArray, List.map_cons, List.map_nil]); first | done | rfl | (simp only [List.length_drop, List.length_take]; rfl)) ?_; (with_reducible refine (trig_mul.calls (wrap64 ((wrap64 (a0 * 7244019458)) + (wrap64 (Int.tdiv (wrap64 (a0 * 77122842)) 1000000000)))) (wrap64 ((wrap64 (a0 * 7244019458)) + (wrap64 (Int.tdiv (wrap64 (a0 * 77122842)) 1000000000)))) t158 _ A2.out).mono ?_); rintro e w' ⟨rfl, ⟨nd, rfl⟩⟩; refine ⟨_, rfl, ?_⟩))
 go_loopg [6, 7, 8, 9, 10] k (fun kq v6 v7 v8 v9 v10 w' => ∃ (x6_1 : Int) (x7_1 : Int) (x8_1 : Int) (x9_1 : Int) (x10_1 : Int), v6 = .int .i64 x6_1 ∧ v7 = .int .i64 x7_1 ∧ v8 = .int .i64 x8_1 ∧ v9 = .int .i64 x9_1 ∧ v10 = .int .i64 x10_1 ∧ Aside0 (trig_octant.l0 kq t158 x6_1 x7_1 x8_1 x9_1 x10_1 = some (r1, r2)) ∧ Aside0 (kq ≤ k) ∧ Aside0 (Below w.heap.size w w'))
 case atStart => exact ⟨(wrap64 ((wrap64 (a0 * 7244019458)) + (wrap64 (Int.tdiv (wrap64 (a0 * 77122842)) 1000000000)))), (1152921504606846976), (wrap64 ((wrap64 (a0 * 7244019458)) + (wrap64 (Int.tdiv (wrap64 (a0 * 77122842)) 1000000000)))), (1152921504606846976), (1), (by first | rfl | (simp; done) | (simp [*]; done)), (by first | rfl | (simp; done) | (simp [*]; done)), (by first | rfl | (simp; done) | (simp [*]; done)), (by first | rfl | (simp; done) | (simp [*]; done)), (by first | rfl | (simp; done) | (simp [*]; done)), H', ⟨Nat.le_refl _⟩, ⟨by repeat (first | (with_reducible first | exact HB.out | apply below_alloc | apply pw_below_drewN | apply below_drew1) | exact HB.out)⟩⟩
 case round =>
  clear H'
  try clear c1
  try clear p2
  obtain ⟨x6_1, x7_1, x8_1, x9_1, x10_1, rfl, rfl, rfl, rfl, rfl, HA, HK1, HB⟩ := hrel
  cases gk with
  | zero => exact absurd HA.out (by simp [trig_octant.l0])
  | succ k1 =>
   have H := HA.out
   clear HA
   simp only [trig_octant.l0] at H
   by_cases c3 : x10_1 ≤ 9
   ·rw [if_pos c3] at H
    have c3b0 : decide (x10_1 ≤ 9) = true := decide_eq_true c3
    clear c3
    replace H := Option.bind_eq_some_iff.mp H
    obtain ⟨t159, A40, H⟩ := H
    replace H : (if (wrap64 ((wrap64 ((wrap64 ((wrap64 (2 * x10_1)) - 1)) * 2)) * x10_1)) = 0 then (none) else ((trig_mul.f x8_1 t158).bind fun t160 => (if (wrap64 ((wrap64 (2 * x10_1)) * (wrap64 ((wrap64 (2 * x10_1)) + 1)))) = 0 then (none) else (if (Int.tmod x10_1 2) = 1 then (trig_octant.l0 k1 t158 (wrap64 (x6_1 - (wrap64 (Int.tdiv t160 (wrap64 ((wrap64 (2 * x10_1)) * (wrap64 ((wrap64 (2 * x10_1)) + 1)))))))) (wrap64 (x7_1 - (wrap64 (Int.tdiv t159 (wrap64 ((wrap64 ((wrap64 ((wrap64 (2 * x10_1)) - 1)) * 2)) * x10_1)))))) (wrap64 (Int.tdiv t160 (wrap64 ((wrap64 (2 * x10_1)) * (wrap64 ((wrap64 (2 * x10_1)) + 1)))))) (wrap64 (Int.tdiv t159 (wrap64 ((wrap64 ((wrap64 ((wrap64 (2 * x10_1)) - 1)) * 2)) * x10_1)))) (wrap64 (x10_1 + 1))) else (trig_octant.l0 k1 t158 (wrap64 (x6_1 + (wrap64 (Int.tdiv t160 (wrap64 ((wrap64 (2 * x10_1)) * (wrap64 ((wrap64 (2 * x10_1)) + 1)))))))) (wrap64 (x7_1 + (wrap64 (Int.tdiv t159 (wrap64 ((wrap64 ((wrap64 ((wrap64 (2 * x10_1)) - 1)) * 2)) * x10_1)))))) (wrap64 (Int.tdiv t160 (wrap64 ((wrap64 (2 * x10_1)) * (wrap64 ((wrap64 (2 * x10_1)) + 1)))))) (wrap64 (Int.tdiv t159 (wrap64 ((wrap64 ((wrap64 ((wrap64 (2 * x10_1)) - 1)) * 2)) * x10_1)))) (wrap64 (x10_1 + 1))))))) = some (r1, r2) := H
    have A4 := Aside0.mk A40
    clear A40
    by_cases c5 : (wrap64 ((wrap64 ((wrap64 ((wrap64 (2 * x10_1)) - 1)) * 2)) * x10_1)) = 0
    ·rw [if_pos c5] at H
     exact absurd H (by simp)
    ·rw [if_neg c5] at H
     have c5b0 : ((wrap64 ((wrap64 ((wrap64 ((wrap64 (2 * x10_1)) - 1)) * 2)) * x10_1)) == 0) = false := beq_eq_false_iff_ne.mpr c5
     have c5b1 : ((wrap64 ((wrap64 ((wrap64 ((wrap64 (2 * x10_1)) - 1)) * 2)) * x10_1)) != 0) = true := bne_iff_ne.mpr c5
     replace H := Option.bind_eq_some_iff.mp H
     obtain ⟨t160, A60, H⟩ := H
     replace H : (if (wrap64 ((wrap64 (2 * x10_1)) * (wrap64 ((wrap64 (2 * x10_1)) + 1)))) = 0 then (none) else (if (Int.tmod x10_1 2) = 1 then (trig_octant.l0 k1 t158 (wrap64 (x6_1 - (wrap64 (Int.tdiv t160 (wrap64 ((wrap64 (2 * x10_1)) * (wrap64 ((wrap64 (2 * x10_1)) + 1)))))))) (wrap64 (x7_1 - (wrap64 (Int.tdiv t159 (wrap64 ((wrap64 ((wrap64 ((wrap64 (2 * x10_1)) - 1)) * 2)) * x10_1)))))) (wrap64 (Int.tdiv t160 (wrap64 ((wrap64 (2 * x10_1)) * (wrap64 ((wrap64 (2 * x10_1)) + 1)))))) (wrap64 (Int.tdiv t159 (wrap64 ((wrap64 ((wrap64 ((wrap64 (2 * x10_1)) - 1)) * 2)) * x10_1)))) (wrap64 (x10_1 + 1))) else (trig_octant.l0 k1 t158 (wrap64 (x6_1 + (wrap64 (Int.tdiv t160 (wrap64 ((wrap64 (2 * x10_1)) * (wrap64 ((wrap64 (2 * x10_1)) + 1)))))))) (wrap64 (x7_1 + (wrap64 (Int.tdiv t159 (wrap64 ((wrap64 ((wrap64 ((wrap64 (2 * x10_1)) - 1)) * 2)) * x10_1)))))) (wrap64 (Int.tdiv t160 (wrap64 ((wrap64 (2 * x10_1)) * (wrap64 ((wrap64 (2 * x10_1)) + 1)))))) (wrap64 (Int.tdiv t159 (wrap64 ((wrap64 ((wrap64 ((wrap64 (2 * x10_1)) - 1)) * 2)) * x10_1)))) (wrap64 (x10_1 + 1))))) = some (r1, r2) := H
     have A6 := Aside0.mk A60
     clear A60
     by_cases c7 : (wrap64 ((wrap64 (2 * x10_1)) * (wrap64 ((wrap64 (2 * x10_1)) + 1)))) = 0
     ·rw [if_pos c7] at H
      exact absurd H (by simp)
     ·rw [if_neg c7] at H
      have c7b0 : ((wrap64 ((wrap64 (2 * x10_1)) * (wrap64 ((wrap64 (2 * x10_1)) + 1)))) == 0) = false := beq_eq_false_iff_ne.mpr c7
      have c7b1 : ((wrap64 ((wrap64 (2 * x10_1)) * (wrap64 ((wrap64 (2 * x10_1)) + 1)))) != 0) = true := bne_iff_ne.mpr c7
      by_cases c8 : (Int.tmod x10_1 2) = 1
      ·rw [if_pos c8] at H
       have c8b0 : ((Int.tmod x10_1 2) == 1) = true := beq_iff_eq.mpr c8
       have c8b1 : ((Int.tmod x10_1 2) != 1) = false := bne_eq_false_iff_eq.mpr c8
       clear c8
       have H' := Aside0.mk H
       clear H
       go_wp2_with (first | ((with_reducible refine gate_callee (f := 128) rfl ?_); refine goesL_ (some 28) rfl rfl Try.func128 (by kernel_rfl) rfl #[.int .i64 x9_1, .int .i64 t158] rfl (by (try simp only [List.map_toArray, List.map_cons, List.map_nil]); first | done | rfl | (simp only [List.length_drop, List.length_take]; rfl)) ?_; (with_reducible refine (trig_mul.calls x9_1 t158 t159 _ A4.out).mono ?_); rintro e w' ⟨rfl, ⟨nd, rfl⟩⟩; refine ⟨_, rfl, ?_⟩) | ((with_reducible refine gate_callee (f := 128) rfl ?_); refine goesL_ (some 38) rfl rfl Try.func128 (by kernel_rfl) rfl #[.int .i64 x8_1, .int .i64 t158] rfl (by (try simp only [List.map_toArray, List.map_cons, List.map_nil]); first | done | rfl | (simp only [List.length_drop, List.length_take]; rfl)) ?_; (with_reducible refine (trig_mul.calls x8_1 t158 t160 _ A6.out).mono ?_); rintro e w' ⟨rfl, ⟨nd, rfl⟩⟩; refine ⟨_, rfl, ?_⟩))
       go_roundg k1
       case measure => have := HK1.out; omega
       case rel => exact ⟨(wrap64 (x6_1 - (wrap64 (Int.tdiv t160 (wrap64 ((wrap64 (2 * x10_1)) * (wrap64 ((wrap64 (2 * x10_1)) + 1)))))))), (wrap64 (x7_1 - (wrap64 (Int.tdiv t159 (wrap64 ((wrap64 ((wrap64 ((wrap64 (2 * x10_1)) - 1)) * 2)) * x10_1)))))), (wrap64 (Int.tdiv t160 (wrap64 ((wrap64 (2 * x10_1)) * (wrap64 ((wrap64 (2 * x10_1)) + 1)))))), (wrap64 (Int.tdiv t159 (wrap64 ((wrap64 ((wrap64 ((wrap64 (2 * x10_1)) - 1)) * 2)) * x10_1)))), (wrap64 (x10_1 + 1)), (by first | rfl | (simp; done) | (simp [*]; done)), (by first | rfl | (simp; done) | (simp [*]; done)), (by first | rfl | (simp; done) | (simp [*]; done)), (by first | rfl | (simp; done) | (simp [*]; done)), (by first | rfl | (simp; done) | (simp [*]; done)), H', ⟨by have := HK1.out; omega⟩, ⟨by repeat (first | (with_reducible first | exact HB.out | apply below_alloc | apply pw_below_drewN | apply below_drew1) | exact HB.out)⟩⟩
      ·rw [if_neg c8] at H
       have c8b0 : ((Int.tmod x10_1 2) == 1) = false := beq_eq_false_iff_ne.mpr c8
       have c8b1 : ((Int.tmod x10_1 2) != 1) = true := bne_iff_ne.mpr c8
       have H' := Aside0.mk H
       clear H
       go_wp2_with (first | ((with_reducible refine gate_callee (f := 128) rfl ?_); refine goesL_ (some 28) rfl rfl Try.func128 (by kernel_rfl) rfl #[.int .i64 x9_1, .int .i64 t158] rfl (by (try simp only [List.map_toArray, List.map_cons, List.map_nil]); first | done | rfl | (simp only [List.length_drop, List.length_take]; rfl)) ?_; (with_reducible refine (trig_mul.calls x9_1 t158 t159 _ A4.out).mono ?_); rintro e w' ⟨rfl, ⟨nd, rfl⟩⟩; refine ⟨_, rfl, ?_⟩) | ((with_reducible refine gate_callee (f := 128) rfl ?_); refine goesL_ (some 38) rfl rfl Try.func128 (by kernel_rfl) rfl #[.int .i64 x8_1, .int .i64 t158] rfl (by (try simp only [List.map_toArray, List.map_cons, List.map_nil]); first | done | rfl | (simp only [List.length_drop, List.length_take]; rfl)) ?_; (with_reducible refine (trig_mul.calls x8_1 t158 t160 _ A6.out).mono ?_); rintro e w' ⟨rfl, ⟨nd, rfl⟩⟩; refine ⟨_, rfl, ?_⟩))
       go_roundg k1
       case measure => have := HK1.out; omega
       case rel => exact ⟨(wrap64 (x6_1 + (wrap64 (Int.tdiv t160 (wrap64 ((wrap64 (2 * x10_1)) * (wrap64 ((wrap64 (2 * x10_1)) + 1)))))))), (wrap64 (x7_1 + (wrap64 (Int.tdiv t159 (wrap64 ((wrap64 ((wrap64 ((wrap64 (2 * x10_1)) - 1)) * 2)) * x10_1)))))), (wrap64 (Int.tdiv t160 (wrap64 ((wrap64 (2 * x10_1)) * (wrap64 ((wrap64 (2 * x10_1)) + 1)))))), (wrap64 (Int.tdiv t159 (wrap64 ((wrap64 ((wrap64 ((wrap64 (2 * x10_1)) - 1)) * 2)) * x10_1)))), (wrap64 (x10_1 + 1)), (by first | rfl | (simp; done) | (simp [*]; done)), (by first | rfl | (simp; done) | (simp [*]; done)), (by first | rfl | (simp; done) | (simp [*]; done)), (by first | rfl | (simp; done) | (simp [*]; done)), (by first | rfl | (simp; done) | (simp [*]; done)), H', ⟨by have := HK1.out; omega⟩, ⟨by repeat (first | (with_reducible first | exact HB.out | apply below_alloc | apply pw_below_drewN | apply below_drew1) | exact HB.out)⟩⟩
   ·rw [if_neg c3] at H
    have c3b0 : decide (x10_1 ≤ 9) = false := decide_eq_false c3
    clear c3
    obtain ⟨ji9, hji9⟩ : ∃ j_ : Int, (mx 0 x6_1) = j_ := ⟨_, rfl⟩
    replace H : (some (ji9, mn 1152921504606846976 x7_1)) = some (r1, r2) := by first | (rw [hji9] at H; exact H) | (simp only [hji9] at H ⊢; exact H)
    have hji9_ : (if 0 < x6_1 then x6_1 else 0) = ji9 := hji9
    obtain ⟨ji10, hji10⟩ : ∃ j_ : Int, (mn 1152921504606846976 x7_1) = j_ := ⟨_, rfl⟩
    replace H : (some (ji9, ji10)) = some (r1, r2) := by first | (rw [hji10] at H; exact H) | (simp only [hji10] at H ⊢; exact H)
    have hji10_ : (if x7_1 < 1152921504606846976 then x7_1 else 1152921504606846976) = ji10 := hji10
    simp only [Option.some.injEq, Prod.mk.injEq] at H
    obtain ⟨rfl, rfl⟩ := H
    go_wp2
    go_ret2
    exact ⟨by first | rfl | (simp [errW_none, errW_some] <;> rfl) | (simp only [← hji9, ← hji10]; first | rfl | (simp [errW_none, errW_some] <;> rfl)) | (simp [*, errW_none, errW_some] <;> rfl), by repeat (first | (with_reducible first | exact HB.out | apply below_alloc | apply pw_below_drewN | apply below_drew1) | exact HB.out)⟩
end Go.Proofs.Ytedakilpogagiaa.PAll
end
section
namespace Go.Proofs.Ytedakilpogagiaa.PAll
open Go.RowKit YtedakilpogagiaaW.PrintWords YtedakilpogagiaaW.PrintLast YtedakilpogagiaaW.PrintMore More2
attribute [local go_sem] max2_int min2_int max_two min_two max_three min_three max_four min_four tdiv2e18_ tdiv1e18_ cellSS_  -- for this text's walks alone
def trig_rounded.f (a0 : Int) : Option (Int × Int) := some (mx (-1000000000) (wrap64 (((wrap64 ((wrap64 ((a0 / 1073741824) * 1000000000)) + ((wrap64 ((Go.bits .and .i64 a0 1073741823) * 1000000000)) / 1073741824))) / 1073741824) - 1)), mn 1000000000 (wrap64 (((wrap64 ((wrap64 ((a0 / 1073741824) * 1000000000)) + ((wrap64 ((Go.bits .and .i64 a0 1073741823) * 1000000000)) / 1073741824))) / 1073741824) + 2)))
theorem trig_rounded.calls (a0 : Int) (r1 : Int) (r2 : Int) (w : World) (h : trig_rounded.f a0 = some (r1, r2)) :
  Calls Try.prog 103 #[.int .i64 a0] w fun e w' => e = .returned (.agg #[.int .i64 r1, .int .i64 r2]) ∧ Below w.heap.size w w' := by
 have hu23 := Try.underlying23
 have HB := Aside0.mk (Below.refl w.heap.size w)
 have H : (some (mx (-1000000000) (wrap64 (((wrap64 ((wrap64 ((a0 / 1073741824) * 1000000000)) + ((wrap64 ((Go.bits .and .i64 a0 1073741823) * 1000000000)) / 1073741824))) / 1073741824) - 1)), mn 1000000000 (wrap64 (((wrap64 ((wrap64 ((a0 / 1073741824) * 1000000000)) + ((wrap64 ((Go.bits .and .i64 a0 1073741823) * 1000000000)) / 1073741824))) / 1073741824) + 2)))) = some (r1, r2) := h
 clear h
 obtain ⟨ji2, hji2⟩ : ∃ j_ : Int, (mx (-1000000000) (wrap64 (((wrap64 ((wrap64 ((a0 / 1073741824) * 1000000000)) + ((wrap64 ((Go.bits .and .i64 a0 1073741823) * 1000000000)) / 1073741824))) / 1073741824) - 1))) = j_ := ⟨_, rfl⟩
 replace H : (some (ji2, mn 1000000000 (wrap64 (((wrap64 ((wrap64 ((a0 / 1073741824) * 1000000000)) + ((wrap64 ((Go.bits .and .i64 a0 1073741823) * 1000000000)) / 1073741824))) / 1073741824) + 2)))) = some (r1, r2) := by first | (rw [hji2] at H; exact H) | (simp only [hji2] at H ⊢; exact H)
 have hji2_ : (if (-1000000000) < (wrap64 (((wrap64 ((wrap64 ((a0 / 1073741824) * 1000000000)) + ((wrap64 ((Go.bits .and .i64 a0 1073741823) * 1000000000)) / 1073741824))) / 1073741824) - 1)) then (wrap64 (((wrap64 ((wrap64 ((a0 / 1073741824) * 1000000000)) + ((wrap64 ((Go.bits .and .i64 a0 1073741823) * 1000000000)) / 1073741824))) / 1073741824) - 1)) else (-1000000000)) = ji2 := hji2
 obtain ⟨ji3, hji3⟩ : ∃ j_ : Int, (mn 1000000000 (wrap64 (((wrap64 ((wrap64 ((a0 / 1073741824) * 1000000000)) + ((wrap64 ((Go.bits .and .i64 a0 1073741823) * 1000000000)) / 1073741824))) / 1073741824) + 2))) = j_ := ⟨_, rfl⟩
 replace H : (some (ji2, ji3)) = some (r1, r2) := by first | (rw [hji3] at H; exact H) | (simp only [hji3] at H ⊢; exact H)
 (try (have hji3h : ji3 ≤ 1000000000 := by (rw [← hji3]; unfold mn; (repeat' split) <;> omega)))
 (try (have hji3g : ji3 ≤ 64 := by omega))
 have hji3_ : (if (wrap64 (((wrap64 ((wrap64 ((a0 / 1073741824) * 1000000000)) + ((wrap64 ((Go.bits .and .i64 a0 1073741823) * 1000000000)) / 1073741824))) / 1073741824) + 2)) < 1000000000 then (wrap64 (((wrap64 ((wrap64 ((a0 / 1073741824) * 1000000000)) + ((wrap64 ((Go.bits .and .i64 a0 1073741823) * 1000000000)) / 1073741824))) / 1073741824) + 2)) else 1000000000) = ji3 := hji3
 simp only [Option.some.injEq, Prod.mk.injEq] at H
 obtain ⟨rfl, rfl⟩ := H
 go_enter Try.func103, Try.ntmps103
 go_wp2_with (first | ((with_reducible refine gate_dst (N := 2) rfl ?_); refine box_event ?hg (N := 2) ?hd (cs := #[.int .i64 0, .int .i64 0]) (t := 23) ?hr ?_; (case hd => rfl); (case hg => rfl); (case hr => first | (go_simp; done) | (go_simp; rfl)); intro gb161 hg w4 hbox hb; have n0_ := Aside0.mk (below_step (by repeat (first | (with_reducible first | exact HB.out | apply below_alloc | apply pw_below_drewN | apply below_drew1) | exact HB.out)) hb); have n1_ := Aside0.mk (hbox); have n2_ := Aside0.mk ((by rw [hg]; exact (below_size (by repeat (first | (with_reducible first | exact HB.out | apply below_alloc | apply pw_below_drewN | apply below_drew1) | exact HB.out))) : w.heap.size ≤ gb161)); have n3_ := Aside0.mk ((by rw [hg]; exact (below_size (by repeat (first | (with_reducible first | exact HB.out | apply below_alloc | apply pw_below_drewN | apply below_drew1) | exact HB.out))) : w.heap.size ≤ gb161)); clear HB; have HB := n0_; have BK161 := n1_; have GW161 := n2_; have GE161 := n3_; clear n0_ n1_ n2_ n3_; clear hb hbox hg; have hcz5_0 : w4.cell? ⟨gb161, 0, none⟩ = some (.int .i64 0) := (blk_cell BK161.out 0).trans rfl; have hcz5_1 : w4.cell? ⟨gb161, 1, none⟩ = some (.int .i64 0) := (blk_cell BK161.out 1).trans rfl; have hfz5_0 := blk_frozen BK161.out 0; have hfz5_1 := blk_frozen BK161.out 1))
 refine bodyPost_ret (results_cell_row rfl _ _ gb161 23 #[.int .i64 ji2, .int .i64 ji3] (0, 0) _ rfl (by (with_reducible repeat (first | refine blk_drewN ?_ _ | refine blk_drew ?_ | refine blk_alloc ?_ _)); refine blk_put (cs := #[.int .i64 ji2, .int .i64 0]) ?_ 1 _ rfl; (with_reducible repeat (first | refine blk_drewN ?_ _ | refine blk_drew ?_ | refine blk_alloc ?_ _)); refine blk_put (cs := #[.int .i64 0, .int .i64 0]) ?_ 0 _ rfl; (with_reducible repeat (first | refine blk_drewN ?_ _ | refine blk_drew ?_ | refine blk_alloc ?_ _)); exact BK161.out) Try.underlying23 rfl (by kernel_rfl)) rfl ?_
 exact ⟨by first | rfl | (simp [errW_none, errW_some] <;> rfl) | (simp only [← hji2, ← hji3]; first | rfl | (simp [errW_none, errW_some] <;> rfl)) | (simp [*, errW_none, errW_some] <;> rfl), by repeat (first | (with_reducible first | exact HB.out | apply below_alloc | apply pw_below_drewN | apply below_drew1 | refine below_set ?_ GE161.out) | exact HB.out)⟩
end Go.Proofs.Ytedakilpogagiaa.PAll
end
section
namespace Go.Proofs.Ytedakilpogagiaa.PAll
open Go.RowKit YtedakilpogagiaaW.PrintWords YtedakilpogagiaaW.PrintLast YtedakilpogagiaaW.PrintMore More2
attribute [local go_sem] max2_int min2_int max_two min_two max_three min_three max_four min_four tdiv2e18_ tdiv1e18_ cellSS_  -- for this text's walks alone
def trig_minus.f (a0_0 : Int) (a0_1 : Int) : Option (Int × Int) := some (wrap64 (-a0_1), wrap64 (-a0_0))
theorem trig_minus.calls (a0_0 : Int) (a0_1 : Int) (r1 : Int) (r2 : Int) (w : World) (h : trig_minus.f a0_0 a0_1 = some (r1, r2)) :
  Calls Try.prog 104 #[.agg #[.int .i64 a0_0, .int .i64 a0_1]] w fun e w' => e = .returned (.agg #[.int .i64 r1, .int .i64 r2]) ∧ Below w.heap.size w w' := by
 have hu23 := Try.underlying23
 have HB := Aside0.mk (Below.refl w.heap.size w)
 have H : (some (wrap64 (-a0_1), wrap64 (-a0_0))) = some (r1, r2) := h
 clear h
 simp only [Option.some.injEq, Prod.mk.injEq] at H
 obtain ⟨rfl, rfl⟩ := H
 go_enter Try.func104, Try.ntmps104
 go_wp2_with (first | ((with_reducible refine gate_dst (N := 1) rfl ?_); refine box_event ?hg (N := 1) ?hd (cs := #[.int .i64 a0_0, .int .i64 a0_1]) (t := 23) ?hr ?_; (case hd => rfl); (case hg => rfl); (case hr => first | (go_simp; done) | (go_simp; rfl)); intro gb162 hg w2 hbox hb; have n0_ := Aside0.mk (below_step (by repeat (first | (with_reducible first | exact HB.out | apply below_alloc | apply pw_below_drewN | apply below_drew1) | exact HB.out)) hb); have n1_ := Aside0.mk (hbox); have n2_ := Aside0.mk ((by rw [hg]; exact (below_size (by repeat (first | (with_reducible first | exact HB.out | apply below_alloc | apply pw_below_drewN | apply below_drew1) | exact HB.out))) : w.heap.size ≤ gb162)); have n3_ := Aside0.mk ((by rw [hg]; exact (below_size (by repeat (first | (with_reducible first | exact HB.out | apply below_alloc | apply pw_below_drewN | apply below_drew1) | exact HB.out))) : w.heap.size ≤ gb162)); clear HB; have HB := n0_; have BK162 := n1_; have GW162 := n2_; have GE162 := n3_; clear n0_ n1_ n2_ n3_; clear hb hbox hg) | ((with_reducible refine gate_dst (N := 2) rfl ?_); refine box_event ?hg (N := 2) ?hd (cs := #[.int .i64 0, .int .i64 0]) (t := 23) ?hr ?_; (case hd => rfl); (case hg => rfl); (case hr => first | (go_simp; done) | (go_simp; rfl)); intro gb163 hg w3 hbox hb; have n0_ := Aside0.mk (blk_below (g := gb162) (o := .cells #[.int .i64 a0_0, .int .i64 a0_1] 23 (0, 0)) (by (with_reducible repeat (first | refine blk_drewN ?_ _ | refine blk_drew ?_ | refine blk_alloc ?_ _)); exact BK162.out) hb); have n1_ := Aside0.mk (below_step (by repeat (first | (with_reducible first | exact HB.out | apply below_alloc | apply pw_below_drewN | apply below_drew1 | refine below_set ?_ GE162.out) | exact HB.out)) hb); have n2_ := Aside0.mk (hbox); have n3_ := Aside0.mk ((by rw [hg]; exact (below_size (by repeat (first | (with_reducible first | exact HB.out | apply below_alloc | apply pw_below_drewN | apply below_drew1 | refine below_set ?_ GE162.out) | exact HB.out))) : w.heap.size ≤ gb163)); have n4_ := Aside0.mk ((by rw [hg]; exact (below_size (by repeat (first | (with_reducible first | exact HB.out | apply below_alloc | apply pw_below_drewN | apply below_drew1 | refine below_set ?_ GE162.out) | exact HB.out))) : w.heap.size ≤ gb163)); have n5_ := Aside0.mk ((by rw [hg]; exact Nat.ne_of_lt (blk_lt (g := gb162) (o := .cells #[.int .i64 a0_0, .int .i64 a0_1] 23 (0, 0)) (by (with_reducible repeat (first | refine blk_drewN ?_ _ | refine blk_drew ?_ | refine blk_alloc ?_ _)); exact BK162.out)) : gb162 ≠ gb163)); have n6_ := Aside0.mk ((by rw [hg]; exact Nat.ne_of_gt (blk_lt (g := gb162) (o := .cells #[.int .i64 a0_0, .int .i64 a0_1] 23 (0, 0)) (by (with_reducible repeat (first | refine blk_drewN ?_ _ | refine blk_drew ?_ | refine blk_alloc ?_ _)); exact BK162.out)) : gb163 ≠ gb162)); clear BK162; clear HB; have BK162 := n0_; have HB := n1_; have BK163 := n2_; have GW163 := n3_; have GE163 := n4_; have NB162_163 := n5_; have NB163_162 := n6_; clear n0_ n1_ n2_ n3_ n4_ n5_ n6_; clear hb hbox hg; have hnb4 := NB162_163.out; have hnc4 := NB163_162.out; have hcz5_0 : w3.cell? ⟨gb162, 0, none⟩ = some (.int .i64 a0_0) := (blk_cell BK162.out 0).trans rfl; have hcz5_1 : w3.cell? ⟨gb162, 1, none⟩ = some (.int .i64 a0_1) := (blk_cell BK162.out 1).trans rfl; have hfz5_0 := blk_frozen BK162.out 0; have hfz5_1 := blk_frozen BK162.out 1; have hcz6_0 : w3.cell? ⟨gb163, 0, none⟩ = some (.int .i64 0) := (blk_cell BK163.out 0).trans rfl; have hcz6_1 : w3.cell? ⟨gb163, 1, none⟩ = some (.int .i64 0) := (blk_cell BK163.out 1).trans rfl; have hfz6_0 := blk_frozen BK163.out 0; have hfz6_1 := blk_frozen BK163.out 1))
 refine bodyPost_ret (results_cell_row rfl _ _ gb163 23 #[.int .i64 (wrap64 (-a0_1)), .int .i64 (wrap64 (-a0_0))] (0, 0) _ rfl (by (with_reducible repeat (first | refine blk_drewN ?_ _ | refine blk_drew ?_ | refine blk_alloc ?_ _)); refine blk_put (cs := #[.int .i64 (wrap64 (-a0_1)), .int .i64 0]) ?_ 1 _ rfl; (with_reducible repeat (first | refine blk_drewN ?_ _ | refine blk_drew ?_ | refine blk_alloc ?_ _)); refine blk_put (cs := #[.int .i64 0, .int .i64 0]) ?_ 0 _ rfl; (with_reducible repeat (first | refine blk_drewN ?_ _ | refine blk_drew ?_ | refine blk_alloc ?_ _)); exact BK163.out) Try.underlying23 rfl (by kernel_rfl)) rfl ?_
 exact ⟨by first | rfl | (simp [errW_none, errW_some] <;> rfl) | (simp [*, errW_none, errW_some] <;> rfl), by repeat (first | (with_reducible first | exact HB.out | apply below_alloc | apply pw_below_drewN | apply below_drew1 | refine below_set ?_ GE162.out | refine below_set ?_ GE163.out) | exact HB.out)⟩
end Go.Proofs.Ytedakilpogagiaa.PAll
end
