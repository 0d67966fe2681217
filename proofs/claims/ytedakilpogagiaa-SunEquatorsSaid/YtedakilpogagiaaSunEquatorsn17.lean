/- Written by a program of this session: what one law needs. -/
import Derived.Test.YtedakilpogagiaaSunEquatorsn16
set_option linter.unusedSimpArgs false
set_option linter.unusedVariables false
section
namespace Go.Proofs.Ytedakilpogagiaa.PAll
open Go.RowKit Go.Proofs.YtedakilpogagiaaW.PrintWords Go.Proofs.YtedakilpogagiaaW.PrintLast Go.Proofs.YtedakilpogagiaaW.PrintMore Go.Proofs.Ytedakilpogagiaa.More2 Go.Proofs.Ytedakilpogagiaa.Sq
attribute [local go_sem] max2_int min2_int max_two min_two max_three min_three max_four min_four tdiv2e18_ tdiv1e18_ cellSS_  -- for this text's walks alone
def ephemerisref2_InArc.j0 : Nat → Int → Int → Bool → Int → Int → Option (Bool)
 | 0, _, _, _, _, _ => none
 | k + 1, x1, x2, x26, x321000, x321001 => if x26 = true then (some false) else ((ephemerisref2_SinCos.f k (wrap64 ((Int.tmod x321000 1000000000) * 1000000))).bind fun bt321 => ((ephemerisref2_SinCos.f k (wrap64 ((Int.tmod x321001 1000000000) * 1000000))).bind fun bt323 => ((ephemerisref2_Mul.f bt321.2 x1).bind fun t325 => ((ephemerisref2_Mul.f bt321.1 x2).bind fun t326 => (if (wrap64 (t325 - t326)) ≥ (-2147483648) then ((ephemerisref2_Mul.f bt323.1 x2).bind fun t327 => ((ephemerisref2_Mul.f bt323.2 x1).bind fun t328 => (if (wrap64 (t327 - t328)) ≥ (-2147483648) then ((ephemerisref2_Mul.f bt321.2 x2).bind fun t329 => ((ephemerisref2_Mul.f bt321.1 x1).bind fun t330 => ((ephemerisref2_Mul.f bt323.2 x2).bind fun t331 => ((ephemerisref2_Mul.f bt323.1 x1).bind fun t332 => (some (decide ((wrap64 ((wrap64 ((wrap64 (t329 + t330)) + t331)) + t332)) > (-2147483648)))))))) else (some false)))) else (some false))))))
def ephemerisref2_InArc.f (k : Nat) (a0_0 : Int) (a0_1 : Int) (a1 : Int) (a2 : Int) : Option (Bool) := if a0_0 < 0 then (ephemerisref2_InArc.j0 k a1 a2 true a0_0 a0_1) else (if a0_0 ≥ 1000000000 then (ephemerisref2_InArc.j0 k a1 a2 true a0_0 a0_1) else (ephemerisref2_InArc.j0 k a1 a2 (decide ((wrap64 (a0_1 - a0_0)) > 400000000)) a0_0 a0_1))
set_option maxHeartbeats 8000000 in
set_option maxRecDepth 100000 in
theorem ephemerisref2_InArc.calls (k : Nat) (a0_0 : Int) (a0_1 : Int) (a1 : Int) (a2 : Int) (r : Bool) (w : World) (h : ephemerisref2_InArc.f k a0_0 a0_1 a1 a2 = some r) :
  Calls Try.prog 21 #[.agg #[.int .i64 a0_0, .int .i64 a0_1], .int .i64 a1, .int .i64 a2] w fun e w' => e = .returned (.bool r) ∧ Below w.heap.size w w' := by
 have hu23 := Try.underlying23
 have HB := Aside0.mk (Below.refl w.heap.size w)
 have H : (if a0_0 < 0 then (ephemerisref2_InArc.j0 k a1 a2 true a0_0 a0_1) else (if a0_0 ≥ 1000000000 then (ephemerisref2_InArc.j0 k a1 a2 true a0_0 a0_1) else (ephemerisref2_InArc.j0 k a1 a2 (decide ((wrap64 (a0_1 - a0_0)) > 400000000)) a0_0 a0_1))) = some r := h
 clear h
 have HC4 := Aside0.mk H
 clear H
 go_enter Try.func21, Try.ntmps21
 go_upto_region 1 with (first | ((with_reducible refine gate_dst (N := 3) rfl ?_); refine box_event ?hg (N := 3) ?hd (cs := #[.int .i64 a0_0, .int .i64 a0_1]) (t := 23) ?hr ?_; (case hd => rfl); (case hg => rfl); (case hr => first | (go_simp; done) | (go_simp; rfl)); intro gb320 hg w5 hbox hb; have BK320 := Aside0.mk (hbox); have GW320 := ge_ hg HB; have GE320 := ge_ hg HB; replace HB := bs_ HB hb; clear hb hbox hg))
 (try simp only [Act.put, List.setIfInBounds_toArray, List.set_cons_zero, List.set_cons_succ])
 go_cut [26] (fun v26 wc => ∃ (kq : Nat) (x26_3 : Bool), v26 = .bool x26_3 ∧ Aside0 (ephemerisref2_InArc.j0 kq a1 a2 x26_3 a0_0 a0_1 = some r) ∧ Aside0 (kq ≤ k) ∧ Aside0 (wc.heap[gb320]? = some (.cells #[.int .i64 a0_0, .int .i64 a0_1] 23 (0, 0))) ∧ Aside0 (Below w.heap.size w wc))
 case first =>
  have H := HC4.out
  clear HC4
  by_cases c6 : a0_0 < 0
  ·rw [if_pos c6] at H
   have c6b0 : decide (a0_0 < 0) = true := decide_eq_true c6
   clear c6
   (first | rw [c6b0] | (simp only [i64_w, i32_w]; rw [c6b0]) | skip)
   have H' := Aside0.mk H
   clear H
   have hcz7_0 : w5.cell? ⟨gb320, 0, none⟩ = some (.int .i64 a0_0) := (blk_cell BK320.out 0).trans rfl
   have hcz7_1 : w5.cell? ⟨gb320, 1, none⟩ = some (.int .i64 a0_1) := (blk_cell BK320.out 1).trans rfl
   have hfz7_0 := blk_frozen BK320.out 0
   have hfz7_1 := blk_frozen BK320.out 1
   go_wp2
   go_meet
   case rel => exact ⟨_, (true), (by first | rfl | (simp; done) | (simp [*]; done)), H', ⟨by first | omega | exact Nat.le_refl _⟩, ⟨kk_ BK320⟩, (be_ HB)⟩
  ·rw [if_neg c6] at H
   have c6b0 : decide (a0_0 < 0) = false := decide_eq_false c6
   clear c6
   (first | rw [c6b0] | (simp only [i64_w, i32_w]; rw [c6b0]) | skip)
   by_cases c8 : a0_0 ≥ 1000000000
   ·rw [if_pos c8] at H
    have c8b0 : decide (1000000000 ≤ a0_0) = true := decide_eq_true c8
    clear c8
    have H' := Aside0.mk H
    clear H
    have hcz9_0 : w5.cell? ⟨gb320, 0, none⟩ = some (.int .i64 a0_0) := (blk_cell BK320.out 0).trans rfl
    have hcz9_1 : w5.cell? ⟨gb320, 1, none⟩ = some (.int .i64 a0_1) := (blk_cell BK320.out 1).trans rfl
    have hfz9_0 := blk_frozen BK320.out 0
    have hfz9_1 := blk_frozen BK320.out 1
    go_wp2
    go_meet
    case rel => exact ⟨_, (true), (by first | rfl | (simp; done) | (simp [*]; done)), H', ⟨by first | omega | exact Nat.le_refl _⟩, ⟨kk_ BK320⟩, (be_ HB)⟩
   ·rw [if_neg c8] at H
    have c8b0 : decide (1000000000 ≤ a0_0) = false := decide_eq_false c8
    clear c8
    have H' := Aside0.mk H
    clear H
    have hcz10_0 : w5.cell? ⟨gb320, 0, none⟩ = some (.int .i64 a0_0) := (blk_cell BK320.out 0).trans rfl
    have hcz10_1 : w5.cell? ⟨gb320, 1, none⟩ = some (.int .i64 a0_1) := (blk_cell BK320.out 1).trans rfl
    have hfz10_0 := blk_frozen BK320.out 0
    have hfz10_1 := blk_frozen BK320.out 1
    go_wp2
    go_meet
    case rel => exact ⟨_, (decide ((wrap64 (a0_1 - a0_0)) > 400000000)), (by first | rfl | (simp; done) | (simp [*]; done)), H', ⟨by first | omega | exact Nat.le_refl _⟩, ⟨kk_ BK320⟩, (be_ HB)⟩
 case rest =>
  clear HC4
  try clear c2
  try clear p2
  try clear c6
  try clear c6b0
  try clear p6
  try clear c8
  try clear c8b0
  try clear hcz10_0
  try clear hcz10_1
  try clear hcz7_0
  try clear hcz7_1
  try clear hcz9_0
  try clear hcz9_1
  try clear hfz10_0
  try clear hfz10_1
  try clear hfz7_0
  try clear hfz7_1
  try clear hfz9_0
  try clear hfz9_1
  obtain ⟨kq, x26_3, rfl, HA, HJ3, BK320, HB⟩ := hcut
  cases kq with
  | zero => exact absurd HA.out (by simp [ephemerisref2_InArc.j0])
  | succ kj3 =>
   have H := HA.out
   clear HA
   simp only [ephemerisref2_InArc.j0] at H
   by_cases c11 : x26_3 = true
   ·subst c11
    have H1 : (some false) = some r := by rw [if_pos rfl] at H; exact H
    clear H
    have H := H1
    clear H1
    obtain rfl := Option.some.inj H
    simp only [Option.some.injEq, Prod.mk.injEq] at H
    obtain ⟨rfl⟩ := H
    go_wp2
    go_ret
    exact ⟨by first | rfl | (simp [errW_none, errW_some] <;> rfl) | (simp [*, errW_none, errW_some] <;> rfl), (be_ HB).out⟩
   ·replace c11 := Bool.eq_false_iff.mpr c11
    subst c11
    have H1 : ((ephemerisref2_SinCos.f kj3 (wrap64 ((Int.tmod a0_0 1000000000) * 1000000))).bind fun bt321 => ((ephemerisref2_SinCos.f kj3 (wrap64 ((Int.tmod a0_1 1000000000) * 1000000))).bind fun bt323 => ((ephemerisref2_Mul.f bt321.2 a1).bind fun t325 => ((ephemerisref2_Mul.f bt321.1 a2).bind fun t326 => (if (wrap64 (t325 - t326)) ≥ (-2147483648) then ((ephemerisref2_Mul.f bt323.1 a2).bind fun t327 => ((ephemerisref2_Mul.f bt323.2 a1).bind fun t328 => (if (wrap64 (t327 - t328)) ≥ (-2147483648) then ((ephemerisref2_Mul.f bt321.2 a2).bind fun t329 => ((ephemerisref2_Mul.f bt321.1 a1).bind fun t330 => ((ephemerisref2_Mul.f bt323.2 a2).bind fun t331 => ((ephemerisref2_Mul.f bt323.1 a1).bind fun t332 => (some (decide ((wrap64 ((wrap64 ((wrap64 (t329 + t330)) + t331)) + t332)) > (-2147483648)))))))) else (some false)))) else (some false)))))) = some r := by rw [if_neg (show ¬ (false = true) by decide)] at H; exact H
    clear H
    have H := H1
    clear H1
    replace H := Option.bind_eq_some_iff.mp H
    obtain ⟨⟨t321, t322⟩, A120, H⟩ := H
    replace H : ((ephemerisref2_SinCos.f kj3 (wrap64 ((Int.tmod a0_1 1000000000) * 1000000))).bind fun bt323 => ((ephemerisref2_Mul.f t322 a1).bind fun t325 => ((ephemerisref2_Mul.f t321 a2).bind fun t326 => (if (wrap64 (t325 - t326)) ≥ (-2147483648) then ((ephemerisref2_Mul.f bt323.1 a2).bind fun t327 => ((ephemerisref2_Mul.f bt323.2 a1).bind fun t328 => (if (wrap64 (t327 - t328)) ≥ (-2147483648) then ((ephemerisref2_Mul.f t322 a2).bind fun t329 => ((ephemerisref2_Mul.f t321 a1).bind fun t330 => ((ephemerisref2_Mul.f bt323.2 a2).bind fun t331 => ((ephemerisref2_Mul.f bt323.1 a1).bind fun t332 => (some (decide ((wrap64 ((wrap64 ((wrap64 (t329 + t330)) + t331)) + t332)) > (-2147483648)))))))) else (some false)))) else (some false))))) = some r := H
    have A12 := Aside0.mk A120
    clear A120
    replace H := Option.bind_eq_some_iff.mp H
    obtain ⟨⟨t323, t324⟩, A130, H⟩ := H
    replace H : ((ephemerisref2_Mul.f t322 a1).bind fun t325 => ((ephemerisref2_Mul.f t321 a2).bind fun t326 => (if (wrap64 (t325 - t326)) ≥ (-2147483648) then ((ephemerisref2_Mul.f t323 a2).bind fun t327 => ((ephemerisref2_Mul.f t324 a1).bind fun t328 => (if (wrap64 (t327 - t328)) ≥ (-2147483648) then ((ephemerisref2_Mul.f t322 a2).bind fun t329 => ((ephemerisref2_Mul.f t321 a1).bind fun t330 => ((ephemerisref2_Mul.f t324 a2).bind fun t331 => ((ephemerisref2_Mul.f t323 a1).bind fun t332 => (some (decide ((wrap64 ((wrap64 ((wrap64 (t329 + t330)) + t331)) + t332)) > (-2147483648)))))))) else (some false)))) else (some false)))) = some r := H
    have A13 := Aside0.mk A130
    clear A130
    replace H := Option.bind_eq_some_iff.mp H
    obtain ⟨t325, A140, H⟩ := H
    replace H : ((ephemerisref2_Mul.f t321 a2).bind fun t326 => (if (wrap64 (t325 - t326)) ≥ (-2147483648) then ((ephemerisref2_Mul.f t323 a2).bind fun t327 => ((ephemerisref2_Mul.f t324 a1).bind fun t328 => (if (wrap64 (t327 - t328)) ≥ (-2147483648) then ((ephemerisref2_Mul.f t322 a2).bind fun t329 => ((ephemerisref2_Mul.f t321 a1).bind fun t330 => ((ephemerisref2_Mul.f t324 a2).bind fun t331 => ((ephemerisref2_Mul.f t323 a1).bind fun t332 => (some (decide ((wrap64 ((wrap64 ((wrap64 (t329 + t330)) + t331)) + t332)) > (-2147483648)))))))) else (some false)))) else (some false))) = some r := H
    have A14 := Aside0.mk A140
    clear A140
    replace H := Option.bind_eq_some_iff.mp H
    obtain ⟨t326, A150, H⟩ := H
    replace H : (if (wrap64 (t325 - t326)) ≥ (-2147483648) then ((ephemerisref2_Mul.f t323 a2).bind fun t327 => ((ephemerisref2_Mul.f t324 a1).bind fun t328 => (if (wrap64 (t327 - t328)) ≥ (-2147483648) then ((ephemerisref2_Mul.f t322 a2).bind fun t329 => ((ephemerisref2_Mul.f t321 a1).bind fun t330 => ((ephemerisref2_Mul.f t324 a2).bind fun t331 => ((ephemerisref2_Mul.f t323 a1).bind fun t332 => (some (decide ((wrap64 ((wrap64 ((wrap64 (t329 + t330)) + t331)) + t332)) > (-2147483648)))))))) else (some false)))) else (some false)) = some r := H
    have A15 := Aside0.mk A150
    clear A150
    by_cases c16 : (wrap64 (t325 - t326)) ≥ (-2147483648)
    ·rw [if_pos c16] at H
     have c16b0 : decide ((-2147483648) ≤ (wrap64 (t325 - t326))) = true := decide_eq_true c16
     clear c16
     replace H := Option.bind_eq_some_iff.mp H
     obtain ⟨t327, A170, H⟩ := H
     replace H : ((ephemerisref2_Mul.f t324 a1).bind fun t328 => (if (wrap64 (t327 - t328)) ≥ (-2147483648) then ((ephemerisref2_Mul.f t322 a2).bind fun t329 => ((ephemerisref2_Mul.f t321 a1).bind fun t330 => ((ephemerisref2_Mul.f t324 a2).bind fun t331 => ((ephemerisref2_Mul.f t323 a1).bind fun t332 => (some (decide ((wrap64 ((wrap64 ((wrap64 (t329 + t330)) + t331)) + t332)) > (-2147483648)))))))) else (some false))) = some r := H
     have A17 := Aside0.mk A170
     clear A170
     replace H := Option.bind_eq_some_iff.mp H
     obtain ⟨t328, A180, H⟩ := H
     replace H : (if (wrap64 (t327 - t328)) ≥ (-2147483648) then ((ephemerisref2_Mul.f t322 a2).bind fun t329 => ((ephemerisref2_Mul.f t321 a1).bind fun t330 => ((ephemerisref2_Mul.f t324 a2).bind fun t331 => ((ephemerisref2_Mul.f t323 a1).bind fun t332 => (some (decide ((wrap64 ((wrap64 ((wrap64 (t329 + t330)) + t331)) + t332)) > (-2147483648)))))))) else (some false)) = some r := H
     have A18 := Aside0.mk A180
     clear A180
     by_cases c19 : (wrap64 (t327 - t328)) ≥ (-2147483648)
     ·rw [if_pos c19] at H
      have c19b0 : decide ((-2147483648) ≤ (wrap64 (t327 - t328))) = true := decide_eq_true c19
      clear c19
      replace H := Option.bind_eq_some_iff.mp H
      obtain ⟨t329, A200, H⟩ := H
      replace H : ((ephemerisref2_Mul.f t321 a1).bind fun t330 => ((ephemerisref2_Mul.f t324 a2).bind fun t331 => ((ephemerisref2_Mul.f t323 a1).bind fun t332 => (some (decide ((wrap64 ((wrap64 ((wrap64 (t329 + t330)) + t331)) + t332)) > (-2147483648))))))) = some r := H
      have A20 := Aside0.mk A200
      clear A200
      replace H := Option.bind_eq_some_iff.mp H
      obtain ⟨t330, A210, H⟩ := H
      replace H : ((ephemerisref2_Mul.f t324 a2).bind fun t331 => ((ephemerisref2_Mul.f t323 a1).bind fun t332 => (some (decide ((wrap64 ((wrap64 ((wrap64 (t329 + t330)) + t331)) + t332)) > (-2147483648)))))) = some r := H
      have A21 := Aside0.mk A210
      clear A210
      replace H := Option.bind_eq_some_iff.mp H
      obtain ⟨t331, A220, H⟩ := H
      replace H : ((ephemerisref2_Mul.f t323 a1).bind fun t332 => (some (decide ((wrap64 ((wrap64 ((wrap64 (t329 + t330)) + t331)) + t332)) > (-2147483648))))) = some r := H
      have A22 := Aside0.mk A220
      clear A220
      replace H := Option.bind_eq_some_iff.mp H
      obtain ⟨t332, A230, H⟩ := H
      replace H : (some (decide ((wrap64 ((wrap64 ((wrap64 (t329 + t330)) + t331)) + t332)) > (-2147483648)))) = some r := H
      have A23 := Aside0.mk A230
      clear A230
      obtain rfl := Option.some.inj H
      simp only [Option.some.injEq, Prod.mk.injEq] at H
      obtain ⟨rfl⟩ := H
      have hcz24_0 : wc.cell? ⟨gb320, 0, none⟩ = some (.int .i64 a0_0) := (blk_cell BK320.out 0).trans rfl
      have hcz24_1 : wc.cell? ⟨gb320, 1, none⟩ = some (.int .i64 a0_1) := (blk_cell BK320.out 1).trans rfl
      have hfz24_0 := blk_frozen BK320.out 0
      have hfz24_1 := blk_frozen BK320.out 1
      go_wp2_with (first | ((with_reducible refine gate_callee (f := 40) rfl ?_); refine goesL_ (some 32) rfl rfl Try.func40 (by kernel_rfl) rfl #[.int .i64 (wrap64 ((Int.tmod a0_0 1000000000) * 1000000))] rfl (by (try simp only [List.map_toArray, List.map_cons, List.map_nil]); first | done | rfl | (simp only [List.length_drop, List.length_take]; rfl)) ?_; (with_reducible refine (ephemerisref2_SinCos.calls kj3 (wrap64 ((Int.tmod a0_0 1000000000) * 1000000)) t321 t322 _ A12.out).mono ?_); rintro e w' ⟨rfl, ⟨nd, rfl⟩⟩; refine ⟨_, rfl, ?_⟩) | ((with_reducible refine gate_callee (f := 40) rfl ?_); refine goesL_ (some 40) rfl rfl Try.func40 (by kernel_rfl) rfl #[.int .i64 (wrap64 ((Int.tmod a0_1 1000000000) * 1000000))] rfl (by (try simp only [List.map_toArray, List.map_cons, List.map_nil]); first | done | rfl | (simp only [List.length_drop, List.length_take]; rfl)) ?_; (with_reducible refine (ephemerisref2_SinCos.calls kj3 (wrap64 ((Int.tmod a0_1 1000000000) * 1000000)) t323 t324 _ A13.out).mono ?_); rintro e w' ⟨rfl, ⟨nd, rfl⟩⟩; refine ⟨_, rfl, ?_⟩) | ((with_reducible refine gate_callee (f := 42) rfl ?_); refine goesL_ (some 45) rfl rfl Try.func42 (by kernel_rfl) rfl #[.int .i64 t322, .int .i64 a1] rfl (by (try simp only [List.map_toArray, List.map_cons, List.map_nil]); first | done | rfl | (simp only [List.length_drop, List.length_take]; rfl)) ?_; (with_reducible refine (ephemerisref2_Mul.calls t322 a1 t325 _ A14.out).mono ?_); rintro e w' ⟨rfl, ⟨nd, rfl⟩⟩; refine ⟨_, rfl, ?_⟩) | ((with_reducible refine gate_callee (f := 42) rfl ?_); refine goesL_ (some 48) rfl rfl Try.func42 (by kernel_rfl) rfl #[.int .i64 t321, .int .i64 a2] rfl (by (try simp only [List.map_toArray, List.map_cons, List.map_nil]); first | done | rfl | (simp only [List.length_drop, List.length_take]; rfl)) ?_; (with_reducible refine (ephemerisref2_Mul.calls t321 a2 t326 _ A15.out).mono ?_); rintro e w' ⟨rfl, ⟨nd, rfl⟩⟩; refine ⟨_, rfl, ?_⟩) | (go_at_call 42; (with_reducible refine (ephemerisref2_Mul.calls t323 a2 t327 _ A17.out).mono ?_); rintro e w' ⟨rfl, ⟨nd, rfl⟩⟩) | (go_at_call 42; (with_reducible refine (ephemerisref2_Mul.calls t324 a1 t328 _ A18.out).mono ?_); rintro e w' ⟨rfl, ⟨nd, rfl⟩⟩) | (go_at_call 42; (with_reducible refine (ephemerisref2_Mul.calls t322 a2 t329 _ A20.out).mono ?_); rintro e w' ⟨rfl, ⟨nd, rfl⟩⟩) | (go_at_call 42; (with_reducible refine (ephemerisref2_Mul.calls t321 a1 t330 _ A21.out).mono ?_); rintro e w' ⟨rfl, ⟨nd, rfl⟩⟩) | (go_at_call 42; (with_reducible refine (ephemerisref2_Mul.calls t324 a2 t331 _ A22.out).mono ?_); rintro e w' ⟨rfl, ⟨nd, rfl⟩⟩) | (go_at_call 42; (with_reducible refine (ephemerisref2_Mul.calls t323 a1 t332 _ A23.out).mono ?_); rintro e w' ⟨rfl, ⟨nd, rfl⟩⟩))
      go_ret
      exact ⟨by first | rfl | (simp [errW_none, errW_some] <;> rfl) | (simp [*, errW_none, errW_some] <;> rfl), (be_ HB).out⟩
     ·rw [if_neg c19] at H
      have c19b0 : decide ((-2147483648) ≤ (wrap64 (t327 - t328))) = false := decide_eq_false c19
      clear c19
      obtain rfl := Option.some.inj H
      simp only [Option.some.injEq, Prod.mk.injEq] at H
      obtain ⟨rfl⟩ := H
      have hcz25_0 : wc.cell? ⟨gb320, 0, none⟩ = some (.int .i64 a0_0) := (blk_cell BK320.out 0).trans rfl
      have hcz25_1 : wc.cell? ⟨gb320, 1, none⟩ = some (.int .i64 a0_1) := (blk_cell BK320.out 1).trans rfl
      have hfz25_0 := blk_frozen BK320.out 0
      have hfz25_1 := blk_frozen BK320.out 1
      go_wp2_with (first | ((with_reducible refine gate_callee (f := 40) rfl ?_); refine goesL_ (some 32) rfl rfl Try.func40 (by kernel_rfl) rfl #[.int .i64 (wrap64 ((Int.tmod a0_0 1000000000) * 1000000))] rfl (by (try simp only [List.map_toArray, List.map_cons, List.map_nil]); first | done | rfl | (simp only [List.length_drop, List.length_take]; rfl)) ?_; (with_reducible refine (ephemerisref2_SinCos.calls kj3 (wrap64 ((Int.tmod a0_0 1000000000) * 1000000)) t321 t322 _ A12.out).mono ?_); rintro e w' ⟨rfl, ⟨nd, rfl⟩⟩; refine ⟨_, rfl, ?_⟩) | ((with_reducible refine gate_callee (f := 40) rfl ?_); refine goesL_ (some 40) rfl rfl Try.func40 (by kernel_rfl) rfl #[.int .i64 (wrap64 ((Int.tmod a0_1 1000000000) * 1000000))] rfl (by (try simp only [List.map_toArray, List.map_cons, List.map_nil]); first | done | rfl | (simp only [List.length_drop, List.length_take]; rfl)) ?_; (with_reducible refine (ephemerisref2_SinCos.calls kj3 (wrap64 ((Int.tmod a0_1 1000000000) * 1000000)) t323 t324 _ A13.out).mono ?_); rintro e w' ⟨rfl, ⟨nd, rfl⟩⟩; refine ⟨_, rfl, ?_⟩) | ((with_reducible refine gate_callee (f := 42) rfl ?_); refine goesL_ (some 45) rfl rfl Try.func42 (by kernel_rfl) rfl #[.int .i64 t322, .int .i64 a1] rfl (by (try simp only [List.map_toArray, List.map_cons, List.map_nil]); first | done | rfl | (simp only [List.length_drop, List.length_take]; rfl)) ?_; (with_reducible refine (ephemerisref2_Mul.calls t322 a1 t325 _ A14.out).mono ?_); rintro e w' ⟨rfl, ⟨nd, rfl⟩⟩; refine ⟨_, rfl, ?_⟩) | ((with_reducible refine gate_callee (f := 42) rfl ?_); refine goesL_ (some 48) rfl rfl Try.func42 (by kernel_rfl) rfl #[.int .i64 t321, .int .i64 a2] rfl (by (try simp only [List.map_toArray, List.map_cons, List.map_nil]); first | done | rfl | (simp only [List.length_drop, List.length_take]; rfl)) ?_; (with_reducible refine (ephemerisref2_Mul.calls t321 a2 t326 _ A15.out).mono ?_); rintro e w' ⟨rfl, ⟨nd, rfl⟩⟩; refine ⟨_, rfl, ?_⟩) | (go_at_call 42; (with_reducible refine (ephemerisref2_Mul.calls t323 a2 t327 _ A17.out).mono ?_); rintro e w' ⟨rfl, ⟨nd, rfl⟩⟩) | (go_at_call 42; (with_reducible refine (ephemerisref2_Mul.calls t324 a1 t328 _ A18.out).mono ?_); rintro e w' ⟨rfl, ⟨nd, rfl⟩⟩))
      go_ret
      exact ⟨by first | rfl | (simp [errW_none, errW_some] <;> rfl) | (simp [*, errW_none, errW_some] <;> rfl), (be_ HB).out⟩
    ·rw [if_neg c16] at H
     have c16b0 : decide ((-2147483648) ≤ (wrap64 (t325 - t326))) = false := decide_eq_false c16
     clear c16
     obtain rfl := Option.some.inj H
     simp only [Option.some.injEq, Prod.mk.injEq] at H
     obtain ⟨rfl⟩ := H
     have hcz26_0 : wc.cell? ⟨gb320, 0, none⟩ = some (.int .i64 a0_0) := (blk_cell BK320.out 0).trans rfl
     have hcz26_1 : wc.cell? ⟨gb320, 1, none⟩ = some (.int .i64 a0_1) := (blk_cell BK320.out 1).trans rfl
     have hfz26_0 := blk_frozen BK320.out 0
     have hfz26_1 := blk_frozen BK320.out 1
     go_wp2_with (first | ((with_reducible refine gate_callee (f := 40) rfl ?_); refine goesL_ (some 32) rfl rfl Try.func40 (by kernel_rfl) rfl #[.int .i64 (wrap64 ((Int.tmod a0_0 1000000000) * 1000000))] rfl (by (try simp only [List.map_toArray, List.map_cons, List.map_nil]); first | done | rfl | (simp only [List.length_drop, List.length_take]; rfl)) ?_; (with_reducible refine (ephemerisref2_SinCos.calls kj3 (wrap64 ((Int.tmod a0_0 1000000000) * 1000000)) t321 t322 _ A12.out).mono ?_); rintro e w' ⟨rfl, ⟨nd, rfl⟩⟩; refine ⟨_, rfl, ?_⟩) | ((with_reducible refine gate_callee (f := 40) rfl ?_); refine goesL_ (some 40) rfl rfl Try.func40 (by kernel_rfl) rfl #[.int .i64 (wrap64 ((Int.tmod a0_1 1000000000) * 1000000))] rfl (by (try simp only [List.map_toArray, List.map_cons, List.map_nil]); first | done | rfl | (simp only [List.length_drop, List.length_take]; rfl)) ?_; (with_reducible refine (ephemerisref2_SinCos.calls kj3 (wrap64 ((Int.tmod a0_1 1000000000) * 1000000)) t323 t324 _ A13.out).mono ?_); rintro e w' ⟨rfl, ⟨nd, rfl⟩⟩; refine ⟨_, rfl, ?_⟩) | ((with_reducible refine gate_callee (f := 42) rfl ?_); refine goesL_ (some 45) rfl rfl Try.func42 (by kernel_rfl) rfl #[.int .i64 t322, .int .i64 a1] rfl (by (try simp only [List.map_toArray, List.map_cons, List.map_nil]); first | done | rfl | (simp only [List.length_drop, List.length_take]; rfl)) ?_; (with_reducible refine (ephemerisref2_Mul.calls t322 a1 t325 _ A14.out).mono ?_); rintro e w' ⟨rfl, ⟨nd, rfl⟩⟩; refine ⟨_, rfl, ?_⟩) | ((with_reducible refine gate_callee (f := 42) rfl ?_); refine goesL_ (some 48) rfl rfl Try.func42 (by kernel_rfl) rfl #[.int .i64 t321, .int .i64 a2] rfl (by (try simp only [List.map_toArray, List.map_cons, List.map_nil]); first | done | rfl | (simp only [List.length_drop, List.length_take]; rfl)) ?_; (with_reducible refine (ephemerisref2_Mul.calls t321 a2 t326 _ A15.out).mono ?_); rintro e w' ⟨rfl, ⟨nd, rfl⟩⟩; refine ⟨_, rfl, ?_⟩))
     go_ret
     exact ⟨by first | rfl | (simp [errW_none, errW_some] <;> rfl) | (simp [*, errW_none, errW_some] <;> rfl), (be_ HB).out⟩
end Go.Proofs.Ytedakilpogagiaa.PAll
end
section
namespace Go.Proofs.Ytedakilpogagiaa.PAll
open Go.RowKit Go.Proofs.YtedakilpogagiaaW.PrintWords Go.Proofs.YtedakilpogagiaaW.PrintLast Go.Proofs.YtedakilpogagiaaW.PrintMore Go.Proofs.Ytedakilpogagiaa.More2 Go.Proofs.Ytedakilpogagiaa.Sq
attribute [local go_sem] max2_int min2_int max_two min_two max_three min_three max_four min_four tdiv2e18_ tdiv1e18_ cellSS_  -- for this text's walks alone
def ephemerisref2_InArcSin.j0 : Nat → Int → Bool → Int → Int → Option (Bool)
 | 0, _, _, _, _ => none
 | k + 1, x1, x23, x334000, x334001 => if x23 = true then (some false) else ((ephemerisref2_SinCos.f k (wrap64 (x334000 * 1000000))).bind fun bt334 => ((ephemerisref2_SinCos.f k (wrap64 (x334001 * 1000000))).bind fun bt336 => (if bt334.1 ≤ (wrap64 (x1 + 4294967296)) then (some (decide (x1 ≤ (wrap64 (bt336.1 + 4294967296))))) else (some false))))
def ephemerisref2_InArcSin.f (k : Nat) (a0_0 : Int) (a0_1 : Int) (a1 : Int) : Option (Bool) := if a0_0 < (-250000000) then (ephemerisref2_InArcSin.j0 k a1 true a0_0 a0_1) else (if a0_1 > 250000000 then (ephemerisref2_InArcSin.j0 k a1 true a0_0 a0_1) else (ephemerisref2_InArcSin.j0 k a1 (decide (a0_0 > a0_1)) a0_0 a0_1))
set_option maxHeartbeats 8000000 in
set_option maxRecDepth 100000 in
theorem ephemerisref2_InArcSin.calls (k : Nat) (a0_0 : Int) (a0_1 : Int) (a1 : Int) (r : Bool) (w : World) (h : ephemerisref2_InArcSin.f k a0_0 a0_1 a1 = some r) :
  Calls Try.prog 22 #[.agg #[.int .i64 a0_0, .int .i64 a0_1], .int .i64 a1] w fun e w' => e = .returned (.bool r) ∧ Below w.heap.size w w' := by
 have hu23 := Try.underlying23
 have HB := Aside0.mk (Below.refl w.heap.size w)
 have H : (if a0_0 < (-250000000) then (ephemerisref2_InArcSin.j0 k a1 true a0_0 a0_1) else (if a0_1 > 250000000 then (ephemerisref2_InArcSin.j0 k a1 true a0_0 a0_1) else (ephemerisref2_InArcSin.j0 k a1 (decide (a0_0 > a0_1)) a0_0 a0_1))) = some r := h
 clear h
 have HC3 := Aside0.mk H
 clear H
 go_enter Try.func22, Try.ntmps22
 go_upto_region 1 with (first | ((with_reducible refine gate_dst (N := 2) rfl ?_); refine box_event ?hg (N := 2) ?hd (cs := #[.int .i64 a0_0, .int .i64 a0_1]) (t := 23) ?hr ?_; (case hd => rfl); (case hg => rfl); (case hr => first | (go_simp; done) | (go_simp; rfl)); intro gb333 hg w4 hbox hb; have BK333 := Aside0.mk (hbox); have GW333 := ge_ hg HB; have GE333 := ge_ hg HB; replace HB := bs_ HB hb; clear hb hbox hg))
 (try simp only [Act.put, List.setIfInBounds_toArray, List.set_cons_zero, List.set_cons_succ])
 go_cut [23] (fun v23 wc => ∃ (kq : Nat) (x23_2 : Bool), v23 = .bool x23_2 ∧ Aside0 (ephemerisref2_InArcSin.j0 kq a1 x23_2 a0_0 a0_1 = some r) ∧ Aside0 (kq ≤ k) ∧ Aside0 (wc.heap[gb333]? = some (.cells #[.int .i64 a0_0, .int .i64 a0_1] 23 (0, 0))) ∧ Aside0 (Below w.heap.size w wc))
 case first =>
  have H := HC3.out
  clear HC3
  by_cases c5 : a0_0 < (-250000000)
  ·rw [if_pos c5] at H
   have c5b0 : decide (a0_0 < (-250000000)) = true := decide_eq_true c5
   clear c5
   (first | rw [c5b0] | (simp only [i64_w, i32_w]; rw [c5b0]) | skip)
   have H' := Aside0.mk H
   clear H
   have hcz6_0 : w4.cell? ⟨gb333, 0, none⟩ = some (.int .i64 a0_0) := (blk_cell BK333.out 0).trans rfl
   have hcz6_1 : w4.cell? ⟨gb333, 1, none⟩ = some (.int .i64 a0_1) := (blk_cell BK333.out 1).trans rfl
   have hfz6_0 := blk_frozen BK333.out 0
   have hfz6_1 := blk_frozen BK333.out 1
   go_wp2
   go_meet
   case rel => exact ⟨_, (true), (by first | rfl | (simp; done) | (simp [*]; done)), H', ⟨by first | omega | exact Nat.le_refl _⟩, ⟨kk_ BK333⟩, (be_ HB)⟩
  ·rw [if_neg c5] at H
   have c5b0 : decide (a0_0 < (-250000000)) = false := decide_eq_false c5
   clear c5
   (first | rw [c5b0] | (simp only [i64_w, i32_w]; rw [c5b0]) | skip)
   by_cases c7 : a0_1 > 250000000
   ·rw [if_pos c7] at H
    have c7b0 : decide (250000000 < a0_1) = true := decide_eq_true c7
    clear c7
    have H' := Aside0.mk H
    clear H
    have hcz8_0 : w4.cell? ⟨gb333, 0, none⟩ = some (.int .i64 a0_0) := (blk_cell BK333.out 0).trans rfl
    have hcz8_1 : w4.cell? ⟨gb333, 1, none⟩ = some (.int .i64 a0_1) := (blk_cell BK333.out 1).trans rfl
    have hfz8_0 := blk_frozen BK333.out 0
    have hfz8_1 := blk_frozen BK333.out 1
    go_wp2
    go_meet
    case rel => exact ⟨_, (true), (by first | rfl | (simp; done) | (simp [*]; done)), H', ⟨by first | omega | exact Nat.le_refl _⟩, ⟨kk_ BK333⟩, (be_ HB)⟩
   ·rw [if_neg c7] at H
    have c7b0 : decide (250000000 < a0_1) = false := decide_eq_false c7
    clear c7
    have H' := Aside0.mk H
    clear H
    have hcz9_0 : w4.cell? ⟨gb333, 0, none⟩ = some (.int .i64 a0_0) := (blk_cell BK333.out 0).trans rfl
    have hcz9_1 : w4.cell? ⟨gb333, 1, none⟩ = some (.int .i64 a0_1) := (blk_cell BK333.out 1).trans rfl
    have hfz9_0 := blk_frozen BK333.out 0
    have hfz9_1 := blk_frozen BK333.out 1
    go_wp2
    go_meet
    case rel => exact ⟨_, (decide (a0_0 > a0_1)), (by first | rfl | (simp; done) | (simp [*]; done)), H', ⟨by first | omega | exact Nat.le_refl _⟩, ⟨kk_ BK333⟩, (be_ HB)⟩
 case rest =>
  clear HC3
  try clear c2
  try clear p2
  try clear c5
  try clear c5b0
  try clear c7
  try clear c7b0
  try clear hcz6_0
  try clear hcz6_1
  try clear hcz8_0
  try clear hcz8_1
  try clear hcz9_0
  try clear hcz9_1
  try clear hfz6_0
  try clear hfz6_1
  try clear hfz8_0
  try clear hfz8_1
  try clear hfz9_0
  try clear hfz9_1
  obtain ⟨kq, x23_2, rfl, HA, HJ2, BK333, HB⟩ := hcut
  cases kq with
  | zero => exact absurd HA.out (by simp [ephemerisref2_InArcSin.j0])
  | succ kj2 =>
   have H := HA.out
   clear HA
   simp only [ephemerisref2_InArcSin.j0] at H
   by_cases c10 : x23_2 = true
   ·subst c10
    have H1 : (some false) = some r := by rw [if_pos rfl] at H; exact H
    clear H
    have H := H1
    clear H1
    obtain rfl := Option.some.inj H
    simp only [Option.some.injEq, Prod.mk.injEq] at H
    obtain ⟨rfl⟩ := H
    go_wp2
    go_ret
    exact ⟨by first | rfl | (simp [errW_none, errW_some] <;> rfl) | (simp [*, errW_none, errW_some] <;> rfl), (be_ HB).out⟩
   ·replace c10 := Bool.eq_false_iff.mpr c10
    subst c10
    have H1 : ((ephemerisref2_SinCos.f kj2 (wrap64 (a0_0 * 1000000))).bind fun bt334 => ((ephemerisref2_SinCos.f kj2 (wrap64 (a0_1 * 1000000))).bind fun bt336 => (if bt334.1 ≤ (wrap64 (a1 + 4294967296)) then (some (decide (a1 ≤ (wrap64 (bt336.1 + 4294967296))))) else (some false)))) = some r := by rw [if_neg (show ¬ (false = true) by decide)] at H; exact H
    clear H
    have H := H1
    clear H1
    replace H := Option.bind_eq_some_iff.mp H
    obtain ⟨⟨t334, t335⟩, A110, H⟩ := H
    replace H : ((ephemerisref2_SinCos.f kj2 (wrap64 (a0_1 * 1000000))).bind fun bt336 => (if t334 ≤ (wrap64 (a1 + 4294967296)) then (some (decide (a1 ≤ (wrap64 (bt336.1 + 4294967296))))) else (some false))) = some r := H
    have A11 := Aside0.mk A110
    clear A110
    replace H := Option.bind_eq_some_iff.mp H
    obtain ⟨⟨t336, t337⟩, A120, H⟩ := H
    replace H : (if t334 ≤ (wrap64 (a1 + 4294967296)) then (some (decide (a1 ≤ (wrap64 (t336 + 4294967296))))) else (some false)) = some r := H
    have A12 := Aside0.mk A120
    clear A120
    by_cases c13 : t334 ≤ (wrap64 (a1 + 4294967296))
    ·rw [if_pos c13] at H
     have c13b0 : decide (t334 ≤ (wrap64 (a1 + 4294967296))) = true := decide_eq_true c13
     clear c13
     obtain rfl := Option.some.inj H
     simp only [Option.some.injEq, Prod.mk.injEq] at H
     obtain ⟨rfl⟩ := H
     have hcz14_0 : wc.cell? ⟨gb333, 0, none⟩ = some (.int .i64 a0_0) := (blk_cell BK333.out 0).trans rfl
     have hcz14_1 : wc.cell? ⟨gb333, 1, none⟩ = some (.int .i64 a0_1) := (blk_cell BK333.out 1).trans rfl
     have hfz14_0 := blk_frozen BK333.out 0
     have hfz14_1 := blk_frozen BK333.out 1
     go_wp2_with (first | ((with_reducible refine gate_callee (f := 40) rfl ?_); refine goesL_ (some 28) rfl rfl Try.func40 (by kernel_rfl) rfl #[.int .i64 (wrap64 (a0_0 * 1000000))] rfl (by (try simp only [List.map_toArray, List.map_cons, List.map_nil]); first | done | rfl | (simp only [List.length_drop, List.length_take]; rfl)) ?_; (with_reducible refine (ephemerisref2_SinCos.calls kj2 (wrap64 (a0_0 * 1000000)) t334 t335 _ A11.out).mono ?_); rintro e w' ⟨rfl, ⟨nd, rfl⟩⟩; refine ⟨_, rfl, ?_⟩) | ((with_reducible refine gate_callee (f := 40) rfl ?_); refine goesL_ (some 35) rfl rfl Try.func40 (by kernel_rfl) rfl #[.int .i64 (wrap64 (a0_1 * 1000000))] rfl (by (try simp only [List.map_toArray, List.map_cons, List.map_nil]); first | done | rfl | (simp only [List.length_drop, List.length_take]; rfl)) ?_; (with_reducible refine (ephemerisref2_SinCos.calls kj2 (wrap64 (a0_1 * 1000000)) t336 t337 _ A12.out).mono ?_); rintro e w' ⟨rfl, ⟨nd, rfl⟩⟩; refine ⟨_, rfl, ?_⟩))
     go_ret
     exact ⟨by first | rfl | (simp [errW_none, errW_some] <;> rfl) | (simp [*, errW_none, errW_some] <;> rfl), (be_ HB).out⟩
    ·rw [if_neg c13] at H
     have c13b0 : decide (t334 ≤ (wrap64 (a1 + 4294967296))) = false := decide_eq_false c13
     clear c13
     obtain rfl := Option.some.inj H
     simp only [Option.some.injEq, Prod.mk.injEq] at H
     obtain ⟨rfl⟩ := H
     have hcz15_0 : wc.cell? ⟨gb333, 0, none⟩ = some (.int .i64 a0_0) := (blk_cell BK333.out 0).trans rfl
     have hcz15_1 : wc.cell? ⟨gb333, 1, none⟩ = some (.int .i64 a0_1) := (blk_cell BK333.out 1).trans rfl
     have hfz15_0 := blk_frozen BK333.out 0
     have hfz15_1 := blk_frozen BK333.out 1
     go_wp2_with (first | ((with_reducible refine gate_callee (f := 40) rfl ?_); refine goesL_ (some 28) rfl rfl Try.func40 (by kernel_rfl) rfl #[.int .i64 (wrap64 (a0_0 * 1000000))] rfl (by (try simp only [List.map_toArray, List.map_cons, List.map_nil]); first | done | rfl | (simp only [List.length_drop, List.length_take]; rfl)) ?_; (with_reducible refine (ephemerisref2_SinCos.calls kj2 (wrap64 (a0_0 * 1000000)) t334 t335 _ A11.out).mono ?_); rintro e w' ⟨rfl, ⟨nd, rfl⟩⟩; refine ⟨_, rfl, ?_⟩) | ((with_reducible refine gate_callee (f := 40) rfl ?_); refine goesL_ (some 35) rfl rfl Try.func40 (by kernel_rfl) rfl #[.int .i64 (wrap64 (a0_1 * 1000000))] rfl (by (try simp only [List.map_toArray, List.map_cons, List.map_nil]); first | done | rfl | (simp only [List.length_drop, List.length_take]; rfl)) ?_; (with_reducible refine (ephemerisref2_SinCos.calls kj2 (wrap64 (a0_1 * 1000000)) t336 t337 _ A12.out).mono ?_); rintro e w' ⟨rfl, ⟨nd, rfl⟩⟩; refine ⟨_, rfl, ?_⟩))
     go_ret
     exact ⟨by first | rfl | (simp [errW_none, errW_some] <;> rfl) | (simp [*, errW_none, errW_some] <;> rfl), (be_ HB).out⟩
end Go.Proofs.Ytedakilpogagiaa.PAll
end
