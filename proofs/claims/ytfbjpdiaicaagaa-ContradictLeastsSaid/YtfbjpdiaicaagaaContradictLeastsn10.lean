/- Written by a program of this session out of the translation. -/
import Derived.Test.YtfbjpdiaicaagaaContradictLeastsn3
import Derived.Test.YtfbjpdiaicaagaaContradictLeastsn6
import Derived.Test.YtfbjpdiaicaagaaContradictLeastsn8
import Derived.Test.YtfbjpdiaicaagaaContradictLeastsn9
namespace Go.Proofs.Ytfbjpdiaicaagaa.PAll
open Go.RowKit Go.Proofs.YtfbjpdiaicaagaaW.PrintWords Go.Proofs.YtfbjpdiaicaagaaW.PrintLast Go.Proofs.YtfbjpdiaicaagaaW.PrintMore Go.Proofs.Ytfbjpdiaicaagaa.More2
attribute [local go_sem] max2_int min2_int max_two min_two max_three min_three max_four min_four tdiv2e18_ tdiv1e18_ cellSS_  -- for this text's walks alone
set_option linter.unusedVariables false
set_option linter.unusedSimpArgs false
def contradict_Implied.j0 : Nat → Int → List (S43) → Int → Bool → Option (Bool × Int)
  | 0, _, _, _, _ => none
  | k + 1, x0, x1, x2, x25 => if x25 = true then (some (false, 3)) else ((contradict_without.f k x1 x2).bind fun t305 => ((chron_Tightest.f k x0 t305).bind fun bt308 => (if bt308.2 = 0 then (if 0 ≤ x2 then (if x2 < (x1.length : Int) then (if 0 ≤ ((rd_T43 x1 x2).f0) then (if ((rd_T43 x1 x2).f0) < (bt308.1.length : Int) then (if 0 ≤ ((rd_T43 x1 x2).f1) then (if ((rd_T43 x1 x2).f1) < ((rd_L4 bt308.1 ((rd_T43 x1 x2).f0)).length : Int) then (if ((rd_T35 (rd_L4 bt308.1 ((rd_T43 x1 x2).f0)) ((rd_T43 x1 x2).f1)).f0) ≥ ((rd_T43 x1 x2).f2) then (some (decide (((rd_T35 (rd_L4 bt308.1 ((rd_T43 x1 x2).f0)) ((rd_T43 x1 x2).f1)).f1) ≤ ((rd_T43 x1 x2).f3)), 0)) else (some (false, 0))) else (none)) else (none)) else (none)) else (none)) else (none)) else (none)) else (some (false, bt308.2)))))
def contradict_Implied.f (k : Nat) (a0 : Int) (l1 : List (S43)) (a2 : Int) : Option (Bool × Int) := (chron_Check.f k a0 l1).bind fun t304 => (if t304 = 0 then (if a2 < 0 then (contradict_Implied.j0 k a0 l1 a2 true) else (contradict_Implied.j0 k a0 l1 a2 (decide (a2 ≥ (l1.length : Int))))) else (some (false, t304)))
theorem contradict_Implied.mono_l : ∀ k, (∀ y0 y1 y2 y3, LeO (contradict_Implied.j0 k y0 y1 y2 y3) (contradict_Implied.j0 (k + 1) y0 y1 y2 y3))
  | 0 => fun _ _ _ _ r h => by simp [contradict_Implied.j0] at h
  | k + 1 => by
    have ih0 := contradict_Implied.mono_l k
    · intro y0 y1 y2 y3
      unfold contradict_Implied.j0
      repeat' first
      | (with_reducible exact ih0 _ _ _ _)
      | (with_reducible exact chron_Check.mono _ _ _)
      | (with_reducible exact chron_Tightest.mono _ _ _)
      | (with_reducible exact contradict_without.mono _ _ _)
      | (with_reducible exact LeO.refl _)
      | (with_reducible exact LeO.none _)
      | (with_reducible refine LeO.ite ?_ ?_)
      | (with_reducible refine LeO.bind ?_ (fun _ => ?_))
      | exact ih0 _ _ _ _
      | exact chron_Check.mono _ _ _
      | exact chron_Tightest.mono _ _ _
      | exact contradict_without.mono _ _ _
      | exact LeO.none _
      | refine LeO.ite ?_ ?_
      | refine LeO.bind ?_ (fun _ => ?_)
theorem contradict_Implied.mono : ∀ a0 a1 a2 k, LeO (contradict_Implied.f k a0 a1 a2) (contradict_Implied.f (k + 1) a0 a1 a2) := by
  intro a0 a1 a2 k
  have ih0 := contradict_Implied.mono_l k
  unfold contradict_Implied.f
  repeat' first
      | (with_reducible exact ih0 _ _ _ _)
      | (with_reducible exact chron_Check.mono _ _ _)
      | (with_reducible exact chron_Tightest.mono _ _ _)
      | (with_reducible exact contradict_without.mono _ _ _)
      | (with_reducible exact LeO.refl _)
      | (with_reducible exact LeO.none _)
      | (with_reducible refine LeO.ite ?_ ?_)
      | (with_reducible refine LeO.bind ?_ (fun _ => ?_))
      | exact ih0 _ _ _ _
      | exact chron_Check.mono _ _ _
      | exact chron_Tightest.mono _ _ _
      | exact contradict_without.mono _ _ _
      | exact LeO.none _
      | refine LeO.ite ?_ ?_
      | refine LeO.bind ?_ (fun _ => ?_)
def contradict_Implied.T9 : Bool × List (List Nat × List Nat) := (true, [([], []), ([], []), ([], []), ([1, 2], [1, 2]), ([3], [3]), ([4], [4]), ([0, 5], [0, 5]), ([6], [6]), ([], []), ([], []), ([8, 9], [8, 9]), ([10], [10]), ([11], [11]), ([7, 12], [7, 12]), ([13], [13]), ([], []), ([15, 14, 0, 1, 2, 3, 4, 5, 6, 7, 8, 9, 10, 11, 12, 13, 14, 15], [14, 15])])
def contradict_Implied.B9 : List Nat := [0, 0, 0, 6, 14, 30, 63, 127, 0, 0, 768, 1792, 3840, 8191, 16383, 0, 65535]
theorem contradict_Implied.tab9 : rtab .any (opsOf Try.f21 9) = contradict_Implied.T9 := by kernel_rfl
theorem contradict_Implied.bits9 : waitsOk contradict_Implied.T9.2 contradict_Implied.B9 = true := by kernel_rfl
def contradict_Implied.T10 : Bool × List (List Nat × List Nat) := (true, [([], []), ([0], [0]), ([], []), ([], []), ([2, 3], [2, 3]), ([4], [4]), ([5], [5]), ([1, 6], [1, 6]), ([7], [7]), ([8], [8]), ([9, 8], [8, 9]), ([8], [8]), ([8], [8]), ([11, 12, 8], [8, 11, 12]), ([13, 8], [8, 13]), ([14, 8], [8, 14]), ([10, 15, 8], [8, 10, 15]), ([8, 16], [8, 16]), ([17, 8, 0, 1, 2, 3, 4, 5, 6, 7, 8, 9, 10, 11, 12, 13, 14, 15, 16, 17], [17]), ([18, 0, 1, 2, 3, 4, 5, 6, 7, 8, 9, 10, 11, 12, 13, 14, 15, 16, 17, 18], [])])
def contradict_Implied.B10 : List Nat := [0, 1, 0, 0, 12, 28, 60, 127, 255, 511, 1023, 511, 511, 6655, 14847, 31231, 65535, 131071, 262143, 524287]
theorem contradict_Implied.tab10 : rtab .any (opsOf Try.f21 10) = contradict_Implied.T10 := by kernel_rfl
theorem contradict_Implied.bits10 : waitsOk contradict_Implied.T10.2 contradict_Implied.B10 = true := by kernel_rfl
set_option maxHeartbeats 8000000 in
set_option maxRecDepth 100000 in
theorem contradict_Implied.calls (k : Nat) (a0 : Int) (A1 : Option Addr) (c1 : Nat) (l1 : List (S43)) (a2 : Int) (r1 : Bool) (r2 : Int) (w : World) (hr1 : Kd.C k43 w A1 l1.length l1) (hc1 : l1.length ≤ c1) (h : contradict_Implied.f k a0 l1 a2 = some (r1, r2)) :
    Calls Try.prog 21 #[.int .i64 a0, .slice A1 l1.length c1, .int .i64 a2] w fun e w' => e = .returned (.tuple #[.bool r1, .int .i64 r2]) ∧ Below w.heap.size w w' := by
  have hu35 := Try.underlying35
  have HR1 := Aside0.mk hr1
  have HC1 := Aside0.mk hc1
  clear hr1 hc1
  have HB := Aside0.mk (Below.refl w.heap.size w)
  have H : ((chron_Check.f k a0 l1).bind fun t304 => (if t304 = 0 then (if a2 < 0 then (contradict_Implied.j0 k a0 l1 a2 true) else (contradict_Implied.j0 k a0 l1 a2 (decide (a2 ≥ (l1.length : Int))))) else (some (false, t304)))) = some (r1, r2) := h
  clear h
  replace H := Option.bind_eq_some_iff.mp H
  obtain ⟨t304, A40, H⟩ := H
  replace H : (if t304 = 0 then (if a2 < 0 then (contradict_Implied.j0 k a0 l1 a2 true) else (contradict_Implied.j0 k a0 l1 a2 (decide (a2 ≥ (l1.length : Int))))) else (some (false, t304))) = some (r1, r2) := H
  have A4 := Aside0.mk A40
  clear A40
  by_cases c5 : t304 = 0
  · rw [if_pos c5] at H
    have c5b0 : (t304 == 0) = true := beq_iff_eq.mpr c5
    have c5b1 : (t304 != 0) = false := bne_eq_false_iff_eq.mpr c5
    clear c5
    have HC6 := Aside0.mk H
    clear H
    go_enter Try.func21, Try.ntmps21
    go_upto_region 4 with (first | ((with_reducible refine gate_callee (f := 13) rfl ?_); refine goesL_ (some 14) rfl rfl Try.func13 (by kernel_rfl) rfl #[.int .i64 a0, .slice A1 l1.length c1] rfl (by (try simp only [List.map_toArray, List.map_cons, List.map_nil]); first | done | rfl | (simp only [List.length_drop, List.length_take]; rfl)) ?_; (with_reducible refine (chron_Check.calls k a0 _ _ l1 t304 _ ?side1 ?side2 A4.out).mono ?_); (case side1 => repeat (first | exact HR1.out | (with_reducible refine Kd.C_alloc ?_ _) | (with_reducible refine Kd.C_drewN ?_ _) | (with_reducible refine Kd.C_drew ?_))); (case side2 => exact HC1.out); rintro e w7 ⟨rfl, hb⟩; refine ⟨_, rfl, ?_⟩; have n0_ := Aside0.mk (below_step (by repeat (first | (with_reducible first | exact HB.out | apply below_alloc | apply pw_below_drewN | apply below_drew1) | exact HB.out)) hb); clear HB; have HB := n0_; clear n0_; (try clear hb); (try clear hb2); (try clear hk); (try clear hi)))
    (try simp only [Act.put, List.setIfInBounds_toArray, List.set_cons_zero, List.set_cons_succ])
    go_cut [25] (fun v25 wc => ∃ (kq : Nat) (x25_5 : Bool), v25 = .bool x25_5 ∧ Aside0 (contradict_Implied.j0 kq a0 l1 a2 x25_5 = some (r1, r2)) ∧ Aside0 (kq ≤ k) ∧ Aside0 (Below w.heap.size w wc))
    case first =>
      have H := HC6.out
      clear HC6
      by_cases c8 : a2 < 0
      · rw [if_pos c8] at H
        have c8b0 : decide (a2 < 0) = true := decide_eq_true c8
        clear c8
        (first | rw [c8b0] | (simp only [i64_w, i32_w]; rw [c8b0]) | skip)
        have H' := Aside0.mk H
        clear H
        go_wp2
        go_meet
        case rel => exact ⟨_, (true), (by first | rfl | (simp; done) | (simp [*]; done)), H', ⟨by first | omega | exact Nat.le_refl _⟩, ⟨by repeat (first | (with_reducible first | exact HB.out | apply below_alloc | apply pw_below_drewN | apply below_drew1) | exact HB.out)⟩⟩
      · rw [if_neg c8] at H
        have c8b0 : decide (a2 < 0) = false := decide_eq_false c8
        clear c8
        (first | rw [c8b0] | (simp only [i64_w, i32_w]; rw [c8b0]) | skip)
        have H' := Aside0.mk H
        clear H
        go_wp2
        go_meet
        case rel => exact ⟨_, (decide (a2 ≥ (l1.length : Int))), (by first | rfl | (simp; done) | (simp [*]; done)), H', ⟨by first | omega | exact Nat.le_refl _⟩, ⟨by repeat (first | (with_reducible first | exact HB.out | apply below_alloc | apply pw_below_drewN | apply below_drew1) | exact HB.out)⟩⟩
    case rest =>
      clear HC6
      try clear c1
      try clear c2
      try clear p2
      try clear c5
      try clear c5b0
      try clear c5b1
      try clear c8
      try clear c8b0
      obtain ⟨kq, x25_5, rfl, HA, HJ5, HB⟩ := hcut
      cases kq with
      | zero => exact absurd HA.out (by simp [contradict_Implied.j0])
      | succ kj5 =>
        have H := HA.out
        clear HA
        simp only [contradict_Implied.j0] at H
        by_cases c9 : x25_5 = true
        · subst c9
          have H1 : (some (false, 3)) = some (r1, r2) := by rw [if_pos rfl] at H; exact H
          clear H
          have H := H1
          clear H1
          simp only [Option.some.injEq, Prod.mk.injEq] at H
          obtain ⟨rfl, rfl⟩ := H
          go_wp2
          go_ret2
          exact ⟨by first | rfl | (simp [errW_none, errW_some] <;> rfl) | (simp [*, errW_none, errW_some] <;> rfl), by repeat (first | (with_reducible first | exact HB.out | apply below_alloc | apply pw_below_drewN | apply below_drew1) | exact HB.out)⟩
        · replace c9 := Bool.eq_false_iff.mpr c9
          subst c9
          have H1 : ((contradict_without.f kj5 l1 a2).bind fun t305 => ((chron_Tightest.f kj5 a0 t305).bind fun bt308 => (if bt308.2 = 0 then (if 0 ≤ a2 then (if a2 < (l1.length : Int) then (if 0 ≤ ((rd_T43 l1 a2).f0) then (if ((rd_T43 l1 a2).f0) < (bt308.1.length : Int) then (if 0 ≤ ((rd_T43 l1 a2).f1) then (if ((rd_T43 l1 a2).f1) < ((rd_L4 bt308.1 ((rd_T43 l1 a2).f0)).length : Int) then (if ((rd_T35 (rd_L4 bt308.1 ((rd_T43 l1 a2).f0)) ((rd_T43 l1 a2).f1)).f0) ≥ ((rd_T43 l1 a2).f2) then (some (decide (((rd_T35 (rd_L4 bt308.1 ((rd_T43 l1 a2).f0)) ((rd_T43 l1 a2).f1)).f1) ≤ ((rd_T43 l1 a2).f3)), 0)) else (some (false, 0))) else (none)) else (none)) else (none)) else (none)) else (none)) else (none)) else (some (false, bt308.2))))) = some (r1, r2) := by rw [if_neg (show ¬ (false = true) by decide)] at H; exact H
          clear H
          have H := H1
          clear H1
          replace H := Option.bind_eq_some_iff.mp H
          obtain ⟨t305, A100, H⟩ := H
          replace H : ((chron_Tightest.f kj5 a0 t305).bind fun bt308 => (if bt308.2 = 0 then (if 0 ≤ a2 then (if a2 < (l1.length : Int) then (if 0 ≤ ((rd_T43 l1 a2).f0) then (if ((rd_T43 l1 a2).f0) < (bt308.1.length : Int) then (if 0 ≤ ((rd_T43 l1 a2).f1) then (if ((rd_T43 l1 a2).f1) < ((rd_L4 bt308.1 ((rd_T43 l1 a2).f0)).length : Int) then (if ((rd_T35 (rd_L4 bt308.1 ((rd_T43 l1 a2).f0)) ((rd_T43 l1 a2).f1)).f0) ≥ ((rd_T43 l1 a2).f2) then (some (decide (((rd_T35 (rd_L4 bt308.1 ((rd_T43 l1 a2).f0)) ((rd_T43 l1 a2).f1)).f1) ≤ ((rd_T43 l1 a2).f3)), 0)) else (some (false, 0))) else (none)) else (none)) else (none)) else (none)) else (none)) else (none)) else (some (false, bt308.2)))) = some (r1, r2) := H
          have A10 := Aside0.mk A100
          clear A100
          replace H := Option.bind_eq_some_iff.mp H
          obtain ⟨⟨t308, t309⟩, A110, H⟩ := H
          replace H : (if t309 = 0 then (if 0 ≤ a2 then (if a2 < (l1.length : Int) then (if 0 ≤ ((rd_T43 l1 a2).f0) then (if ((rd_T43 l1 a2).f0) < (t308.length : Int) then (if 0 ≤ ((rd_T43 l1 a2).f1) then (if ((rd_T43 l1 a2).f1) < ((rd_L4 t308 ((rd_T43 l1 a2).f0)).length : Int) then (if ((rd_T35 (rd_L4 t308 ((rd_T43 l1 a2).f0)) ((rd_T43 l1 a2).f1)).f0) ≥ ((rd_T43 l1 a2).f2) then (some (decide (((rd_T35 (rd_L4 t308 ((rd_T43 l1 a2).f0)) ((rd_T43 l1 a2).f1)).f1) ≤ ((rd_T43 l1 a2).f3)), 0)) else (some (false, 0))) else (none)) else (none)) else (none)) else (none)) else (none)) else (none)) else (some (false, t309))) = some (r1, r2) := H
          have A11 := Aside0.mk A110
          clear A110
          by_cases c12 : t309 = 0
          · rw [if_pos c12] at H
            have c12b0 : (t309 == 0) = true := beq_iff_eq.mpr c12
            have c12b1 : (t309 != 0) = false := bne_eq_false_iff_eq.mpr c12
            clear c12
            by_cases c13 : 0 ≤ a2
            · rw [if_pos c13] at H
              have c13b0 : decide (0 ≤ a2) = true := decide_eq_true c13
              clear c13
              by_cases c14 : a2 < (l1.length : Int)
              · rw [if_pos c14] at H
                have c14b0 : decide (a2 < (l1.length : Int)) = true := decide_eq_true c14
                clear c14
                by_cases c15 : 0 ≤ ((rd_T43 l1 a2).f0)
                · rw [if_pos c15] at H
                  have c15b0 : decide (0 ≤ ((rd_T43 l1 a2).f0)) = true := decide_eq_true c15
                  clear c15
                  by_cases c16 : ((rd_T43 l1 a2).f0) < (t308.length : Int)
                  · rw [if_pos c16] at H
                    have c16b0 : decide (((rd_T43 l1 a2).f0) < (t308.length : Int)) = true := decide_eq_true c16
                    clear c16
                    by_cases c17 : 0 ≤ ((rd_T43 l1 a2).f1)
                    · rw [if_pos c17] at H
                      have c17b0 : decide (0 ≤ ((rd_T43 l1 a2).f1)) = true := decide_eq_true c17
                      clear c17
                      by_cases c18 : ((rd_T43 l1 a2).f1) < ((rd_L4 t308 ((rd_T43 l1 a2).f0)).length : Int)
                      · rw [if_pos c18] at H
                        have c18b0 : decide (((rd_T43 l1 a2).f1) < ((rd_L4 t308 ((rd_T43 l1 a2).f0)).length : Int)) = true := decide_eq_true c18
                        clear c18
                        by_cases c19 : ((rd_T35 (rd_L4 t308 ((rd_T43 l1 a2).f0)) ((rd_T43 l1 a2).f1)).f0) ≥ ((rd_T43 l1 a2).f2)
                        · rw [if_pos c19] at H
                          have c19b0 : decide (((rd_T43 l1 a2).f2) ≤ ((rd_T35 (rd_L4 t308 ((rd_T43 l1 a2).f0)) ((rd_T43 l1 a2).f1)).f0)) = true := decide_eq_true c19
                          clear c19
                          simp only [Option.some.injEq, Prod.mk.injEq] at H
                          obtain ⟨rfl, rfl⟩ := H
                          try go_wp2_with (first | ((with_reducible refine gate_callee (f := 30) rfl ?_); refine goesL_ (some 30) rfl rfl Try.func30 (by kernel_rfl) rfl #[.slice A1 l1.length c1, .int .i64 a2] rfl (by (try simp only [List.map_toArray, List.map_cons, List.map_nil]); first | done | rfl | (simp only [List.length_drop, List.length_take]; rfl)) ?_; (with_reducible refine (contradict_without.calls kj5 _ _ l1 a2 t305 _ ?side1 ?side2 A10.out).mono ?_); (case side1 => repeat (first | exact (Kd.C_below HR1.out HB.out) | (with_reducible refine Kd.C_alloc ?_ _) | (with_reducible refine Kd.C_drewN ?_ _) | (with_reducible refine Kd.C_drew ?_))); (case side2 => exact HC1.out); rintro e w20 ⟨v306, rfl, ho0, hb⟩; refine ⟨_, rfl, ?_⟩; have n0_ := Aside0.mk (Kd.R_lower ho0 (below_size (by repeat (first | (with_reducible first | exact HB.out | apply below_alloc | apply pw_below_drewN | apply below_drew1) | exact HB.out)))); have n1_ := Aside0.mk (below_step (by repeat (first | (with_reducible first | exact HB.out | apply below_alloc | apply pw_below_drewN | apply below_drew1) | exact HB.out)) hb); clear HB; have HO307 := n0_; have HB := n1_; clear n0_ n1_; (try clear hb); (try clear hb2); (try clear hk); (try clear hi); (try clear ho0); obtain ⟨Ao21, co21, eo21⟩ := Kd.R_slice HO307.out; subst eo21) | ((with_reducible refine gate_callee (f := 11) rfl ?_); refine goesL_ (some 31) rfl rfl Try.func11 (by kernel_rfl) rfl #[.int .i64 a0, .slice Ao21 t305.length co21] rfl (by (try simp only [List.map_toArray, List.map_cons, List.map_nil]); first | done | rfl | (simp only [List.length_drop, List.length_take]; rfl)) ?_; (with_reducible refine (chron_Tightest.calls kj5 a0 _ _ t305 t308 t309 _ ?side1 ?side2 A11.out).mono ?_); (case side1 => repeat (first | exact (Kd.R_reads' HO307.out).2.2 | (with_reducible refine Kd.C_alloc ?_ _) | (with_reducible refine Kd.C_drewN ?_ _) | (with_reducible refine Kd.C_drew ?_))); (case side2 => exact (Kd.R_reads' HO307.out).2.1); rintro e w22 ⟨v310, rfl, ho0, hb⟩; refine ⟨_, rfl, ?_⟩; have n0_ := Aside0.mk (Kd.R_below (by (with_reducible repeat (first | apply Kd.R_alloc | apply Kd.R_drewN | apply Kd.R_drew)); exact HO307.out) hb); have n1_ := Aside0.mk (Kd.S_lower ho0 (below_size (by repeat (first | (with_reducible first | exact HB.out | apply below_alloc | apply pw_below_drewN | apply below_drew1) | exact HB.out)))); have n2_ := Aside0.mk (below_step (by repeat (first | (with_reducible first | exact HB.out | apply below_alloc | apply pw_below_drewN | apply below_drew1) | exact HB.out)) hb); clear HO307; clear HB; have HO307 := n0_; have HO311 := n1_; have HB := n2_; clear n0_ n1_ n2_; (try clear hb); (try clear hb2); (try clear hk); (try clear hi); (try clear ho0)))
                          have n0_ := Aside0.mk (Kd.R_drew HO307.out)
                          have n1_ := Aside0.mk (Kd.S_drew HO311.out)
                          have n2_ := Aside0.mk (below_drew1 HB.out)
                          clear HO307
                          clear HO311
                          clear HB
                          have HO307 := n0_
                          have HO311 := n1_
                          have HB := n2_
                          clear n0_ n1_ n2_
                          have p312 : 0 ≤ (a2 : Int) := of_decide_eq_true (by first | (with_reducible assumption) | assumption)
                          have q312 : a2 < (l1.length : Int) := of_decide_eq_true (by first | (with_reducible assumption) | assumption)
                          obtain ⟨ad312, e312, hx312_0, hx312_1, hx312_2, hx312_3⟩ := at_T43 HR1.out a2 p312 q312
                          have hw312_3 := hx312_3
                          have hw312_2 := hx312_2
                          have hw312_1 := hx312_1
                          have hw312_0 := hx312_0
                          cases e312
                          replace hx312_0 := (HB.out.cell (World.block_lt_of_cell? w _ hx312_0)).trans hx312_0
                          replace hx312_1 := (HB.out.cell (World.block_lt_of_cell? w _ hx312_1)).trans hx312_1
                          replace hx312_2 := (HB.out.cell (World.block_lt_of_cell? w _ hx312_2)).trans hx312_2
                          replace hx312_3 := (HB.out.cell (World.block_lt_of_cell? w _ hx312_3)).trans hx312_3
                          replace p312 := eq_true p312
                          replace q312 := eq_true q312
                          obtain ⟨Ao24, co24, eo24⟩ := Kd.S_slice HO311.out
                          (first | subst eo24 | (injection eo24 with f1_ f2_ f3_; have f4_ := f1_.symm; have f5_ := f3_.symm; clear f1_ f2_ f3_; subst f4_; subst f5_))
                          have p313 : 0 ≤ (((rd_T43 l1 a2).f0) : Int) := of_decide_eq_true (by first | (with_reducible assumption) | assumption)
                          have q313 : ((rd_T43 l1 a2).f0) < (t308.length : Int) := of_decide_eq_true (by first | (with_reducible assumption) | assumption)
                          obtain ⟨ad313, A313_0, c313_0, e313, hx313_0, hl313_0, hi313_0⟩ := at_L4 (Kd.S_reads' HO311.out).2.2 ((rd_T43 l1 a2).f0) p313 q313
                          cases e313
                          obtain ⟨ce313, hce313, hMe313, hcc313⟩ := Kd.S_get HO311.out [] ((rd_T43 l1 a2).f0) p313 (by first | exact q313 | exact of_decide_eq_true (by first | (with_reducible assumption) | assumption) | (have e_ := (Kd.S_reads' HO311.out).1; omega))
                          obtain ⟨ve313_0, rfl, ge313_0⟩ := hMe313
                          have hv313_0 := hcc313 0 _ rfl
                          rw [Nat.add_zero, show ((Kd.slice 35 k35)).sz = 1 from rfl, Nat.mul_one] at hv313_0
                          replace hv313_0 := Option.some.inj (hv313_0.symm.trans hx313_0)
                          rw [hv313_0] at ge313_0
                          have HL313_0 := Aside0.mk (show Kd.R k35 35 _ _ _ _ (rd_L4 t308 ((rd_T43 l1 a2).f0)) from ge313_0)
                          clear hv313_0 ge313_0
                          clear hcc313 hce313
                          have HR313_0 := Aside0.mk hi313_0
                          have HC313_0 := Aside0.mk hl313_0
                          clear hi313_0 hl313_0
                          replace p313 := eq_true p313
                          replace q313 := eq_true q313
                          have p314 : 0 ≤ (a2 : Int) := of_decide_eq_true (by first | (with_reducible assumption) | assumption)
                          have q314 : a2 < (l1.length : Int) := of_decide_eq_true (by first | (with_reducible assumption) | assumption)
                          obtain ⟨ad314, e314, hx314_0, hx314_1, hx314_2, hx314_3⟩ := at_T43 HR1.out a2 p314 q314
                          have hw314_3 := hx314_3
                          have hw314_2 := hx314_2
                          have hw314_1 := hx314_1
                          have hw314_0 := hx314_0
                          obtain rfl : ad312 = ad314 := (by injection e314)
                          replace hx314_0 := (HB.out.cell (World.block_lt_of_cell? w _ hx314_0)).trans hx314_0
                          replace hx314_1 := (HB.out.cell (World.block_lt_of_cell? w _ hx314_1)).trans hx314_1
                          replace hx314_2 := (HB.out.cell (World.block_lt_of_cell? w _ hx314_2)).trans hx314_2
                          replace hx314_3 := (HB.out.cell (World.block_lt_of_cell? w _ hx314_3)).trans hx314_3
                          replace p314 := eq_true p314
                          replace q314 := eq_true q314
                          have p315 : 0 ≤ (((rd_T43 l1 a2).f1) : Int) := of_decide_eq_true (by first | (with_reducible assumption) | assumption)
                          have q315 : ((rd_T43 l1 a2).f1) < ((rd_L4 t308 ((rd_T43 l1 a2).f0)).length : Int) := of_decide_eq_true (by first | (with_reducible assumption) | assumption)
                          obtain ⟨ad315, e315, hx315_0, hx315_1⟩ := at_T35 (by repeat (first | (with_reducible exact HR313_0.out) | (with_reducible refine Kd.C_alloc ?_ _) | (with_reducible refine Kd.C_drewN ?_ _) | (with_reducible refine Kd.C_drew ?_) | exact HR313_0.out)) ((rd_T43 l1 a2).f1) p315 q315
                          cases e315
                          replace p315 := eq_true p315
                          replace q315 := eq_true q315
                          refine start_ (n := 17) (S := fun w' => w'.cell? (ad312.add ((a2).toNat * 4)) = some (.int .i64 ((rd_T43 l1 a2).f0)) ∧ w'.cell? ⟨(ad312.add ((a2).toNat * 4)).block, (ad312.add ((a2).toNat * 4)).off + 1, none⟩ = some (.int .i64 ((rd_T43 l1 a2).f1)) ∧ w'.cell? ⟨(ad312.add ((a2).toNat * 4)).block, (ad312.add ((a2).toNat * 4)).off + 2, none⟩ = some (.int .i64 ((rd_T43 l1 a2).f2)) ∧ w'.cell? ⟨(ad312.add ((a2).toNat * 4)).block, (ad312.add ((a2).toNat * 4)).off + 3, none⟩ = some (.int .i64 ((rd_T43 l1 a2).f3)) ∧ w'.cell? (ad313.add (((rd_T43 l1 a2).f0)).toNat) = some (.slice (some ad315) (rd_L4 t308 ((rd_T43 l1 a2).f0)).length c313_0) ∧ w'.cell? (ad312.add ((a2).toNat * 4)) = some (.int .i64 ((rd_T43 l1 a2).f0)) ∧ w'.cell? ⟨(ad312.add ((a2).toNat * 4)).block, (ad312.add ((a2).toNat * 4)).off + 1, none⟩ = some (.int .i64 ((rd_T43 l1 a2).f1)) ∧ w'.cell? ⟨(ad312.add ((a2).toNat * 4)).block, (ad312.add ((a2).toNat * 4)).off + 2, none⟩ = some (.int .i64 ((rd_T43 l1 a2).f2)) ∧ w'.cell? ⟨(ad312.add ((a2).toNat * 4)).block, (ad312.add ((a2).toNat * 4)).off + 3, none⟩ = some (.int .i64 ((rd_T43 l1 a2).f3)) ∧ w'.cell? (ad315.add ((((rd_T43 l1 a2).f1)).toNat * 2)) = some (.int .i64 ((rd_T35 (rd_L4 t308 ((rd_T43 l1 a2).f0)) ((rd_T43 l1 a2).f1)).f0)) ∧ w'.cell? ⟨(ad315.add ((((rd_T43 l1 a2).f1)).toNat * 2)).block, (ad315.add ((((rd_T43 l1 a2).f1)).toNat * 2)).off + 1, none⟩ = some (.int .i64 ((rd_T35 (rd_L4 t308 ((rd_T43 l1 a2).f0)) ((rd_T43 l1 a2).f1)).f1))) (ds := []) #[false, false, false, false, false, false, false, false, false, false, false, false, false, false, false, false, false] (by kernel_rfl) rfl rfl ⟨((HB.out.cell (World.block_lt_of_cell? w _ hw312_0)).trans hw312_0), ((HB.out.cell (World.block_lt_of_cell? w _ hw312_1)).trans hw312_1), ((HB.out.cell (World.block_lt_of_cell? w _ hw312_2)).trans hw312_2), ((HB.out.cell (World.block_lt_of_cell? w _ hw312_3)).trans hw312_3), hx313_0, ((HB.out.cell (World.block_lt_of_cell? w _ hw314_0)).trans hw314_0), ((HB.out.cell (World.block_lt_of_cell? w _ hw314_1)).trans hw314_1), ((HB.out.cell (World.block_lt_of_cell? w _ hw314_2)).trans hw314_2), ((HB.out.cell (World.block_lt_of_cell? w _ hw314_3)).trans hw314_3), hx315_0, hx315_1⟩ (fun hHeld => ?_); refine with_tabW contradict_Implied.tab9 contradict_Implied.bits9 (fun HT_ HW_ => ?_)
                          generalize w22.drew = w23 at HO307 HO311 HB HL313_0 HR313_0 hx312_0 hx312_1 hx312_2 hx312_3 hx313_0 hx314_0 hx314_1 hx314_2 hx314_3 hx315_0 hx315_1 hHeld ⊢
                          refine pure_ (i := 0) (N := some 37) (v := ?_) (a' := ?_) #[true, false, false, false, false, false, false, false, false, false, false, false, false, false, false, false, false] rfl rfl (any_of HT_.out (by kernel_rfl)) (fun _ _ _ h => h) (Or.inl ⟨by rfl, ?_⟩) ?_ ?_
                          rotate_left
                          · intro w'
                            go_simp
                            with_reducible rfl
                          rotate_left
                          · simp only [Act.put, List.setIfInBounds_toArray, List.set_cons_zero, List.set_cons_succ, i64_w, i32_w]
                            rfl
                          refine pure_ (i := 1) (N := some 38) (v := ?_) (a' := ?_) #[true, true, false, false, false, false, false, false, false, false, false, false, false, false, false, false, false] rfl rfl (any_of HT_.out (by kernel_rfl)) (fun _ _ _ h => h) (Or.inl ⟨by rfl, ?_⟩) ?_ ?_
                          rotate_left
                          · intro w'
                            go_simp
                            with_reducible rfl
                          rotate_left
                          · simp only [Act.put, List.setIfInBounds_toArray, List.set_cons_zero, List.set_cons_succ, i64_w, i32_w]
                            rfl
                          refine pure_ (i := 2) (N := some 39) (v := ?_) (a' := ?_) #[true, true, true, false, false, false, false, false, false, false, false, false, false, false, false, false, false] rfl rfl (any_of HT_.out (by kernel_rfl)) (fun _ _ _ h => h) (Or.inl ⟨by rfl, ?_⟩) ?_ ?_
                          rotate_left
                          · intro w'
                            go_simp
                            with_reducible rfl
                          rotate_left
                          · simp only [Act.put, List.setIfInBounds_toArray, List.set_cons_zero, List.set_cons_succ, i64_w, i32_w]
                            rfl
                          refine pure_ (i := 3) (N := some 40) (v := ?_) (a' := ?_) #[true, true, true, true, false, false, false, false, false, false, false, false, false, false, false, false, false] rfl rfl (any_of HT_.out (by kernel_rfl)) (fun _ _ _ h => h) (Or.inl ⟨by rfl, ?_⟩) ?_ ?_
                          rotate_left
                          · intro w'
                            go_simp
                            with_reducible rfl
                          rotate_left
                          · simp only [Act.put, List.setIfInBounds_toArray, List.set_cons_zero, List.set_cons_succ, i64_w, i32_w]
                            rfl
                          refine pure_ (i := 4) (N := some 41) (v := ?_) (a' := ?_) #[true, true, true, true, true, false, false, false, false, false, false, false, false, false, false, false, false] rfl rfl (any_of HT_.out (by kernel_rfl)) (fun _ _ _ h => h) (Or.inl ⟨by rfl, ?_⟩) ?_ ?_
                          rotate_left
                          · intro w'
                            go_simp
                            with_reducible rfl
                          rotate_left
                          · simp only [Act.put, List.setIfInBounds_toArray, List.set_cons_zero, List.set_cons_succ, i64_w, i32_w]
                            rfl
                          refine pure_ (i := 8) (N := some 45) (v := ?_) (a' := ?_) #[true, true, true, true, true, false, false, false, true, false, false, false, false, false, false, false, false] rfl rfl (any_of HT_.out (by kernel_rfl)) (fun _ _ _ h => h) (Or.inl ⟨by rfl, ?_⟩) ?_ ?_
                          rotate_left
                          · intro w'
                            go_simp
                            with_reducible rfl
                          rotate_left
                          · simp only [Act.put, List.setIfInBounds_toArray, List.set_cons_zero, List.set_cons_succ, i64_w, i32_w]
                            rfl
                          refine pure_ (i := 9) (N := some 46) (v := ?_) (a' := ?_) #[true, true, true, true, true, false, false, false, true, true, false, false, false, false, false, false, false] rfl rfl (any_of HT_.out (by kernel_rfl)) (fun _ _ _ h => h) (Or.inl ⟨by rfl, ?_⟩) ?_ ?_
                          rotate_left
                          · intro w'
                            go_simp
                            with_reducible rfl
                          rotate_left
                          · simp only [Act.put, List.setIfInBounds_toArray, List.set_cons_zero, List.set_cons_succ, i64_w, i32_w]
                            rfl
                          refine pure_ (i := 10) (N := some 47) (v := ?_) (a' := ?_) #[true, true, true, true, true, false, false, false, true, true, true, false, false, false, false, false, false] rfl rfl (any_of HT_.out (by kernel_rfl)) (fun _ _ _ h => h) (Or.inl ⟨by rfl, ?_⟩) ?_ ?_
                          rotate_left
                          · intro w'
                            go_simp
                            with_reducible rfl
                          rotate_left
                          · simp only [Act.put, List.setIfInBounds_toArray, List.set_cons_zero, List.set_cons_succ, i64_w, i32_w]
                            rfl
                          refine pure_ (i := 11) (N := some 48) (v := ?_) (a' := ?_) #[true, true, true, true, true, false, false, false, true, true, true, true, false, false, false, false, false] rfl rfl (any_of HT_.out (by kernel_rfl)) (fun _ _ _ h => h) (Or.inl ⟨by rfl, ?_⟩) ?_ ?_
                          rotate_left
                          · intro w'
                            go_simp
                            with_reducible rfl
                          rotate_left
                          · simp only [Act.put, List.setIfInBounds_toArray, List.set_cons_zero, List.set_cons_succ, i64_w, i32_w]
                            rfl
                          refine take_ (i := 5) (N := some 42) (v := ?_) (a' := ?_) #[true, true, true, true, true, true, false, false, true, true, true, true, false, false, false, false, false] rfl rfl (take_ofW HT_.out HW_.out (by kernel_rfl)) (fun _ _ _ h => h) (Or.inl ⟨by rfl, ?_⟩) hHeld ?_ ?_
                          rotate_left
                          · rintro w' ⟨s0, s1, s2, s3, s4, s5, s6, s7, s8, s9, s10⟩
                            go_simp
                            with_reducible rfl
                          rotate_left
                          · simp only [Act.put, List.setIfInBounds_toArray, List.set_cons_zero, List.set_cons_succ, i64_w, i32_w]
                            rfl
                          refine pure_ (i := 6) (N := some 43) (v := ?_) (a' := ?_) #[true, true, true, true, true, true, true, false, true, true, true, true, false, false, false, false, false] rfl rfl (any_of HT_.out (by kernel_rfl)) (fun _ _ _ h => h) (Or.inl ⟨by rfl, ?_⟩) ?_ ?_
                          rotate_left
                          · intro w'
                            go_simp
                            with_reducible rfl
                          rotate_left
                          · simp only [Act.put, List.setIfInBounds_toArray, List.set_cons_zero, List.set_cons_succ, i64_w, i32_w]
                            rfl
                          refine take_ (i := 7) (N := some 44) (v := ?_) (a' := ?_) #[true, true, true, true, true, true, true, true, true, true, true, true, false, false, false, false, false] rfl rfl (take_ofW HT_.out HW_.out (by kernel_rfl)) (fun _ _ _ h => h) (Or.inl ⟨by rfl, ?_⟩) hHeld ?_ ?_
                          rotate_left
                          · rintro w' ⟨s0, s1, s2, s3, s4, s5, s6, s7, s8, s9, s10⟩
                            go_simp
                            with_reducible rfl
                          rotate_left
                          · simp only [Act.put, List.setIfInBounds_toArray, List.set_cons_zero, List.set_cons_succ, i64_w, i32_w]
                            rfl
                          refine take_ (i := 12) (N := some 49) (v := ?_) (a' := ?_) #[true, true, true, true, true, true, true, true, true, true, true, true, true, false, false, false, false] rfl rfl (take_ofW HT_.out HW_.out (by kernel_rfl)) (fun _ _ _ h => h) (Or.inl ⟨by rfl, ?_⟩) hHeld ?_ ?_
                          rotate_left
                          · rintro w' ⟨s0, s1, s2, s3, s4, s5, s6, s7, s8, s9, s10⟩
                            go_simp
                            with_reducible rfl
                          rotate_left
                          · simp only [Act.put, List.setIfInBounds_toArray, List.set_cons_zero, List.set_cons_succ, i64_w, i32_w]
                            rfl
                          refine pure_ (i := 13) (N := some 50) (v := ?_) (a' := ?_) #[true, true, true, true, true, true, true, true, true, true, true, true, true, true, false, false, false] rfl rfl (any_of HT_.out (by kernel_rfl)) (fun _ _ _ h => h) (Or.inl ⟨by rfl, ?_⟩) ?_ ?_
                          rotate_left
                          · intro w'
                            go_simp
                            with_reducible rfl
                          rotate_left
                          · simp only [Act.put, List.setIfInBounds_toArray, List.set_cons_zero, List.set_cons_succ, i64_w, i32_w]
                            rfl
                          refine take_ (i := 14) (N := some 51) (v := ?_) (a' := ?_) #[true, true, true, true, true, true, true, true, true, true, true, true, true, true, true, false, false] rfl rfl (take_ofW HT_.out HW_.out (by kernel_rfl)) (fun _ _ _ h => h) (Or.inl ⟨by rfl, ?_⟩) hHeld ?_ ?_
                          rotate_left
                          · rintro w' ⟨s0, s1, s2, s3, s4, s5, s6, s7, s8, s9, s10⟩
                            go_simp
                            with_reducible rfl
                          rotate_left
                          · simp only [Act.put, List.setIfInBounds_toArray, List.set_cons_zero, List.set_cons_succ, i64_w, i32_w]
                            rfl
                          refine one_ (i := 15) (N := some 11) #[true, true, true, true, true, true, true, true, true, true, true, true, true, true, true, true, false] rfl rfl (one_of HT_.out (by kernel_rfl)) (by decide) (fun K hK => ?_)
                          refine box_step ?hg (N := 11) ?hd (cs := #[.int .i64 0, .int .i64 0]) (t := 35) ?hr ?_; (case hd => rfl); (case hg => rfl); (case hr => first | (go_simp; done) | (go_simp; rfl))
                          intro gb316 hg w25 hbox hb
                          have HS4_ := (hb.cell (World.block_lt_of_cell? _ _ (hHeld.2.2.2.2.1))).trans (hHeld.2.2.2.2.1)
                          have HS9_ := (hb.cell (World.block_lt_of_cell? _ _ (hHeld.2.2.2.2.2.2.2.2.2.1))).trans (hHeld.2.2.2.2.2.2.2.2.2.1)
                          have HS10_ := (hb.cell (World.block_lt_of_cell? _ _ (hHeld.2.2.2.2.2.2.2.2.2.2))).trans (hHeld.2.2.2.2.2.2.2.2.2.2)
                          have n0_ := Aside0.mk (Kd.R_below (by (with_reducible repeat (first | apply Kd.R_alloc | apply Kd.R_drewN | apply Kd.R_drew)); exact HO307.out) hb)
                          have n1_ := Aside0.mk (Kd.S_below (Kd.S_elderB (by (with_reducible repeat (first | apply Kd.S_alloc | apply Kd.S_drewN | apply Kd.S_drew)); exact HO311.out) gb316 (Nat.le_of_eq hg.symm)) hb)
                          have n2_ := Aside0.mk (Kd.R_below (Kd.R_elderB (by (with_reducible repeat (first | apply Kd.R_alloc | apply Kd.R_drewN | apply Kd.R_drew)); exact HL313_0.out) gb316 (Nat.le_of_eq hg.symm)) hb)
                          have n3_ := Aside0.mk (Kd.C_below (by repeat (first | (with_reducible exact HR313_0.out) | (with_reducible refine Kd.C_alloc ?_ _) | (with_reducible refine Kd.C_drewN ?_ _) | (with_reducible refine Kd.C_drew ?_) | exact HR313_0.out)) hb)
                          have n4_ := Aside0.mk (below_step (by repeat (first | (with_reducible first | exact HB.out | apply below_alloc | apply pw_below_drewN | apply below_drew1) | exact HB.out)) hb)
                          have n5_ := Aside0.mk (hbox)
                          have n6_ := Aside0.mk ((by rw [hg]; exact (below_size (by repeat (first | (with_reducible first | exact HB.out | apply below_alloc | apply pw_below_drewN | apply below_drew1) | exact HB.out))) : w.heap.size ≤ gb316))
                          have n7_ := Aside0.mk ((by rw [hg]; exact (below_size (by repeat (first | (with_reducible first | exact HB.out | apply below_alloc | apply pw_below_drewN | apply below_drew1) | exact HB.out))) : w.heap.size ≤ gb316))
                          clear HO307
                          clear HO311
                          clear HL313_0
                          clear HR313_0
                          clear HB
                          have HO307 := n0_
                          have HO311 := n1_
                          have HL313_0 := n2_
                          have HR313_0 := n3_
                          have HB := n4_
                          have BK316 := n5_
                          have GW316 := n6_
                          have GE316 := n7_
                          clear n0_ n1_ n2_ n3_ n4_ n5_ n6_ n7_
                          clear hb hbox hg
                          refine hK.out _ _ ⟨((HB.out.cell (World.block_lt_of_cell? w _ hw312_0)).trans hw312_0), ((HB.out.cell (World.block_lt_of_cell? w _ hw312_1)).trans hw312_1), ((HB.out.cell (World.block_lt_of_cell? w _ hw312_2)).trans hw312_2), ((HB.out.cell (World.block_lt_of_cell? w _ hw312_3)).trans hw312_3), HS4_, ((HB.out.cell (World.block_lt_of_cell? w _ hw314_0)).trans hw314_0), ((HB.out.cell (World.block_lt_of_cell? w _ hw314_1)).trans hw314_1), ((HB.out.cell (World.block_lt_of_cell? w _ hw314_2)).trans hw314_2), ((HB.out.cell (World.block_lt_of_cell? w _ hw314_3)).trans hw314_3), HS9_, HS10_⟩ (fun hHeld => ?_)
                          clear hK K
                          refine norm_ (a' := ?_) ?_ ?_
                          rotate_left
                          · show Act.put _ (some 11) _ = _
                            simp only [Act.put, List.setIfInBounds_toArray, List.set_cons_zero, List.set_cons_succ, i64_w, i32_w]
                            rfl
                          refine one_ (i := 16) (N := none) #[true, true, true, true, true, true, true, true, true, true, true, true, true, true, true, true, true] rfl rfl (one_of HT_.out (by kernel_rfl)) (by decide) (fun K hK => ?_)
                          have hs26 : w25.cell? ⟨gb316, 0, none⟩ = some (.int .i64 0) := (blk_cell BK316.out 0).trans rfl
                          have hfs26 := blk_frozen BK316.out 0
                          have hs27 : w25.cell? ⟨gb316, 1, none⟩ = some (.int .i64 0) := (blk_cell BK316.out 1).trans rfl
                          have hfs27 := blk_frozen BK316.out 1
                          refine skip_ (w1 := ?_) (by rfl) rfl ?_ ?_
                          rotate_left
                          · go_simp
                            rfl
                          refine hK.out _ _ ⟨((cell_far (p := ⟨gb316, _, none⟩) (by first | exact Nat.ne_of_lt (Nat.lt_of_lt_of_le (by have := World.block_lt_of_cell? _ _ hw312_0; first | rwa [add_block] at this | exact this) GW316.out) | (rw [add_block]; exact Nat.ne_of_lt (Nat.lt_of_lt_of_le (by have := World.block_lt_of_cell? _ _ hw312_0; first | rwa [add_block] at this | exact this) GW316.out)) | (show (Addr.add _ _).block ≠ _; rw [add_block]; exact Nat.ne_of_lt (Nat.lt_of_lt_of_le (by have := World.block_lt_of_cell? _ _ hw312_0; first | rwa [add_block] at this | exact this) GW316.out)) | (dsimp only; exact Nat.ne_of_lt (Nat.lt_of_lt_of_le (by have := World.block_lt_of_cell? _ _ hw312_0; first | rwa [add_block] at this | exact this) GW316.out))) _).trans (((cell_far (p := ⟨gb316, _, none⟩) (by first | exact Nat.ne_of_lt (Nat.lt_of_lt_of_le (by have := World.block_lt_of_cell? _ _ hw312_0; first | rwa [add_block] at this | exact this) GW316.out) | (rw [add_block]; exact Nat.ne_of_lt (Nat.lt_of_lt_of_le (by have := World.block_lt_of_cell? _ _ hw312_0; first | rwa [add_block] at this | exact this) GW316.out)) | (show (Addr.add _ _).block ≠ _; rw [add_block]; exact Nat.ne_of_lt (Nat.lt_of_lt_of_le (by have := World.block_lt_of_cell? _ _ hw312_0; first | rwa [add_block] at this | exact this) GW316.out)) | (dsimp only; exact Nat.ne_of_lt (Nat.lt_of_lt_of_le (by have := World.block_lt_of_cell? _ _ hw312_0; first | rwa [add_block] at this | exact this) GW316.out))) _).trans (hHeld.1)))), ((cell_far (p := ⟨gb316, _, none⟩) (by first | exact Nat.ne_of_lt (Nat.lt_of_lt_of_le (by have := World.block_lt_of_cell? _ _ hw312_1; first | rwa [add_block] at this | exact this) GW316.out) | (rw [add_block]; exact Nat.ne_of_lt (Nat.lt_of_lt_of_le (by have := World.block_lt_of_cell? _ _ hw312_1; first | rwa [add_block] at this | exact this) GW316.out)) | (show (Addr.add _ _).block ≠ _; rw [add_block]; exact Nat.ne_of_lt (Nat.lt_of_lt_of_le (by have := World.block_lt_of_cell? _ _ hw312_1; first | rwa [add_block] at this | exact this) GW316.out)) | (dsimp only; exact Nat.ne_of_lt (Nat.lt_of_lt_of_le (by have := World.block_lt_of_cell? _ _ hw312_1; first | rwa [add_block] at this | exact this) GW316.out))) _).trans (((cell_far (p := ⟨gb316, _, none⟩) (by first | exact Nat.ne_of_lt (Nat.lt_of_lt_of_le (by have := World.block_lt_of_cell? _ _ hw312_1; first | rwa [add_block] at this | exact this) GW316.out) | (rw [add_block]; exact Nat.ne_of_lt (Nat.lt_of_lt_of_le (by have := World.block_lt_of_cell? _ _ hw312_1; first | rwa [add_block] at this | exact this) GW316.out)) | (show (Addr.add _ _).block ≠ _; rw [add_block]; exact Nat.ne_of_lt (Nat.lt_of_lt_of_le (by have := World.block_lt_of_cell? _ _ hw312_1; first | rwa [add_block] at this | exact this) GW316.out)) | (dsimp only; exact Nat.ne_of_lt (Nat.lt_of_lt_of_le (by have := World.block_lt_of_cell? _ _ hw312_1; first | rwa [add_block] at this | exact this) GW316.out))) _).trans (hHeld.2.1)))), ((cell_far (p := ⟨gb316, _, none⟩) (by first | exact Nat.ne_of_lt (Nat.lt_of_lt_of_le (by have := World.block_lt_of_cell? _ _ hw312_2; first | rwa [add_block] at this | exact this) GW316.out) | (rw [add_block]; exact Nat.ne_of_lt (Nat.lt_of_lt_of_le (by have := World.block_lt_of_cell? _ _ hw312_2; first | rwa [add_block] at this | exact this) GW316.out)) | (show (Addr.add _ _).block ≠ _; rw [add_block]; exact Nat.ne_of_lt (Nat.lt_of_lt_of_le (by have := World.block_lt_of_cell? _ _ hw312_2; first | rwa [add_block] at this | exact this) GW316.out)) | (dsimp only; exact Nat.ne_of_lt (Nat.lt_of_lt_of_le (by have := World.block_lt_of_cell? _ _ hw312_2; first | rwa [add_block] at this | exact this) GW316.out))) _).trans (((cell_far (p := ⟨gb316, _, none⟩) (by first | exact Nat.ne_of_lt (Nat.lt_of_lt_of_le (by have := World.block_lt_of_cell? _ _ hw312_2; first | rwa [add_block] at this | exact this) GW316.out) | (rw [add_block]; exact Nat.ne_of_lt (Nat.lt_of_lt_of_le (by have := World.block_lt_of_cell? _ _ hw312_2; first | rwa [add_block] at this | exact this) GW316.out)) | (show (Addr.add _ _).block ≠ _; rw [add_block]; exact Nat.ne_of_lt (Nat.lt_of_lt_of_le (by have := World.block_lt_of_cell? _ _ hw312_2; first | rwa [add_block] at this | exact this) GW316.out)) | (dsimp only; exact Nat.ne_of_lt (Nat.lt_of_lt_of_le (by have := World.block_lt_of_cell? _ _ hw312_2; first | rwa [add_block] at this | exact this) GW316.out))) _).trans (hHeld.2.2.1)))), ((cell_far (p := ⟨gb316, _, none⟩) (by first | exact Nat.ne_of_lt (Nat.lt_of_lt_of_le (by have := World.block_lt_of_cell? _ _ hw312_3; first | rwa [add_block] at this | exact this) GW316.out) | (rw [add_block]; exact Nat.ne_of_lt (Nat.lt_of_lt_of_le (by have := World.block_lt_of_cell? _ _ hw312_3; first | rwa [add_block] at this | exact this) GW316.out)) | (show (Addr.add _ _).block ≠ _; rw [add_block]; exact Nat.ne_of_lt (Nat.lt_of_lt_of_le (by have := World.block_lt_of_cell? _ _ hw312_3; first | rwa [add_block] at this | exact this) GW316.out)) | (dsimp only; exact Nat.ne_of_lt (Nat.lt_of_lt_of_le (by have := World.block_lt_of_cell? _ _ hw312_3; first | rwa [add_block] at this | exact this) GW316.out))) _).trans (((cell_far (p := ⟨gb316, _, none⟩) (by first | exact Nat.ne_of_lt (Nat.lt_of_lt_of_le (by have := World.block_lt_of_cell? _ _ hw312_3; first | rwa [add_block] at this | exact this) GW316.out) | (rw [add_block]; exact Nat.ne_of_lt (Nat.lt_of_lt_of_le (by have := World.block_lt_of_cell? _ _ hw312_3; first | rwa [add_block] at this | exact this) GW316.out)) | (show (Addr.add _ _).block ≠ _; rw [add_block]; exact Nat.ne_of_lt (Nat.lt_of_lt_of_le (by have := World.block_lt_of_cell? _ _ hw312_3; first | rwa [add_block] at this | exact this) GW316.out)) | (dsimp only; exact Nat.ne_of_lt (Nat.lt_of_lt_of_le (by have := World.block_lt_of_cell? _ _ hw312_3; first | rwa [add_block] at this | exact this) GW316.out))) _).trans (hHeld.2.2.2.1)))), ((cell_far (p := ⟨gb316, _, none⟩) (by first | exact Kd.own_blk (Kd.S_away HO311.out (fun _ hk => hk.2)) | (rw [add_block]; exact Kd.own_blk (Kd.S_away HO311.out (fun _ hk => hk.2))) | (show (Addr.add _ _).block ≠ _; rw [add_block]; exact Kd.own_blk (Kd.S_away HO311.out (fun _ hk => hk.2))) | (dsimp only; exact Kd.own_blk (Kd.S_away HO311.out (fun _ hk => hk.2)))) _).trans (((cell_far (p := ⟨gb316, _, none⟩) (by first | exact Kd.own_blk (Kd.S_away HO311.out (fun _ hk => hk.2)) | (rw [add_block]; exact Kd.own_blk (Kd.S_away HO311.out (fun _ hk => hk.2))) | (show (Addr.add _ _).block ≠ _; rw [add_block]; exact Kd.own_blk (Kd.S_away HO311.out (fun _ hk => hk.2))) | (dsimp only; exact Kd.own_blk (Kd.S_away HO311.out (fun _ hk => hk.2)))) _).trans (hHeld.2.2.2.2.1)))), ((cell_far (p := ⟨gb316, _, none⟩) (by first | exact Nat.ne_of_lt (Nat.lt_of_lt_of_le (by have := World.block_lt_of_cell? _ _ hw314_0; first | rwa [add_block] at this | exact this) GW316.out) | (rw [add_block]; exact Nat.ne_of_lt (Nat.lt_of_lt_of_le (by have := World.block_lt_of_cell? _ _ hw314_0; first | rwa [add_block] at this | exact this) GW316.out)) | (show (Addr.add _ _).block ≠ _; rw [add_block]; exact Nat.ne_of_lt (Nat.lt_of_lt_of_le (by have := World.block_lt_of_cell? _ _ hw314_0; first | rwa [add_block] at this | exact this) GW316.out)) | (dsimp only; exact Nat.ne_of_lt (Nat.lt_of_lt_of_le (by have := World.block_lt_of_cell? _ _ hw314_0; first | rwa [add_block] at this | exact this) GW316.out))) _).trans (((cell_far (p := ⟨gb316, _, none⟩) (by first | exact Nat.ne_of_lt (Nat.lt_of_lt_of_le (by have := World.block_lt_of_cell? _ _ hw314_0; first | rwa [add_block] at this | exact this) GW316.out) | (rw [add_block]; exact Nat.ne_of_lt (Nat.lt_of_lt_of_le (by have := World.block_lt_of_cell? _ _ hw314_0; first | rwa [add_block] at this | exact this) GW316.out)) | (show (Addr.add _ _).block ≠ _; rw [add_block]; exact Nat.ne_of_lt (Nat.lt_of_lt_of_le (by have := World.block_lt_of_cell? _ _ hw314_0; first | rwa [add_block] at this | exact this) GW316.out)) | (dsimp only; exact Nat.ne_of_lt (Nat.lt_of_lt_of_le (by have := World.block_lt_of_cell? _ _ hw314_0; first | rwa [add_block] at this | exact this) GW316.out))) _).trans (hHeld.2.2.2.2.2.1)))), ((cell_far (p := ⟨gb316, _, none⟩) (by first | exact Nat.ne_of_lt (Nat.lt_of_lt_of_le (by have := World.block_lt_of_cell? _ _ hw314_1; first | rwa [add_block] at this | exact this) GW316.out) | (rw [add_block]; exact Nat.ne_of_lt (Nat.lt_of_lt_of_le (by have := World.block_lt_of_cell? _ _ hw314_1; first | rwa [add_block] at this | exact this) GW316.out)) | (show (Addr.add _ _).block ≠ _; rw [add_block]; exact Nat.ne_of_lt (Nat.lt_of_lt_of_le (by have := World.block_lt_of_cell? _ _ hw314_1; first | rwa [add_block] at this | exact this) GW316.out)) | (dsimp only; exact Nat.ne_of_lt (Nat.lt_of_lt_of_le (by have := World.block_lt_of_cell? _ _ hw314_1; first | rwa [add_block] at this | exact this) GW316.out))) _).trans (((cell_far (p := ⟨gb316, _, none⟩) (by first | exact Nat.ne_of_lt (Nat.lt_of_lt_of_le (by have := World.block_lt_of_cell? _ _ hw314_1; first | rwa [add_block] at this | exact this) GW316.out) | (rw [add_block]; exact Nat.ne_of_lt (Nat.lt_of_lt_of_le (by have := World.block_lt_of_cell? _ _ hw314_1; first | rwa [add_block] at this | exact this) GW316.out)) | (show (Addr.add _ _).block ≠ _; rw [add_block]; exact Nat.ne_of_lt (Nat.lt_of_lt_of_le (by have := World.block_lt_of_cell? _ _ hw314_1; first | rwa [add_block] at this | exact this) GW316.out)) | (dsimp only; exact Nat.ne_of_lt (Nat.lt_of_lt_of_le (by have := World.block_lt_of_cell? _ _ hw314_1; first | rwa [add_block] at this | exact this) GW316.out))) _).trans (hHeld.2.2.2.2.2.2.1)))), ((cell_far (p := ⟨gb316, _, none⟩) (by first | exact Nat.ne_of_lt (Nat.lt_of_lt_of_le (by have := World.block_lt_of_cell? _ _ hw314_2; first | rwa [add_block] at this | exact this) GW316.out) | (rw [add_block]; exact Nat.ne_of_lt (Nat.lt_of_lt_of_le (by have := World.block_lt_of_cell? _ _ hw314_2; first | rwa [add_block] at this | exact this) GW316.out)) | (show (Addr.add _ _).block ≠ _; rw [add_block]; exact Nat.ne_of_lt (Nat.lt_of_lt_of_le (by have := World.block_lt_of_cell? _ _ hw314_2; first | rwa [add_block] at this | exact this) GW316.out)) | (dsimp only; exact Nat.ne_of_lt (Nat.lt_of_lt_of_le (by have := World.block_lt_of_cell? _ _ hw314_2; first | rwa [add_block] at this | exact this) GW316.out))) _).trans (((cell_far (p := ⟨gb316, _, none⟩) (by first | exact Nat.ne_of_lt (Nat.lt_of_lt_of_le (by have := World.block_lt_of_cell? _ _ hw314_2; first | rwa [add_block] at this | exact this) GW316.out) | (rw [add_block]; exact Nat.ne_of_lt (Nat.lt_of_lt_of_le (by have := World.block_lt_of_cell? _ _ hw314_2; first | rwa [add_block] at this | exact this) GW316.out)) | (show (Addr.add _ _).block ≠ _; rw [add_block]; exact Nat.ne_of_lt (Nat.lt_of_lt_of_le (by have := World.block_lt_of_cell? _ _ hw314_2; first | rwa [add_block] at this | exact this) GW316.out)) | (dsimp only; exact Nat.ne_of_lt (Nat.lt_of_lt_of_le (by have := World.block_lt_of_cell? _ _ hw314_2; first | rwa [add_block] at this | exact this) GW316.out))) _).trans (hHeld.2.2.2.2.2.2.2.1)))), ((cell_far (p := ⟨gb316, _, none⟩) (by first | exact Nat.ne_of_lt (Nat.lt_of_lt_of_le (by have := World.block_lt_of_cell? _ _ hw314_3; first | rwa [add_block] at this | exact this) GW316.out) | (rw [add_block]; exact Nat.ne_of_lt (Nat.lt_of_lt_of_le (by have := World.block_lt_of_cell? _ _ hw314_3; first | rwa [add_block] at this | exact this) GW316.out)) | (show (Addr.add _ _).block ≠ _; rw [add_block]; exact Nat.ne_of_lt (Nat.lt_of_lt_of_le (by have := World.block_lt_of_cell? _ _ hw314_3; first | rwa [add_block] at this | exact this) GW316.out)) | (dsimp only; exact Nat.ne_of_lt (Nat.lt_of_lt_of_le (by have := World.block_lt_of_cell? _ _ hw314_3; first | rwa [add_block] at this | exact this) GW316.out))) _).trans (((cell_far (p := ⟨gb316, _, none⟩) (by first | exact Nat.ne_of_lt (Nat.lt_of_lt_of_le (by have := World.block_lt_of_cell? _ _ hw314_3; first | rwa [add_block] at this | exact this) GW316.out) | (rw [add_block]; exact Nat.ne_of_lt (Nat.lt_of_lt_of_le (by have := World.block_lt_of_cell? _ _ hw314_3; first | rwa [add_block] at this | exact this) GW316.out)) | (show (Addr.add _ _).block ≠ _; rw [add_block]; exact Nat.ne_of_lt (Nat.lt_of_lt_of_le (by have := World.block_lt_of_cell? _ _ hw314_3; first | rwa [add_block] at this | exact this) GW316.out)) | (dsimp only; exact Nat.ne_of_lt (Nat.lt_of_lt_of_le (by have := World.block_lt_of_cell? _ _ hw314_3; first | rwa [add_block] at this | exact this) GW316.out))) _).trans (hHeld.2.2.2.2.2.2.2.2.1)))), ((cell_far (p := ⟨gb316, _, none⟩) (by first | exact Kd.own_blk (Kd.R_away HL313_0.out (fun _ hk => hk.2)) | (rw [add_block]; exact Kd.own_blk (Kd.R_away HL313_0.out (fun _ hk => hk.2))) | (show (Addr.add _ _).block ≠ _; rw [add_block]; exact Kd.own_blk (Kd.R_away HL313_0.out (fun _ hk => hk.2))) | (dsimp only; exact Kd.own_blk (Kd.R_away HL313_0.out (fun _ hk => hk.2)))) _).trans (((cell_far (p := ⟨gb316, _, none⟩) (by first | exact Kd.own_blk (Kd.R_away HL313_0.out (fun _ hk => hk.2)) | (rw [add_block]; exact Kd.own_blk (Kd.R_away HL313_0.out (fun _ hk => hk.2))) | (show (Addr.add _ _).block ≠ _; rw [add_block]; exact Kd.own_blk (Kd.R_away HL313_0.out (fun _ hk => hk.2))) | (dsimp only; exact Kd.own_blk (Kd.R_away HL313_0.out (fun _ hk => hk.2)))) _).trans (hHeld.2.2.2.2.2.2.2.2.2.1)))), ((cell_far (p := ⟨gb316, _, none⟩) (by first | exact Kd.own_blk (Kd.R_away HL313_0.out (fun _ hk => hk.2)) | (rw [add_block]; exact Kd.own_blk (Kd.R_away HL313_0.out (fun _ hk => hk.2))) | (show (Addr.add _ _).block ≠ _; rw [add_block]; exact Kd.own_blk (Kd.R_away HL313_0.out (fun _ hk => hk.2))) | (dsimp only; exact Kd.own_blk (Kd.R_away HL313_0.out (fun _ hk => hk.2)))) _).trans (((cell_far (p := ⟨gb316, _, none⟩) (by first | exact Kd.own_blk (Kd.R_away HL313_0.out (fun _ hk => hk.2)) | (rw [add_block]; exact Kd.own_blk (Kd.R_away HL313_0.out (fun _ hk => hk.2))) | (show (Addr.add _ _).block ≠ _; rw [add_block]; exact Kd.own_blk (Kd.R_away HL313_0.out (fun _ hk => hk.2))) | (dsimp only; exact Kd.own_blk (Kd.R_away HL313_0.out (fun _ hk => hk.2)))) _).trans (hHeld.2.2.2.2.2.2.2.2.2.2))))⟩ (fun hHeld => ?_)
                          clear hK K
                          refine done_ (done_of HT_.out (by kernel_rfl)) ?_
                          try go_wp2
                          have n0_ : Aside0 (Kd.R k43 43 ((w25.setCell ⟨gb316, 0, none⟩ (.int .i64 ((rd_T35 (rd_L4 t308 ((rd_T43 l1 a2).f0)) ((rd_T43 l1 a2).f1)).f0))).setCell ⟨gb316, 1, none⟩ (.int .i64 ((rd_T35 (rd_L4 t308 ((rd_T43 l1 a2).f0)) ((rd_T43 l1 a2).f1)).f1))) w.heap.size (fun _ => True) (.slice Ao21 t305.length co21) t305) := ⟨by (with_reducible repeat (first | apply Kd.R_alloc | apply Kd.R_drewN | apply Kd.R_drew)); exact Kd.R_mono (Kd.R_far (p := ⟨gb316, 1, none⟩) (Kd.R_far (p := ⟨gb316, 0, none⟩) (Kd.R_types HO307.out BK316.out (by decide)) (fun _ hk => hk.2) (.int .i64 ((rd_T35 (rd_L4 t308 ((rd_T43 l1 a2).f0)) ((rd_T43 l1 a2).f1)).f0))) (fun _ hk => hk.2) (.int .i64 ((rd_T35 (rd_L4 t308 ((rd_T43 l1 a2).f0)) ((rd_T43 l1 a2).f1)).f1))) (fun _ hk => trivial)⟩
                          have n1_ : Aside0 (Kd.S (Kd.slice 35 k35) 33 ((w25.setCell ⟨gb316, 0, none⟩ (.int .i64 ((rd_T35 (rd_L4 t308 ((rd_T43 l1 a2).f0)) ((rd_T43 l1 a2).f1)).f0))).setCell ⟨gb316, 1, none⟩ (.int .i64 ((rd_T35 (rd_L4 t308 ((rd_T43 l1 a2).f0)) ((rd_T43 l1 a2).f1)).f1))) w.heap.size (fun k_ => k_ ≠ gb316) (.slice (some ad313) t308.length co24) t308) := ⟨by (with_reducible repeat (first | apply Kd.S_alloc | apply Kd.S_drewN | apply Kd.S_drew)); exact Kd.S_mono (Kd.S_far (p := ⟨gb316, 1, none⟩) (Kd.S_far (p := ⟨gb316, 0, none⟩) (Kd.S_mono HO311.out (fun k_ hk => (⟨hk, hk.2⟩ : _ ∧ k_ ≠ gb316))) (fun _ hk => hk.2) (.int .i64 ((rd_T35 (rd_L4 t308 ((rd_T43 l1 a2).f0)) ((rd_T43 l1 a2).f1)).f0))) (fun _ hk => hk.2) (.int .i64 ((rd_T35 (rd_L4 t308 ((rd_T43 l1 a2).f0)) ((rd_T43 l1 a2).f1)).f1))) (fun _ hk => hk.1.2)⟩
                          have n2_ : Aside0 (Kd.R k35 35 ((w25.setCell ⟨gb316, 0, none⟩ (.int .i64 ((rd_T35 (rd_L4 t308 ((rd_T43 l1 a2).f0)) ((rd_T43 l1 a2).f1)).f0))).setCell ⟨gb316, 1, none⟩ (.int .i64 ((rd_T35 (rd_L4 t308 ((rd_T43 l1 a2).f0)) ((rd_T43 l1 a2).f1)).f1))) w.heap.size (fun k_ => some k_ ≠ (.slice (some ad313) t308.length co24 : Value).ownBlock ∧ k_ ≠ gb316) (.slice (some ad315) (rd_L4 t308 ((rd_T43 l1 a2).f0)).length c313_0) (rd_L4 t308 ((rd_T43 l1 a2).f0))) := ⟨by (with_reducible repeat (first | apply Kd.R_alloc | apply Kd.R_drewN | apply Kd.R_drew)); exact Kd.R_mono (Kd.R_far (p := ⟨gb316, 1, none⟩) (Kd.R_far (p := ⟨gb316, 0, none⟩) (Kd.R_mono HL313_0.out (fun k_ hk => (⟨hk, hk.2⟩ : _ ∧ k_ ≠ gb316))) (fun _ hk => hk.2) (.int .i64 ((rd_T35 (rd_L4 t308 ((rd_T43 l1 a2).f0)) ((rd_T43 l1 a2).f1)).f0))) (fun _ hk => hk.2) (.int .i64 ((rd_T35 (rd_L4 t308 ((rd_T43 l1 a2).f0)) ((rd_T43 l1 a2).f1)).f1))) (fun _ hk => ⟨hk.1.1.2, hk.1.2⟩)⟩
                          have n3_ : Aside0 (((w25.setCell ⟨gb316, 0, none⟩ (.int .i64 ((rd_T35 (rd_L4 t308 ((rd_T43 l1 a2).f0)) ((rd_T43 l1 a2).f1)).f0))).setCell ⟨gb316, 1, none⟩ (.int .i64 ((rd_T35 (rd_L4 t308 ((rd_T43 l1 a2).f0)) ((rd_T43 l1 a2).f1)).f1))).heap[gb316]? = some (.cells #[.int .i64 ((rd_T35 (rd_L4 t308 ((rd_T43 l1 a2).f0)) ((rd_T43 l1 a2).f1)).f0), .int .i64 ((rd_T35 (rd_L4 t308 ((rd_T43 l1 a2).f0)) ((rd_T43 l1 a2).f1)).f1)] 35 (0, 0))) := ⟨by (with_reducible repeat (first | refine blk_drewN ?_ _ | refine blk_drew ?_ | refine blk_alloc ?_ _)); refine blk_put (cs := #[.int .i64 ((rd_T35 (rd_L4 t308 ((rd_T43 l1 a2).f0)) ((rd_T43 l1 a2).f1)).f0), .int .i64 0]) ?_ 1 _ rfl; (with_reducible repeat (first | refine blk_drewN ?_ _ | refine blk_drew ?_ | refine blk_alloc ?_ _)); refine blk_put (cs := #[.int .i64 0, .int .i64 0]) ?_ 0 _ rfl; (with_reducible repeat (first | refine blk_drewN ?_ _ | refine blk_drew ?_ | refine blk_alloc ?_ _)); exact BK316.out⟩
                          have n4_ : Aside0 (Below w.heap.size w ((w25.setCell ⟨gb316, 0, none⟩ (.int .i64 ((rd_T35 (rd_L4 t308 ((rd_T43 l1 a2).f0)) ((rd_T43 l1 a2).f1)).f0))).setCell ⟨gb316, 1, none⟩ (.int .i64 ((rd_T35 (rd_L4 t308 ((rd_T43 l1 a2).f0)) ((rd_T43 l1 a2).f1)).f1)))) := ⟨by repeat (first | (with_reducible first | exact HB.out | apply below_alloc | apply pw_below_drewN | apply below_drew1 | refine below_set ?_ GE316.out) | exact HB.out)⟩
                          (try clear HO307)
                          (try clear HO311)
                          (try clear HL313_0)
                          (try clear BK316)
                          (try clear HB)
                          generalize ((w25.setCell ⟨gb316, 0, none⟩ (.int .i64 ((rd_T35 (rd_L4 t308 ((rd_T43 l1 a2).f0)) ((rd_T43 l1 a2).f1)).f0))).setCell ⟨gb316, 1, none⟩ (.int .i64 ((rd_T35 (rd_L4 t308 ((rd_T43 l1 a2).f0)) ((rd_T43 l1 a2).f1)).f1))) = w28 at n0_ n1_ n2_ n3_ n4_ ⊢
                          have HO307 := n0_
                          have HO311 := n1_
                          have HL313_0 := n2_
                          have BK316 := n3_
                          have HB := n4_
                          clear n0_ n1_ n2_ n3_ n4_
                          have n0_ := Aside0.mk (Kd.R_drew HO307.out)
                          have n1_ := Aside0.mk (Kd.S_drew HO311.out)
                          have n2_ := Aside0.mk (Kd.R_drew HL313_0.out)
                          have n3_ := Aside0.mk (blk_drew BK316.out)
                          have n4_ := Aside0.mk (below_drew1 HB.out)
                          clear HO307
                          clear HO311
                          clear HL313_0
                          clear BK316
                          clear HB
                          have HO307 := n0_
                          have HO311 := n1_
                          have HL313_0 := n2_
                          have BK316 := n3_
                          have HB := n4_
                          clear n0_ n1_ n2_ n3_ n4_
                          have p317 : 0 ≤ (a2 : Int) := of_decide_eq_true (by first | (with_reducible assumption) | assumption)
                          have q317 : a2 < (l1.length : Int) := of_decide_eq_true (by first | (with_reducible assumption) | assumption)
                          obtain ⟨ad317, e317, hx317_0, hx317_1, hx317_2, hx317_3⟩ := at_T43 HR1.out a2 p317 q317
                          have hw317_3 := hx317_3
                          have hw317_2 := hx317_2
                          have hw317_1 := hx317_1
                          have hw317_0 := hx317_0
                          obtain rfl : ad312 = ad317 := (by injection e317)
                          replace hx317_0 := (HB.out.cell (World.block_lt_of_cell? w _ hx317_0)).trans hx317_0
                          replace hx317_1 := (HB.out.cell (World.block_lt_of_cell? w _ hx317_1)).trans hx317_1
                          replace hx317_2 := (HB.out.cell (World.block_lt_of_cell? w _ hx317_2)).trans hx317_2
                          replace hx317_3 := (HB.out.cell (World.block_lt_of_cell? w _ hx317_3)).trans hx317_3
                          replace p317 := eq_true p317
                          replace q317 := eq_true q317
                          have p318 : 0 ≤ (a2 : Int) := of_decide_eq_true (by first | (with_reducible assumption) | assumption)
                          have q318 : a2 < (l1.length : Int) := of_decide_eq_true (by first | (with_reducible assumption) | assumption)
                          obtain ⟨ad318, e318, hx318_0, hx318_1, hx318_2, hx318_3⟩ := at_T43 HR1.out a2 p318 q318
                          have hw318_3 := hx318_3
                          have hw318_2 := hx318_2
                          have hw318_1 := hx318_1
                          have hw318_0 := hx318_0
                          obtain rfl : ad312 = ad318 := (by injection e318)
                          replace hx318_0 := (HB.out.cell (World.block_lt_of_cell? w _ hx318_0)).trans hx318_0
                          replace hx318_1 := (HB.out.cell (World.block_lt_of_cell? w _ hx318_1)).trans hx318_1
                          replace hx318_2 := (HB.out.cell (World.block_lt_of_cell? w _ hx318_2)).trans hx318_2
                          replace hx318_3 := (HB.out.cell (World.block_lt_of_cell? w _ hx318_3)).trans hx318_3
                          replace p318 := eq_true p318
                          replace q318 := eq_true q318
                          refine start_ (n := 20) (S := fun w' => w'.cell? ⟨gb316, 0, none⟩ = some (.int .i64 ((rd_T35 (rd_L4 t308 ((rd_T43 l1 a2).f0)) ((rd_T43 l1 a2).f1)).f0)) ∧ w'.cell? ⟨gb316, 1, none⟩ = some (.int .i64 ((rd_T35 (rd_L4 t308 ((rd_T43 l1 a2).f0)) ((rd_T43 l1 a2).f1)).f1)) ∧ w'.cell? (ad312.add ((a2).toNat * 4)) = some (.int .i64 ((rd_T43 l1 a2).f0)) ∧ w'.cell? ⟨(ad312.add ((a2).toNat * 4)).block, (ad312.add ((a2).toNat * 4)).off + 1, none⟩ = some (.int .i64 ((rd_T43 l1 a2).f1)) ∧ w'.cell? ⟨(ad312.add ((a2).toNat * 4)).block, (ad312.add ((a2).toNat * 4)).off + 2, none⟩ = some (.int .i64 ((rd_T43 l1 a2).f2)) ∧ w'.cell? ⟨(ad312.add ((a2).toNat * 4)).block, (ad312.add ((a2).toNat * 4)).off + 3, none⟩ = some (.int .i64 ((rd_T43 l1 a2).f3)) ∧ w'.cell? (ad312.add ((a2).toNat * 4)) = some (.int .i64 ((rd_T43 l1 a2).f0)) ∧ w'.cell? ⟨(ad312.add ((a2).toNat * 4)).block, (ad312.add ((a2).toNat * 4)).off + 1, none⟩ = some (.int .i64 ((rd_T43 l1 a2).f1)) ∧ w'.cell? ⟨(ad312.add ((a2).toNat * 4)).block, (ad312.add ((a2).toNat * 4)).off + 2, none⟩ = some (.int .i64 ((rd_T43 l1 a2).f2)) ∧ w'.cell? ⟨(ad312.add ((a2).toNat * 4)).block, (ad312.add ((a2).toNat * 4)).off + 3, none⟩ = some (.int .i64 ((rd_T43 l1 a2).f3))) (ds := []) #[false, false, false, false, false, false, false, false, false, false, false, false, false, false, false, false, false, false, false, false] (by kernel_rfl) rfl rfl ⟨(blk_cell BK316.out 0).trans rfl, (blk_cell BK316.out 1).trans rfl, ((HB.out.cell (World.block_lt_of_cell? w _ hw317_0)).trans hw317_0), ((HB.out.cell (World.block_lt_of_cell? w _ hw317_1)).trans hw317_1), ((HB.out.cell (World.block_lt_of_cell? w _ hw317_2)).trans hw317_2), ((HB.out.cell (World.block_lt_of_cell? w _ hw317_3)).trans hw317_3), ((HB.out.cell (World.block_lt_of_cell? w _ hw318_0)).trans hw318_0), ((HB.out.cell (World.block_lt_of_cell? w _ hw318_1)).trans hw318_1), ((HB.out.cell (World.block_lt_of_cell? w _ hw318_2)).trans hw318_2), ((HB.out.cell (World.block_lt_of_cell? w _ hw318_3)).trans hw318_3)⟩ (fun hHeld => ?_); refine with_tabW contradict_Implied.tab10 contradict_Implied.bits10 (fun HT_ HW_ => ?_)
                          generalize w28.drew = w29 at HO307 HO311 HL313_0 BK316 HB hx317_0 hx317_1 hx317_2 hx317_3 hx318_0 hx318_1 hx318_2 hx318_3 hHeld ⊢
                          refine pure_ (i := 0) (N := some 52) (v := ?_) (a' := ?_) #[true, false, false, false, false, false, false, false, false, false, false, false, false, false, false, false, false, false, false, false] rfl rfl (any_of HT_.out (by kernel_rfl)) (fun _ _ _ h => h) (Or.inl ⟨by rfl, ?_⟩) ?_ ?_
                          rotate_left
                          · intro w'
                            go_simp
                            with_reducible rfl
                          rotate_left
                          · simp only [Act.put, List.setIfInBounds_toArray, List.set_cons_zero, List.set_cons_succ, i64_w, i32_w]
                            rfl
                          refine pure_ (i := 2) (N := some 54) (v := ?_) (a' := ?_) #[true, false, true, false, false, false, false, false, false, false, false, false, false, false, false, false, false, false, false, false] rfl rfl (any_of HT_.out (by kernel_rfl)) (fun _ _ _ h => h) (Or.inl ⟨by rfl, ?_⟩) ?_ ?_
                          rotate_left
                          · intro w'
                            go_simp
                            with_reducible rfl
                          rotate_left
                          · simp only [Act.put, List.setIfInBounds_toArray, List.set_cons_zero, List.set_cons_succ, i64_w, i32_w]
                            rfl
                          refine pure_ (i := 3) (N := some 55) (v := ?_) (a' := ?_) #[true, false, true, true, false, false, false, false, false, false, false, false, false, false, false, false, false, false, false, false] rfl rfl (any_of HT_.out (by kernel_rfl)) (fun _ _ _ h => h) (Or.inl ⟨by rfl, ?_⟩) ?_ ?_
                          rotate_left
                          · intro w'
                            go_simp
                            with_reducible rfl
                          rotate_left
                          · simp only [Act.put, List.setIfInBounds_toArray, List.set_cons_zero, List.set_cons_succ, i64_w, i32_w]
                            rfl
                          refine pure_ (i := 4) (N := some 56) (v := ?_) (a' := ?_) #[true, false, true, true, true, false, false, false, false, false, false, false, false, false, false, false, false, false, false, false] rfl rfl (any_of HT_.out (by kernel_rfl)) (fun _ _ _ h => h) (Or.inl ⟨by rfl, ?_⟩) ?_ ?_
                          rotate_left
                          · intro w'
                            go_simp
                            with_reducible rfl
                          rotate_left
                          · simp only [Act.put, List.setIfInBounds_toArray, List.set_cons_zero, List.set_cons_succ, i64_w, i32_w]
                            rfl
                          refine pure_ (i := 5) (N := some 57) (v := ?_) (a' := ?_) #[true, false, true, true, true, true, false, false, false, false, false, false, false, false, false, false, false, false, false, false] rfl rfl (any_of HT_.out (by kernel_rfl)) (fun _ _ _ h => h) (Or.inl ⟨by rfl, ?_⟩) ?_ ?_
                          rotate_left
                          · intro w'
                            go_simp
                            with_reducible rfl
                          rotate_left
                          · simp only [Act.put, List.setIfInBounds_toArray, List.set_cons_zero, List.set_cons_succ, i64_w, i32_w]
                            rfl
                          refine take_ (i := 1) (N := some 53) (v := ?_) (a' := ?_) #[true, true, true, true, true, true, false, false, false, false, false, false, false, false, false, false, false, false, false, false] rfl rfl (take_ofW HT_.out HW_.out (by kernel_rfl)) (fun _ _ _ h => h) (Or.inl ⟨by rfl, ?_⟩) hHeld ?_ ?_
                          rotate_left
                          · rintro w' ⟨s0, s1, s2, s3, s4, s5, s6, s7, s8, s9⟩
                            go_simp
                            with_reducible rfl
                          rotate_left
                          · simp only [Act.put, List.setIfInBounds_toArray, List.set_cons_zero, List.set_cons_succ, i64_w, i32_w]
                            rfl
                          refine take_ (i := 6) (N := some 58) (v := ?_) (a' := ?_) #[true, true, true, true, true, true, true, false, false, false, false, false, false, false, false, false, false, false, false, false] rfl rfl (take_ofW HT_.out HW_.out (by kernel_rfl)) (fun _ _ _ h => h) (Or.inl ⟨by rfl, ?_⟩) hHeld ?_ ?_
                          rotate_left
                          · rintro w' ⟨s0, s1, s2, s3, s4, s5, s6, s7, s8, s9⟩
                            go_simp
                            with_reducible rfl
                          rotate_left
                          · simp only [Act.put, List.setIfInBounds_toArray, List.set_cons_zero, List.set_cons_succ, i64_w, i32_w]
                            rfl
                          refine pure_ (i := 7) (N := some 59) (v := ?_) (a' := ?_) #[true, true, true, true, true, true, true, true, false, false, false, false, false, false, false, false, false, false, false, false] rfl rfl (any_of HT_.out (by kernel_rfl)) (fun _ _ _ h => h) (Or.inl ⟨by rfl, ?_⟩) ?_ ?_
                          rotate_left
                          · intro w'
                            go_simp
                            with_reducible rfl
                          rotate_left
                          · simp only [Act.put, List.setIfInBounds_toArray, List.set_cons_zero, List.set_cons_succ, i64_w, i32_w]
                            rfl
                          refine pure_ (i := 8) (N := some 60) (v := ?_) (a' := ?_) #[true, true, true, true, true, true, true, true, true, false, false, false, false, false, false, false, false, false, false, false] rfl rfl (any_of HT_.out (by kernel_rfl)) (fun _ _ _ h => h) (Or.inl ⟨by rfl, ?_⟩) ?_ ?_
                          rotate_left
                          · intro w'
                            go_simp
                            with_reducible rfl
                          rotate_left
                          · simp only [Act.put, List.setIfInBounds_toArray, List.set_cons_zero, List.set_cons_succ, i64_w, i32_w]
                            rfl
                          refine pure_ (i := 9) (N := some 61) (v := ?_) (a' := ?_) #[true, true, true, true, true, true, true, true, true, true, false, false, false, false, false, false, false, false, false, false] rfl rfl (any_of HT_.out (by kernel_rfl)) (fun _ _ _ h => h) (Or.inl ⟨by rfl, ?_⟩) ?_ ?_
                          rotate_left
                          · intro w'
                            go_simp
                            with_reducible rfl
                          rotate_left
                          · simp only [Act.put, List.setIfInBounds_toArray, List.set_cons_zero, List.set_cons_succ, i64_w, i32_w]
                            rfl
                          refine pure_ (i := 11) (N := some 63) (v := ?_) (a' := ?_) #[true, true, true, true, true, true, true, true, true, true, false, true, false, false, false, false, false, false, false, false] rfl rfl (any_of HT_.out (by kernel_rfl)) (fun _ _ _ h => h) (Or.inl ⟨by rfl, ?_⟩) ?_ ?_
                          rotate_left
                          · intro w'
                            go_simp
                            with_reducible rfl
                          rotate_left
                          · simp only [Act.put, List.setIfInBounds_toArray, List.set_cons_zero, List.set_cons_succ, i64_w, i32_w]
                            rfl
                          refine pure_ (i := 12) (N := some 64) (v := ?_) (a' := ?_) #[true, true, true, true, true, true, true, true, true, true, false, true, true, false, false, false, false, false, false, false] rfl rfl (any_of HT_.out (by kernel_rfl)) (fun _ _ _ h => h) (Or.inl ⟨by rfl, ?_⟩) ?_ ?_
                          rotate_left
                          · intro w'
                            go_simp
                            with_reducible rfl
                          rotate_left
                          · simp only [Act.put, List.setIfInBounds_toArray, List.set_cons_zero, List.set_cons_succ, i64_w, i32_w]
                            rfl
                          refine pure_ (i := 13) (N := some 65) (v := ?_) (a' := ?_) #[true, true, true, true, true, true, true, true, true, true, false, true, true, true, false, false, false, false, false, false] rfl rfl (any_of HT_.out (by kernel_rfl)) (fun _ _ _ h => h) (Or.inl ⟨by rfl, ?_⟩) ?_ ?_
                          rotate_left
                          · intro w'
                            go_simp
                            with_reducible rfl
                          rotate_left
                          · simp only [Act.put, List.setIfInBounds_toArray, List.set_cons_zero, List.set_cons_succ, i64_w, i32_w]
                            rfl
                          refine pure_ (i := 14) (N := some 66) (v := ?_) (a' := ?_) #[true, true, true, true, true, true, true, true, true, true, false, true, true, true, true, false, false, false, false, false] rfl rfl (any_of HT_.out (by kernel_rfl)) (fun _ _ _ h => h) (Or.inl ⟨by rfl, ?_⟩) ?_ ?_
                          rotate_left
                          · intro w'
                            go_simp
                            with_reducible rfl
                          rotate_left
                          · simp only [Act.put, List.setIfInBounds_toArray, List.set_cons_zero, List.set_cons_succ, i64_w, i32_w]
                            rfl
                          refine take_ (i := 10) (N := some 62) (v := ?_) (a' := ?_) #[true, true, true, true, true, true, true, true, true, true, true, true, true, true, true, false, false, false, false, false] rfl rfl (take_ofW HT_.out HW_.out (by kernel_rfl)) (fun _ _ _ h => h) (Or.inl ⟨by rfl, ?_⟩) hHeld ?_ ?_
                          rotate_left
                          · rintro w' ⟨s0, s1, s2, s3, s4, s5, s6, s7, s8, s9⟩
                            go_simp
                            with_reducible rfl
                          rotate_left
                          · simp only [Act.put, List.setIfInBounds_toArray, List.set_cons_zero, List.set_cons_succ, i64_w, i32_w]
                            rfl
                          refine take_ (i := 15) (N := some 67) (v := ?_) (a' := ?_) #[true, true, true, true, true, true, true, true, true, true, true, true, true, true, true, true, false, false, false, false] rfl rfl (take_ofW HT_.out HW_.out (by kernel_rfl)) (fun _ _ _ h => h) (Or.inl ⟨by rfl, ?_⟩) hHeld ?_ ?_
                          rotate_left
                          · rintro w' ⟨s0, s1, s2, s3, s4, s5, s6, s7, s8, s9⟩
                            go_simp
                            with_reducible rfl
                          rotate_left
                          · simp only [Act.put, List.setIfInBounds_toArray, List.set_cons_zero, List.set_cons_succ, i64_w, i32_w]
                            rfl
                          refine pure_ (i := 16) (N := some 68) (v := ?_) (a' := ?_) #[true, true, true, true, true, true, true, true, true, true, true, true, true, true, true, true, true, false, false, false] rfl rfl (any_of HT_.out (by kernel_rfl)) (fun _ _ _ h => h) (Or.inl ⟨by rfl, ?_⟩) ?_ ?_
                          rotate_left
                          · intro w'
                            go_simp
                            with_reducible rfl
                          rotate_left
                          · simp only [Act.put, List.setIfInBounds_toArray, List.set_cons_zero, List.set_cons_succ, i64_w, i32_w]
                            rfl
                          refine pure_ (i := 17) (N := some 69) (v := ?_) (a' := ?_) #[true, true, true, true, true, true, true, true, true, true, true, true, true, true, true, true, true, true, false, false] rfl rfl (any_of HT_.out (by kernel_rfl)) (fun _ _ _ h => h) (Or.inl ⟨by rfl, ?_⟩) ?_ ?_
                          rotate_left
                          · intro w'
                            go_simp
                            with_reducible rfl
                          rotate_left
                          · simp only [Act.put, List.setIfInBounds_toArray, List.set_cons_zero, List.set_cons_succ, i64_w, i32_w]
                            rfl
                          refine pure_ (i := 18) (N := some 6) (v := ?_) (a' := ?_) #[true, true, true, true, true, true, true, true, true, true, true, true, true, true, true, true, true, true, true, false] rfl rfl (any_of HT_.out (by kernel_rfl)) (fun _ _ _ h => h) (Or.inl ⟨by rfl, ?_⟩) ?_ ?_
                          rotate_left
                          · intro w'
                            go_simp
                            with_reducible rfl
                          rotate_left
                          · simp only [Act.put, List.setIfInBounds_toArray, List.set_cons_zero, List.set_cons_succ, i64_w, i32_w]
                            rfl
                          refine pure_ (i := 19) (N := some 7) (v := ?_) (a' := ?_) #[true, true, true, true, true, true, true, true, true, true, true, true, true, true, true, true, true, true, true, true] rfl rfl (any_of HT_.out (by kernel_rfl)) (fun _ _ _ h => h) (Or.inl ⟨by rfl, ?_⟩) ?_ ?_
                          rotate_left
                          · intro w'
                            go_simp
                            with_reducible rfl
                          rotate_left
                          · simp only [Act.put, List.setIfInBounds_toArray, List.set_cons_zero, List.set_cons_succ, i64_w, i32_w]
                            rfl
                          refine done_ (done_of HT_.out (by kernel_rfl)) ?_
                          try go_wp2
                          go_ret2
                          exact ⟨by first | rfl | (simp [errW_none, errW_some] <;> rfl) | (simp [*, errW_none, errW_some] <;> rfl), by repeat (first | (with_reducible first | exact HB.out | apply below_alloc | apply pw_below_drewN | apply below_drew1 | refine below_set ?_ GE316.out) | exact HB.out)⟩
                        · rw [if_neg c19] at H
                          have c19b0 : decide (((rd_T43 l1 a2).f2) ≤ ((rd_T35 (rd_L4 t308 ((rd_T43 l1 a2).f0)) ((rd_T43 l1 a2).f1)).f0)) = false := decide_eq_false c19
                          clear c19
                          simp only [Option.some.injEq, Prod.mk.injEq] at H
                          obtain ⟨rfl, rfl⟩ := H
                          try go_wp2_with (first | ((with_reducible refine gate_callee (f := 30) rfl ?_); refine goesL_ (some 30) rfl rfl Try.func30 (by kernel_rfl) rfl #[.slice A1 l1.length c1, .int .i64 a2] rfl (by (try simp only [List.map_toArray, List.map_cons, List.map_nil]); first | done | rfl | (simp only [List.length_drop, List.length_take]; rfl)) ?_; (with_reducible refine (contradict_without.calls kj5 _ _ l1 a2 t305 _ ?side1 ?side2 A10.out).mono ?_); (case side1 => repeat (first | exact (Kd.C_below HR1.out HB.out) | (with_reducible refine Kd.C_alloc ?_ _) | (with_reducible refine Kd.C_drewN ?_ _) | (with_reducible refine Kd.C_drew ?_))); (case side2 => exact HC1.out); rintro e w30 ⟨v306, rfl, ho0, hb⟩; refine ⟨_, rfl, ?_⟩; have n0_ := Aside0.mk (Kd.R_lower ho0 (below_size (by repeat (first | (with_reducible first | exact HB.out | apply below_alloc | apply pw_below_drewN | apply below_drew1) | exact HB.out)))); have n1_ := Aside0.mk (below_step (by repeat (first | (with_reducible first | exact HB.out | apply below_alloc | apply pw_below_drewN | apply below_drew1) | exact HB.out)) hb); clear HB; have HO307 := n0_; have HB := n1_; clear n0_ n1_; (try clear hb); (try clear hb2); (try clear hk); (try clear hi); (try clear ho0); obtain ⟨Ao31, co31, eo31⟩ := Kd.R_slice HO307.out; subst eo31) | ((with_reducible refine gate_callee (f := 11) rfl ?_); refine goesL_ (some 31) rfl rfl Try.func11 (by kernel_rfl) rfl #[.int .i64 a0, .slice Ao31 t305.length co31] rfl (by (try simp only [List.map_toArray, List.map_cons, List.map_nil]); first | done | rfl | (simp only [List.length_drop, List.length_take]; rfl)) ?_; (with_reducible refine (chron_Tightest.calls kj5 a0 _ _ t305 t308 t309 _ ?side1 ?side2 A11.out).mono ?_); (case side1 => repeat (first | exact (Kd.R_reads' HO307.out).2.2 | (with_reducible refine Kd.C_alloc ?_ _) | (with_reducible refine Kd.C_drewN ?_ _) | (with_reducible refine Kd.C_drew ?_))); (case side2 => exact (Kd.R_reads' HO307.out).2.1); rintro e w32 ⟨v310, rfl, ho0, hb⟩; refine ⟨_, rfl, ?_⟩; have n0_ := Aside0.mk (Kd.R_below (by (with_reducible repeat (first | apply Kd.R_alloc | apply Kd.R_drewN | apply Kd.R_drew)); exact HO307.out) hb); have n1_ := Aside0.mk (Kd.S_lower ho0 (below_size (by repeat (first | (with_reducible first | exact HB.out | apply below_alloc | apply pw_below_drewN | apply below_drew1) | exact HB.out)))); have n2_ := Aside0.mk (below_step (by repeat (first | (with_reducible first | exact HB.out | apply below_alloc | apply pw_below_drewN | apply below_drew1) | exact HB.out)) hb); clear HO307; clear HB; have HO307 := n0_; have HO311 := n1_; have HB := n2_; clear n0_ n1_ n2_; (try clear hb); (try clear hb2); (try clear hk); (try clear hi); (try clear ho0)))
                          have n0_ := Aside0.mk (Kd.R_drew HO307.out)
                          have n1_ := Aside0.mk (Kd.S_drew HO311.out)
                          have n2_ := Aside0.mk (below_drew1 HB.out)
                          clear HO307
                          clear HO311
                          clear HB
                          have HO307 := n0_
                          have HO311 := n1_
                          have HB := n2_
                          clear n0_ n1_ n2_
                          have p312 : 0 ≤ (a2 : Int) := of_decide_eq_true (by first | (with_reducible assumption) | assumption)
                          have q312 : a2 < (l1.length : Int) := of_decide_eq_true (by first | (with_reducible assumption) | assumption)
                          obtain ⟨ad312, e312, hx312_0, hx312_1, hx312_2, hx312_3⟩ := at_T43 HR1.out a2 p312 q312
                          have hw312_3 := hx312_3
                          have hw312_2 := hx312_2
                          have hw312_1 := hx312_1
                          have hw312_0 := hx312_0
                          cases e312
                          replace hx312_0 := (HB.out.cell (World.block_lt_of_cell? w _ hx312_0)).trans hx312_0
                          replace hx312_1 := (HB.out.cell (World.block_lt_of_cell? w _ hx312_1)).trans hx312_1
                          replace hx312_2 := (HB.out.cell (World.block_lt_of_cell? w _ hx312_2)).trans hx312_2
                          replace hx312_3 := (HB.out.cell (World.block_lt_of_cell? w _ hx312_3)).trans hx312_3
                          replace p312 := eq_true p312
                          replace q312 := eq_true q312
                          obtain ⟨Ao34, co34, eo34⟩ := Kd.S_slice HO311.out
                          (first | subst eo34 | (injection eo34 with f1_ f2_ f3_; have f4_ := f1_.symm; have f5_ := f3_.symm; clear f1_ f2_ f3_; subst f4_; subst f5_))
                          have p313 : 0 ≤ (((rd_T43 l1 a2).f0) : Int) := of_decide_eq_true (by first | (with_reducible assumption) | assumption)
                          have q313 : ((rd_T43 l1 a2).f0) < (t308.length : Int) := of_decide_eq_true (by first | (with_reducible assumption) | assumption)
                          obtain ⟨ad313, A313_0, c313_0, e313, hx313_0, hl313_0, hi313_0⟩ := at_L4 (Kd.S_reads' HO311.out).2.2 ((rd_T43 l1 a2).f0) p313 q313
                          cases e313
                          obtain ⟨ce313, hce313, hMe313, hcc313⟩ := Kd.S_get HO311.out [] ((rd_T43 l1 a2).f0) p313 (by first | exact q313 | exact of_decide_eq_true (by first | (with_reducible assumption) | assumption) | (have e_ := (Kd.S_reads' HO311.out).1; omega))
                          obtain ⟨ve313_0, rfl, ge313_0⟩ := hMe313
                          have hv313_0 := hcc313 0 _ rfl
                          rw [Nat.add_zero, show ((Kd.slice 35 k35)).sz = 1 from rfl, Nat.mul_one] at hv313_0
                          replace hv313_0 := Option.some.inj (hv313_0.symm.trans hx313_0)
                          rw [hv313_0] at ge313_0
                          have HL313_0 := Aside0.mk (show Kd.R k35 35 _ _ _ _ (rd_L4 t308 ((rd_T43 l1 a2).f0)) from ge313_0)
                          clear hv313_0 ge313_0
                          clear hcc313 hce313
                          have HR313_0 := Aside0.mk hi313_0
                          have HC313_0 := Aside0.mk hl313_0
                          clear hi313_0 hl313_0
                          replace p313 := eq_true p313
                          replace q313 := eq_true q313
                          have p314 : 0 ≤ (a2 : Int) := of_decide_eq_true (by first | (with_reducible assumption) | assumption)
                          have q314 : a2 < (l1.length : Int) := of_decide_eq_true (by first | (with_reducible assumption) | assumption)
                          obtain ⟨ad314, e314, hx314_0, hx314_1, hx314_2, hx314_3⟩ := at_T43 HR1.out a2 p314 q314
                          have hw314_3 := hx314_3
                          have hw314_2 := hx314_2
                          have hw314_1 := hx314_1
                          have hw314_0 := hx314_0
                          obtain rfl : ad312 = ad314 := (by injection e314)
                          replace hx314_0 := (HB.out.cell (World.block_lt_of_cell? w _ hx314_0)).trans hx314_0
                          replace hx314_1 := (HB.out.cell (World.block_lt_of_cell? w _ hx314_1)).trans hx314_1
                          replace hx314_2 := (HB.out.cell (World.block_lt_of_cell? w _ hx314_2)).trans hx314_2
                          replace hx314_3 := (HB.out.cell (World.block_lt_of_cell? w _ hx314_3)).trans hx314_3
                          replace p314 := eq_true p314
                          replace q314 := eq_true q314
                          have p315 : 0 ≤ (((rd_T43 l1 a2).f1) : Int) := of_decide_eq_true (by first | (with_reducible assumption) | assumption)
                          have q315 : ((rd_T43 l1 a2).f1) < ((rd_L4 t308 ((rd_T43 l1 a2).f0)).length : Int) := of_decide_eq_true (by first | (with_reducible assumption) | assumption)
                          obtain ⟨ad315, e315, hx315_0, hx315_1⟩ := at_T35 (by repeat (first | (with_reducible exact HR313_0.out) | (with_reducible refine Kd.C_alloc ?_ _) | (with_reducible refine Kd.C_drewN ?_ _) | (with_reducible refine Kd.C_drew ?_) | exact HR313_0.out)) ((rd_T43 l1 a2).f1) p315 q315
                          cases e315
                          replace p315 := eq_true p315
                          replace q315 := eq_true q315
                          refine start_ (n := 17) (S := fun w' => w'.cell? (ad312.add ((a2).toNat * 4)) = some (.int .i64 ((rd_T43 l1 a2).f0)) ∧ w'.cell? ⟨(ad312.add ((a2).toNat * 4)).block, (ad312.add ((a2).toNat * 4)).off + 1, none⟩ = some (.int .i64 ((rd_T43 l1 a2).f1)) ∧ w'.cell? ⟨(ad312.add ((a2).toNat * 4)).block, (ad312.add ((a2).toNat * 4)).off + 2, none⟩ = some (.int .i64 ((rd_T43 l1 a2).f2)) ∧ w'.cell? ⟨(ad312.add ((a2).toNat * 4)).block, (ad312.add ((a2).toNat * 4)).off + 3, none⟩ = some (.int .i64 ((rd_T43 l1 a2).f3)) ∧ w'.cell? (ad313.add (((rd_T43 l1 a2).f0)).toNat) = some (.slice (some ad315) (rd_L4 t308 ((rd_T43 l1 a2).f0)).length c313_0) ∧ w'.cell? (ad312.add ((a2).toNat * 4)) = some (.int .i64 ((rd_T43 l1 a2).f0)) ∧ w'.cell? ⟨(ad312.add ((a2).toNat * 4)).block, (ad312.add ((a2).toNat * 4)).off + 1, none⟩ = some (.int .i64 ((rd_T43 l1 a2).f1)) ∧ w'.cell? ⟨(ad312.add ((a2).toNat * 4)).block, (ad312.add ((a2).toNat * 4)).off + 2, none⟩ = some (.int .i64 ((rd_T43 l1 a2).f2)) ∧ w'.cell? ⟨(ad312.add ((a2).toNat * 4)).block, (ad312.add ((a2).toNat * 4)).off + 3, none⟩ = some (.int .i64 ((rd_T43 l1 a2).f3)) ∧ w'.cell? (ad315.add ((((rd_T43 l1 a2).f1)).toNat * 2)) = some (.int .i64 ((rd_T35 (rd_L4 t308 ((rd_T43 l1 a2).f0)) ((rd_T43 l1 a2).f1)).f0)) ∧ w'.cell? ⟨(ad315.add ((((rd_T43 l1 a2).f1)).toNat * 2)).block, (ad315.add ((((rd_T43 l1 a2).f1)).toNat * 2)).off + 1, none⟩ = some (.int .i64 ((rd_T35 (rd_L4 t308 ((rd_T43 l1 a2).f0)) ((rd_T43 l1 a2).f1)).f1))) (ds := []) #[false, false, false, false, false, false, false, false, false, false, false, false, false, false, false, false, false] (by kernel_rfl) rfl rfl ⟨((HB.out.cell (World.block_lt_of_cell? w _ hw312_0)).trans hw312_0), ((HB.out.cell (World.block_lt_of_cell? w _ hw312_1)).trans hw312_1), ((HB.out.cell (World.block_lt_of_cell? w _ hw312_2)).trans hw312_2), ((HB.out.cell (World.block_lt_of_cell? w _ hw312_3)).trans hw312_3), hx313_0, ((HB.out.cell (World.block_lt_of_cell? w _ hw314_0)).trans hw314_0), ((HB.out.cell (World.block_lt_of_cell? w _ hw314_1)).trans hw314_1), ((HB.out.cell (World.block_lt_of_cell? w _ hw314_2)).trans hw314_2), ((HB.out.cell (World.block_lt_of_cell? w _ hw314_3)).trans hw314_3), hx315_0, hx315_1⟩ (fun hHeld => ?_); refine with_tabW contradict_Implied.tab9 contradict_Implied.bits9 (fun HT_ HW_ => ?_)
                          generalize w32.drew = w33 at HO307 HO311 HB HL313_0 HR313_0 hx312_0 hx312_1 hx312_2 hx312_3 hx313_0 hx314_0 hx314_1 hx314_2 hx314_3 hx315_0 hx315_1 hHeld ⊢
                          refine pure_ (i := 0) (N := some 37) (v := ?_) (a' := ?_) #[true, false, false, false, false, false, false, false, false, false, false, false, false, false, false, false, false] rfl rfl (any_of HT_.out (by kernel_rfl)) (fun _ _ _ h => h) (Or.inl ⟨by rfl, ?_⟩) ?_ ?_
                          rotate_left
                          · intro w'
                            go_simp
                            with_reducible rfl
                          rotate_left
                          · simp only [Act.put, List.setIfInBounds_toArray, List.set_cons_zero, List.set_cons_succ, i64_w, i32_w]
                            rfl
                          refine pure_ (i := 1) (N := some 38) (v := ?_) (a' := ?_) #[true, true, false, false, false, false, false, false, false, false, false, false, false, false, false, false, false] rfl rfl (any_of HT_.out (by kernel_rfl)) (fun _ _ _ h => h) (Or.inl ⟨by rfl, ?_⟩) ?_ ?_
                          rotate_left
                          · intro w'
                            go_simp
                            with_reducible rfl
                          rotate_left
                          · simp only [Act.put, List.setIfInBounds_toArray, List.set_cons_zero, List.set_cons_succ, i64_w, i32_w]
                            rfl
                          refine pure_ (i := 2) (N := some 39) (v := ?_) (a' := ?_) #[true, true, true, false, false, false, false, false, false, false, false, false, false, false, false, false, false] rfl rfl (any_of HT_.out (by kernel_rfl)) (fun _ _ _ h => h) (Or.inl ⟨by rfl, ?_⟩) ?_ ?_
                          rotate_left
                          · intro w'
                            go_simp
                            with_reducible rfl
                          rotate_left
                          · simp only [Act.put, List.setIfInBounds_toArray, List.set_cons_zero, List.set_cons_succ, i64_w, i32_w]
                            rfl
                          refine pure_ (i := 3) (N := some 40) (v := ?_) (a' := ?_) #[true, true, true, true, false, false, false, false, false, false, false, false, false, false, false, false, false] rfl rfl (any_of HT_.out (by kernel_rfl)) (fun _ _ _ h => h) (Or.inl ⟨by rfl, ?_⟩) ?_ ?_
                          rotate_left
                          · intro w'
                            go_simp
                            with_reducible rfl
                          rotate_left
                          · simp only [Act.put, List.setIfInBounds_toArray, List.set_cons_zero, List.set_cons_succ, i64_w, i32_w]
                            rfl
                          refine pure_ (i := 4) (N := some 41) (v := ?_) (a' := ?_) #[true, true, true, true, true, false, false, false, false, false, false, false, false, false, false, false, false] rfl rfl (any_of HT_.out (by kernel_rfl)) (fun _ _ _ h => h) (Or.inl ⟨by rfl, ?_⟩) ?_ ?_
                          rotate_left
                          · intro w'
                            go_simp
                            with_reducible rfl
                          rotate_left
                          · simp only [Act.put, List.setIfInBounds_toArray, List.set_cons_zero, List.set_cons_succ, i64_w, i32_w]
                            rfl
                          refine pure_ (i := 8) (N := some 45) (v := ?_) (a' := ?_) #[true, true, true, true, true, false, false, false, true, false, false, false, false, false, false, false, false] rfl rfl (any_of HT_.out (by kernel_rfl)) (fun _ _ _ h => h) (Or.inl ⟨by rfl, ?_⟩) ?_ ?_
                          rotate_left
                          · intro w'
                            go_simp
                            with_reducible rfl
                          rotate_left
                          · simp only [Act.put, List.setIfInBounds_toArray, List.set_cons_zero, List.set_cons_succ, i64_w, i32_w]
                            rfl
                          refine pure_ (i := 9) (N := some 46) (v := ?_) (a' := ?_) #[true, true, true, true, true, false, false, false, true, true, false, false, false, false, false, false, false] rfl rfl (any_of HT_.out (by kernel_rfl)) (fun _ _ _ h => h) (Or.inl ⟨by rfl, ?_⟩) ?_ ?_
                          rotate_left
                          · intro w'
                            go_simp
                            with_reducible rfl
                          rotate_left
                          · simp only [Act.put, List.setIfInBounds_toArray, List.set_cons_zero, List.set_cons_succ, i64_w, i32_w]
                            rfl
                          refine pure_ (i := 10) (N := some 47) (v := ?_) (a' := ?_) #[true, true, true, true, true, false, false, false, true, true, true, false, false, false, false, false, false] rfl rfl (any_of HT_.out (by kernel_rfl)) (fun _ _ _ h => h) (Or.inl ⟨by rfl, ?_⟩) ?_ ?_
                          rotate_left
                          · intro w'
                            go_simp
                            with_reducible rfl
                          rotate_left
                          · simp only [Act.put, List.setIfInBounds_toArray, List.set_cons_zero, List.set_cons_succ, i64_w, i32_w]
                            rfl
                          refine pure_ (i := 11) (N := some 48) (v := ?_) (a' := ?_) #[true, true, true, true, true, false, false, false, true, true, true, true, false, false, false, false, false] rfl rfl (any_of HT_.out (by kernel_rfl)) (fun _ _ _ h => h) (Or.inl ⟨by rfl, ?_⟩) ?_ ?_
                          rotate_left
                          · intro w'
                            go_simp
                            with_reducible rfl
                          rotate_left
                          · simp only [Act.put, List.setIfInBounds_toArray, List.set_cons_zero, List.set_cons_succ, i64_w, i32_w]
                            rfl
                          refine take_ (i := 5) (N := some 42) (v := ?_) (a' := ?_) #[true, true, true, true, true, true, false, false, true, true, true, true, false, false, false, false, false] rfl rfl (take_ofW HT_.out HW_.out (by kernel_rfl)) (fun _ _ _ h => h) (Or.inl ⟨by rfl, ?_⟩) hHeld ?_ ?_
                          rotate_left
                          · rintro w' ⟨s0, s1, s2, s3, s4, s5, s6, s7, s8, s9, s10⟩
                            go_simp
                            with_reducible rfl
                          rotate_left
                          · simp only [Act.put, List.setIfInBounds_toArray, List.set_cons_zero, List.set_cons_succ, i64_w, i32_w]
                            rfl
                          refine pure_ (i := 6) (N := some 43) (v := ?_) (a' := ?_) #[true, true, true, true, true, true, true, false, true, true, true, true, false, false, false, false, false] rfl rfl (any_of HT_.out (by kernel_rfl)) (fun _ _ _ h => h) (Or.inl ⟨by rfl, ?_⟩) ?_ ?_
                          rotate_left
                          · intro w'
                            go_simp
                            with_reducible rfl
                          rotate_left
                          · simp only [Act.put, List.setIfInBounds_toArray, List.set_cons_zero, List.set_cons_succ, i64_w, i32_w]
                            rfl
                          refine take_ (i := 7) (N := some 44) (v := ?_) (a' := ?_) #[true, true, true, true, true, true, true, true, true, true, true, true, false, false, false, false, false] rfl rfl (take_ofW HT_.out HW_.out (by kernel_rfl)) (fun _ _ _ h => h) (Or.inl ⟨by rfl, ?_⟩) hHeld ?_ ?_
                          rotate_left
                          · rintro w' ⟨s0, s1, s2, s3, s4, s5, s6, s7, s8, s9, s10⟩
                            go_simp
                            with_reducible rfl
                          rotate_left
                          · simp only [Act.put, List.setIfInBounds_toArray, List.set_cons_zero, List.set_cons_succ, i64_w, i32_w]
                            rfl
                          refine take_ (i := 12) (N := some 49) (v := ?_) (a' := ?_) #[true, true, true, true, true, true, true, true, true, true, true, true, true, false, false, false, false] rfl rfl (take_ofW HT_.out HW_.out (by kernel_rfl)) (fun _ _ _ h => h) (Or.inl ⟨by rfl, ?_⟩) hHeld ?_ ?_
                          rotate_left
                          · rintro w' ⟨s0, s1, s2, s3, s4, s5, s6, s7, s8, s9, s10⟩
                            go_simp
                            with_reducible rfl
                          rotate_left
                          · simp only [Act.put, List.setIfInBounds_toArray, List.set_cons_zero, List.set_cons_succ, i64_w, i32_w]
                            rfl
                          refine pure_ (i := 13) (N := some 50) (v := ?_) (a' := ?_) #[true, true, true, true, true, true, true, true, true, true, true, true, true, true, false, false, false] rfl rfl (any_of HT_.out (by kernel_rfl)) (fun _ _ _ h => h) (Or.inl ⟨by rfl, ?_⟩) ?_ ?_
                          rotate_left
                          · intro w'
                            go_simp
                            with_reducible rfl
                          rotate_left
                          · simp only [Act.put, List.setIfInBounds_toArray, List.set_cons_zero, List.set_cons_succ, i64_w, i32_w]
                            rfl
                          refine take_ (i := 14) (N := some 51) (v := ?_) (a' := ?_) #[true, true, true, true, true, true, true, true, true, true, true, true, true, true, true, false, false] rfl rfl (take_ofW HT_.out HW_.out (by kernel_rfl)) (fun _ _ _ h => h) (Or.inl ⟨by rfl, ?_⟩) hHeld ?_ ?_
                          rotate_left
                          · rintro w' ⟨s0, s1, s2, s3, s4, s5, s6, s7, s8, s9, s10⟩
                            go_simp
                            with_reducible rfl
                          rotate_left
                          · simp only [Act.put, List.setIfInBounds_toArray, List.set_cons_zero, List.set_cons_succ, i64_w, i32_w]
                            rfl
                          refine one_ (i := 15) (N := some 11) #[true, true, true, true, true, true, true, true, true, true, true, true, true, true, true, true, false] rfl rfl (one_of HT_.out (by kernel_rfl)) (by decide) (fun K hK => ?_)
                          refine box_step ?hg (N := 11) ?hd (cs := #[.int .i64 0, .int .i64 0]) (t := 35) ?hr ?_; (case hd => rfl); (case hg => rfl); (case hr => first | (go_simp; done) | (go_simp; rfl))
                          intro gb316 hg w35 hbox hb
                          have HS4_ := (hb.cell (World.block_lt_of_cell? _ _ (hHeld.2.2.2.2.1))).trans (hHeld.2.2.2.2.1)
                          have HS9_ := (hb.cell (World.block_lt_of_cell? _ _ (hHeld.2.2.2.2.2.2.2.2.2.1))).trans (hHeld.2.2.2.2.2.2.2.2.2.1)
                          have HS10_ := (hb.cell (World.block_lt_of_cell? _ _ (hHeld.2.2.2.2.2.2.2.2.2.2))).trans (hHeld.2.2.2.2.2.2.2.2.2.2)
                          have n0_ := Aside0.mk (Kd.R_below (by (with_reducible repeat (first | apply Kd.R_alloc | apply Kd.R_drewN | apply Kd.R_drew)); exact HO307.out) hb)
                          have n1_ := Aside0.mk (Kd.S_below (Kd.S_elderB (by (with_reducible repeat (first | apply Kd.S_alloc | apply Kd.S_drewN | apply Kd.S_drew)); exact HO311.out) gb316 (Nat.le_of_eq hg.symm)) hb)
                          have n2_ := Aside0.mk (Kd.R_below (Kd.R_elderB (by (with_reducible repeat (first | apply Kd.R_alloc | apply Kd.R_drewN | apply Kd.R_drew)); exact HL313_0.out) gb316 (Nat.le_of_eq hg.symm)) hb)
                          have n3_ := Aside0.mk (Kd.C_below (by repeat (first | (with_reducible exact HR313_0.out) | (with_reducible refine Kd.C_alloc ?_ _) | (with_reducible refine Kd.C_drewN ?_ _) | (with_reducible refine Kd.C_drew ?_) | exact HR313_0.out)) hb)
                          have n4_ := Aside0.mk (below_step (by repeat (first | (with_reducible first | exact HB.out | apply below_alloc | apply pw_below_drewN | apply below_drew1) | exact HB.out)) hb)
                          have n5_ := Aside0.mk (hbox)
                          have n6_ := Aside0.mk ((by rw [hg]; exact (below_size (by repeat (first | (with_reducible first | exact HB.out | apply below_alloc | apply pw_below_drewN | apply below_drew1) | exact HB.out))) : w.heap.size ≤ gb316))
                          have n7_ := Aside0.mk ((by rw [hg]; exact (below_size (by repeat (first | (with_reducible first | exact HB.out | apply below_alloc | apply pw_below_drewN | apply below_drew1) | exact HB.out))) : w.heap.size ≤ gb316))
                          clear HO307
                          clear HO311
                          clear HL313_0
                          clear HR313_0
                          clear HB
                          have HO307 := n0_
                          have HO311 := n1_
                          have HL313_0 := n2_
                          have HR313_0 := n3_
                          have HB := n4_
                          have BK316 := n5_
                          have GW316 := n6_
                          have GE316 := n7_
                          clear n0_ n1_ n2_ n3_ n4_ n5_ n6_ n7_
                          clear hb hbox hg
                          refine hK.out _ _ ⟨((HB.out.cell (World.block_lt_of_cell? w _ hw312_0)).trans hw312_0), ((HB.out.cell (World.block_lt_of_cell? w _ hw312_1)).trans hw312_1), ((HB.out.cell (World.block_lt_of_cell? w _ hw312_2)).trans hw312_2), ((HB.out.cell (World.block_lt_of_cell? w _ hw312_3)).trans hw312_3), HS4_, ((HB.out.cell (World.block_lt_of_cell? w _ hw314_0)).trans hw314_0), ((HB.out.cell (World.block_lt_of_cell? w _ hw314_1)).trans hw314_1), ((HB.out.cell (World.block_lt_of_cell? w _ hw314_2)).trans hw314_2), ((HB.out.cell (World.block_lt_of_cell? w _ hw314_3)).trans hw314_3), HS9_, HS10_⟩ (fun hHeld => ?_)
                          clear hK K
                          refine norm_ (a' := ?_) ?_ ?_
                          rotate_left
                          · show Act.put _ (some 11) _ = _
                            simp only [Act.put, List.setIfInBounds_toArray, List.set_cons_zero, List.set_cons_succ, i64_w, i32_w]
                            rfl
                          refine one_ (i := 16) (N := none) #[true, true, true, true, true, true, true, true, true, true, true, true, true, true, true, true, true] rfl rfl (one_of HT_.out (by kernel_rfl)) (by decide) (fun K hK => ?_)
                          have hs36 : w35.cell? ⟨gb316, 0, none⟩ = some (.int .i64 0) := (blk_cell BK316.out 0).trans rfl
                          have hfs36 := blk_frozen BK316.out 0
                          have hs37 : w35.cell? ⟨gb316, 1, none⟩ = some (.int .i64 0) := (blk_cell BK316.out 1).trans rfl
                          have hfs37 := blk_frozen BK316.out 1
                          refine skip_ (w1 := ?_) (by rfl) rfl ?_ ?_
                          rotate_left
                          · go_simp
                            rfl
                          refine hK.out _ _ ⟨((cell_far (p := ⟨gb316, _, none⟩) (by first | exact Nat.ne_of_lt (Nat.lt_of_lt_of_le (by have := World.block_lt_of_cell? _ _ hw312_0; first | rwa [add_block] at this | exact this) GW316.out) | (rw [add_block]; exact Nat.ne_of_lt (Nat.lt_of_lt_of_le (by have := World.block_lt_of_cell? _ _ hw312_0; first | rwa [add_block] at this | exact this) GW316.out)) | (show (Addr.add _ _).block ≠ _; rw [add_block]; exact Nat.ne_of_lt (Nat.lt_of_lt_of_le (by have := World.block_lt_of_cell? _ _ hw312_0; first | rwa [add_block] at this | exact this) GW316.out)) | (dsimp only; exact Nat.ne_of_lt (Nat.lt_of_lt_of_le (by have := World.block_lt_of_cell? _ _ hw312_0; first | rwa [add_block] at this | exact this) GW316.out))) _).trans (((cell_far (p := ⟨gb316, _, none⟩) (by first | exact Nat.ne_of_lt (Nat.lt_of_lt_of_le (by have := World.block_lt_of_cell? _ _ hw312_0; first | rwa [add_block] at this | exact this) GW316.out) | (rw [add_block]; exact Nat.ne_of_lt (Nat.lt_of_lt_of_le (by have := World.block_lt_of_cell? _ _ hw312_0; first | rwa [add_block] at this | exact this) GW316.out)) | (show (Addr.add _ _).block ≠ _; rw [add_block]; exact Nat.ne_of_lt (Nat.lt_of_lt_of_le (by have := World.block_lt_of_cell? _ _ hw312_0; first | rwa [add_block] at this | exact this) GW316.out)) | (dsimp only; exact Nat.ne_of_lt (Nat.lt_of_lt_of_le (by have := World.block_lt_of_cell? _ _ hw312_0; first | rwa [add_block] at this | exact this) GW316.out))) _).trans (hHeld.1)))), ((cell_far (p := ⟨gb316, _, none⟩) (by first | exact Nat.ne_of_lt (Nat.lt_of_lt_of_le (by have := World.block_lt_of_cell? _ _ hw312_1; first | rwa [add_block] at this | exact this) GW316.out) | (rw [add_block]; exact Nat.ne_of_lt (Nat.lt_of_lt_of_le (by have := World.block_lt_of_cell? _ _ hw312_1; first | rwa [add_block] at this | exact this) GW316.out)) | (show (Addr.add _ _).block ≠ _; rw [add_block]; exact Nat.ne_of_lt (Nat.lt_of_lt_of_le (by have := World.block_lt_of_cell? _ _ hw312_1; first | rwa [add_block] at this | exact this) GW316.out)) | (dsimp only; exact Nat.ne_of_lt (Nat.lt_of_lt_of_le (by have := World.block_lt_of_cell? _ _ hw312_1; first | rwa [add_block] at this | exact this) GW316.out))) _).trans (((cell_far (p := ⟨gb316, _, none⟩) (by first | exact Nat.ne_of_lt (Nat.lt_of_lt_of_le (by have := World.block_lt_of_cell? _ _ hw312_1; first | rwa [add_block] at this | exact this) GW316.out) | (rw [add_block]; exact Nat.ne_of_lt (Nat.lt_of_lt_of_le (by have := World.block_lt_of_cell? _ _ hw312_1; first | rwa [add_block] at this | exact this) GW316.out)) | (show (Addr.add _ _).block ≠ _; rw [add_block]; exact Nat.ne_of_lt (Nat.lt_of_lt_of_le (by have := World.block_lt_of_cell? _ _ hw312_1; first | rwa [add_block] at this | exact this) GW316.out)) | (dsimp only; exact Nat.ne_of_lt (Nat.lt_of_lt_of_le (by have := World.block_lt_of_cell? _ _ hw312_1; first | rwa [add_block] at this | exact this) GW316.out))) _).trans (hHeld.2.1)))), ((cell_far (p := ⟨gb316, _, none⟩) (by first | exact Nat.ne_of_lt (Nat.lt_of_lt_of_le (by have := World.block_lt_of_cell? _ _ hw312_2; first | rwa [add_block] at this | exact this) GW316.out) | (rw [add_block]; exact Nat.ne_of_lt (Nat.lt_of_lt_of_le (by have := World.block_lt_of_cell? _ _ hw312_2; first | rwa [add_block] at this | exact this) GW316.out)) | (show (Addr.add _ _).block ≠ _; rw [add_block]; exact Nat.ne_of_lt (Nat.lt_of_lt_of_le (by have := World.block_lt_of_cell? _ _ hw312_2; first | rwa [add_block] at this | exact this) GW316.out)) | (dsimp only; exact Nat.ne_of_lt (Nat.lt_of_lt_of_le (by have := World.block_lt_of_cell? _ _ hw312_2; first | rwa [add_block] at this | exact this) GW316.out))) _).trans (((cell_far (p := ⟨gb316, _, none⟩) (by first | exact Nat.ne_of_lt (Nat.lt_of_lt_of_le (by have := World.block_lt_of_cell? _ _ hw312_2; first | rwa [add_block] at this | exact this) GW316.out) | (rw [add_block]; exact Nat.ne_of_lt (Nat.lt_of_lt_of_le (by have := World.block_lt_of_cell? _ _ hw312_2; first | rwa [add_block] at this | exact this) GW316.out)) | (show (Addr.add _ _).block ≠ _; rw [add_block]; exact Nat.ne_of_lt (Nat.lt_of_lt_of_le (by have := World.block_lt_of_cell? _ _ hw312_2; first | rwa [add_block] at this | exact this) GW316.out)) | (dsimp only; exact Nat.ne_of_lt (Nat.lt_of_lt_of_le (by have := World.block_lt_of_cell? _ _ hw312_2; first | rwa [add_block] at this | exact this) GW316.out))) _).trans (hHeld.2.2.1)))), ((cell_far (p := ⟨gb316, _, none⟩) (by first | exact Nat.ne_of_lt (Nat.lt_of_lt_of_le (by have := World.block_lt_of_cell? _ _ hw312_3; first | rwa [add_block] at this | exact this) GW316.out) | (rw [add_block]; exact Nat.ne_of_lt (Nat.lt_of_lt_of_le (by have := World.block_lt_of_cell? _ _ hw312_3; first | rwa [add_block] at this | exact this) GW316.out)) | (show (Addr.add _ _).block ≠ _; rw [add_block]; exact Nat.ne_of_lt (Nat.lt_of_lt_of_le (by have := World.block_lt_of_cell? _ _ hw312_3; first | rwa [add_block] at this | exact this) GW316.out)) | (dsimp only; exact Nat.ne_of_lt (Nat.lt_of_lt_of_le (by have := World.block_lt_of_cell? _ _ hw312_3; first | rwa [add_block] at this | exact this) GW316.out))) _).trans (((cell_far (p := ⟨gb316, _, none⟩) (by first | exact Nat.ne_of_lt (Nat.lt_of_lt_of_le (by have := World.block_lt_of_cell? _ _ hw312_3; first | rwa [add_block] at this | exact this) GW316.out) | (rw [add_block]; exact Nat.ne_of_lt (Nat.lt_of_lt_of_le (by have := World.block_lt_of_cell? _ _ hw312_3; first | rwa [add_block] at this | exact this) GW316.out)) | (show (Addr.add _ _).block ≠ _; rw [add_block]; exact Nat.ne_of_lt (Nat.lt_of_lt_of_le (by have := World.block_lt_of_cell? _ _ hw312_3; first | rwa [add_block] at this | exact this) GW316.out)) | (dsimp only; exact Nat.ne_of_lt (Nat.lt_of_lt_of_le (by have := World.block_lt_of_cell? _ _ hw312_3; first | rwa [add_block] at this | exact this) GW316.out))) _).trans (hHeld.2.2.2.1)))), ((cell_far (p := ⟨gb316, _, none⟩) (by first | exact Kd.own_blk (Kd.S_away HO311.out (fun _ hk => hk.2)) | (rw [add_block]; exact Kd.own_blk (Kd.S_away HO311.out (fun _ hk => hk.2))) | (show (Addr.add _ _).block ≠ _; rw [add_block]; exact Kd.own_blk (Kd.S_away HO311.out (fun _ hk => hk.2))) | (dsimp only; exact Kd.own_blk (Kd.S_away HO311.out (fun _ hk => hk.2)))) _).trans (((cell_far (p := ⟨gb316, _, none⟩) (by first | exact Kd.own_blk (Kd.S_away HO311.out (fun _ hk => hk.2)) | (rw [add_block]; exact Kd.own_blk (Kd.S_away HO311.out (fun _ hk => hk.2))) | (show (Addr.add _ _).block ≠ _; rw [add_block]; exact Kd.own_blk (Kd.S_away HO311.out (fun _ hk => hk.2))) | (dsimp only; exact Kd.own_blk (Kd.S_away HO311.out (fun _ hk => hk.2)))) _).trans (hHeld.2.2.2.2.1)))), ((cell_far (p := ⟨gb316, _, none⟩) (by first | exact Nat.ne_of_lt (Nat.lt_of_lt_of_le (by have := World.block_lt_of_cell? _ _ hw314_0; first | rwa [add_block] at this | exact this) GW316.out) | (rw [add_block]; exact Nat.ne_of_lt (Nat.lt_of_lt_of_le (by have := World.block_lt_of_cell? _ _ hw314_0; first | rwa [add_block] at this | exact this) GW316.out)) | (show (Addr.add _ _).block ≠ _; rw [add_block]; exact Nat.ne_of_lt (Nat.lt_of_lt_of_le (by have := World.block_lt_of_cell? _ _ hw314_0; first | rwa [add_block] at this | exact this) GW316.out)) | (dsimp only; exact Nat.ne_of_lt (Nat.lt_of_lt_of_le (by have := World.block_lt_of_cell? _ _ hw314_0; first | rwa [add_block] at this | exact this) GW316.out))) _).trans (((cell_far (p := ⟨gb316, _, none⟩) (by first | exact Nat.ne_of_lt (Nat.lt_of_lt_of_le (by have := World.block_lt_of_cell? _ _ hw314_0; first | rwa [add_block] at this | exact this) GW316.out) | (rw [add_block]; exact Nat.ne_of_lt (Nat.lt_of_lt_of_le (by have := World.block_lt_of_cell? _ _ hw314_0; first | rwa [add_block] at this | exact this) GW316.out)) | (show (Addr.add _ _).block ≠ _; rw [add_block]; exact Nat.ne_of_lt (Nat.lt_of_lt_of_le (by have := World.block_lt_of_cell? _ _ hw314_0; first | rwa [add_block] at this | exact this) GW316.out)) | (dsimp only; exact Nat.ne_of_lt (Nat.lt_of_lt_of_le (by have := World.block_lt_of_cell? _ _ hw314_0; first | rwa [add_block] at this | exact this) GW316.out))) _).trans (hHeld.2.2.2.2.2.1)))), ((cell_far (p := ⟨gb316, _, none⟩) (by first | exact Nat.ne_of_lt (Nat.lt_of_lt_of_le (by have := World.block_lt_of_cell? _ _ hw314_1; first | rwa [add_block] at this | exact this) GW316.out) | (rw [add_block]; exact Nat.ne_of_lt (Nat.lt_of_lt_of_le (by have := World.block_lt_of_cell? _ _ hw314_1; first | rwa [add_block] at this | exact this) GW316.out)) | (show (Addr.add _ _).block ≠ _; rw [add_block]; exact Nat.ne_of_lt (Nat.lt_of_lt_of_le (by have := World.block_lt_of_cell? _ _ hw314_1; first | rwa [add_block] at this | exact this) GW316.out)) | (dsimp only; exact Nat.ne_of_lt (Nat.lt_of_lt_of_le (by have := World.block_lt_of_cell? _ _ hw314_1; first | rwa [add_block] at this | exact this) GW316.out))) _).trans (((cell_far (p := ⟨gb316, _, none⟩) (by first | exact Nat.ne_of_lt (Nat.lt_of_lt_of_le (by have := World.block_lt_of_cell? _ _ hw314_1; first | rwa [add_block] at this | exact this) GW316.out) | (rw [add_block]; exact Nat.ne_of_lt (Nat.lt_of_lt_of_le (by have := World.block_lt_of_cell? _ _ hw314_1; first | rwa [add_block] at this | exact this) GW316.out)) | (show (Addr.add _ _).block ≠ _; rw [add_block]; exact Nat.ne_of_lt (Nat.lt_of_lt_of_le (by have := World.block_lt_of_cell? _ _ hw314_1; first | rwa [add_block] at this | exact this) GW316.out)) | (dsimp only; exact Nat.ne_of_lt (Nat.lt_of_lt_of_le (by have := World.block_lt_of_cell? _ _ hw314_1; first | rwa [add_block] at this | exact this) GW316.out))) _).trans (hHeld.2.2.2.2.2.2.1)))), ((cell_far (p := ⟨gb316, _, none⟩) (by first | exact Nat.ne_of_lt (Nat.lt_of_lt_of_le (by have := World.block_lt_of_cell? _ _ hw314_2; first | rwa [add_block] at this | exact this) GW316.out) | (rw [add_block]; exact Nat.ne_of_lt (Nat.lt_of_lt_of_le (by have := World.block_lt_of_cell? _ _ hw314_2; first | rwa [add_block] at this | exact this) GW316.out)) | (show (Addr.add _ _).block ≠ _; rw [add_block]; exact Nat.ne_of_lt (Nat.lt_of_lt_of_le (by have := World.block_lt_of_cell? _ _ hw314_2; first | rwa [add_block] at this | exact this) GW316.out)) | (dsimp only; exact Nat.ne_of_lt (Nat.lt_of_lt_of_le (by have := World.block_lt_of_cell? _ _ hw314_2; first | rwa [add_block] at this | exact this) GW316.out))) _).trans (((cell_far (p := ⟨gb316, _, none⟩) (by first | exact Nat.ne_of_lt (Nat.lt_of_lt_of_le (by have := World.block_lt_of_cell? _ _ hw314_2; first | rwa [add_block] at this | exact this) GW316.out) | (rw [add_block]; exact Nat.ne_of_lt (Nat.lt_of_lt_of_le (by have := World.block_lt_of_cell? _ _ hw314_2; first | rwa [add_block] at this | exact this) GW316.out)) | (show (Addr.add _ _).block ≠ _; rw [add_block]; exact Nat.ne_of_lt (Nat.lt_of_lt_of_le (by have := World.block_lt_of_cell? _ _ hw314_2; first | rwa [add_block] at this | exact this) GW316.out)) | (dsimp only; exact Nat.ne_of_lt (Nat.lt_of_lt_of_le (by have := World.block_lt_of_cell? _ _ hw314_2; first | rwa [add_block] at this | exact this) GW316.out))) _).trans (hHeld.2.2.2.2.2.2.2.1)))), ((cell_far (p := ⟨gb316, _, none⟩) (by first | exact Nat.ne_of_lt (Nat.lt_of_lt_of_le (by have := World.block_lt_of_cell? _ _ hw314_3; first | rwa [add_block] at this | exact this) GW316.out) | (rw [add_block]; exact Nat.ne_of_lt (Nat.lt_of_lt_of_le (by have := World.block_lt_of_cell? _ _ hw314_3; first | rwa [add_block] at this | exact this) GW316.out)) | (show (Addr.add _ _).block ≠ _; rw [add_block]; exact Nat.ne_of_lt (Nat.lt_of_lt_of_le (by have := World.block_lt_of_cell? _ _ hw314_3; first | rwa [add_block] at this | exact this) GW316.out)) | (dsimp only; exact Nat.ne_of_lt (Nat.lt_of_lt_of_le (by have := World.block_lt_of_cell? _ _ hw314_3; first | rwa [add_block] at this | exact this) GW316.out))) _).trans (((cell_far (p := ⟨gb316, _, none⟩) (by first | exact Nat.ne_of_lt (Nat.lt_of_lt_of_le (by have := World.block_lt_of_cell? _ _ hw314_3; first | rwa [add_block] at this | exact this) GW316.out) | (rw [add_block]; exact Nat.ne_of_lt (Nat.lt_of_lt_of_le (by have := World.block_lt_of_cell? _ _ hw314_3; first | rwa [add_block] at this | exact this) GW316.out)) | (show (Addr.add _ _).block ≠ _; rw [add_block]; exact Nat.ne_of_lt (Nat.lt_of_lt_of_le (by have := World.block_lt_of_cell? _ _ hw314_3; first | rwa [add_block] at this | exact this) GW316.out)) | (dsimp only; exact Nat.ne_of_lt (Nat.lt_of_lt_of_le (by have := World.block_lt_of_cell? _ _ hw314_3; first | rwa [add_block] at this | exact this) GW316.out))) _).trans (hHeld.2.2.2.2.2.2.2.2.1)))), ((cell_far (p := ⟨gb316, _, none⟩) (by first | exact Kd.own_blk (Kd.R_away HL313_0.out (fun _ hk => hk.2)) | (rw [add_block]; exact Kd.own_blk (Kd.R_away HL313_0.out (fun _ hk => hk.2))) | (show (Addr.add _ _).block ≠ _; rw [add_block]; exact Kd.own_blk (Kd.R_away HL313_0.out (fun _ hk => hk.2))) | (dsimp only; exact Kd.own_blk (Kd.R_away HL313_0.out (fun _ hk => hk.2)))) _).trans (((cell_far (p := ⟨gb316, _, none⟩) (by first | exact Kd.own_blk (Kd.R_away HL313_0.out (fun _ hk => hk.2)) | (rw [add_block]; exact Kd.own_blk (Kd.R_away HL313_0.out (fun _ hk => hk.2))) | (show (Addr.add _ _).block ≠ _; rw [add_block]; exact Kd.own_blk (Kd.R_away HL313_0.out (fun _ hk => hk.2))) | (dsimp only; exact Kd.own_blk (Kd.R_away HL313_0.out (fun _ hk => hk.2)))) _).trans (hHeld.2.2.2.2.2.2.2.2.2.1)))), ((cell_far (p := ⟨gb316, _, none⟩) (by first | exact Kd.own_blk (Kd.R_away HL313_0.out (fun _ hk => hk.2)) | (rw [add_block]; exact Kd.own_blk (Kd.R_away HL313_0.out (fun _ hk => hk.2))) | (show (Addr.add _ _).block ≠ _; rw [add_block]; exact Kd.own_blk (Kd.R_away HL313_0.out (fun _ hk => hk.2))) | (dsimp only; exact Kd.own_blk (Kd.R_away HL313_0.out (fun _ hk => hk.2)))) _).trans (((cell_far (p := ⟨gb316, _, none⟩) (by first | exact Kd.own_blk (Kd.R_away HL313_0.out (fun _ hk => hk.2)) | (rw [add_block]; exact Kd.own_blk (Kd.R_away HL313_0.out (fun _ hk => hk.2))) | (show (Addr.add _ _).block ≠ _; rw [add_block]; exact Kd.own_blk (Kd.R_away HL313_0.out (fun _ hk => hk.2))) | (dsimp only; exact Kd.own_blk (Kd.R_away HL313_0.out (fun _ hk => hk.2)))) _).trans (hHeld.2.2.2.2.2.2.2.2.2.2))))⟩ (fun hHeld => ?_)
                          clear hK K
                          refine done_ (done_of HT_.out (by kernel_rfl)) ?_
                          try go_wp2
                          have n0_ : Aside0 (Kd.R k43 43 ((w35.setCell ⟨gb316, 0, none⟩ (.int .i64 ((rd_T35 (rd_L4 t308 ((rd_T43 l1 a2).f0)) ((rd_T43 l1 a2).f1)).f0))).setCell ⟨gb316, 1, none⟩ (.int .i64 ((rd_T35 (rd_L4 t308 ((rd_T43 l1 a2).f0)) ((rd_T43 l1 a2).f1)).f1))) w.heap.size (fun _ => True) (.slice Ao31 t305.length co31) t305) := ⟨by (with_reducible repeat (first | apply Kd.R_alloc | apply Kd.R_drewN | apply Kd.R_drew)); exact Kd.R_mono (Kd.R_far (p := ⟨gb316, 1, none⟩) (Kd.R_far (p := ⟨gb316, 0, none⟩) (Kd.R_types HO307.out BK316.out (by decide)) (fun _ hk => hk.2) (.int .i64 ((rd_T35 (rd_L4 t308 ((rd_T43 l1 a2).f0)) ((rd_T43 l1 a2).f1)).f0))) (fun _ hk => hk.2) (.int .i64 ((rd_T35 (rd_L4 t308 ((rd_T43 l1 a2).f0)) ((rd_T43 l1 a2).f1)).f1))) (fun _ hk => trivial)⟩
                          have n1_ : Aside0 (Kd.S (Kd.slice 35 k35) 33 ((w35.setCell ⟨gb316, 0, none⟩ (.int .i64 ((rd_T35 (rd_L4 t308 ((rd_T43 l1 a2).f0)) ((rd_T43 l1 a2).f1)).f0))).setCell ⟨gb316, 1, none⟩ (.int .i64 ((rd_T35 (rd_L4 t308 ((rd_T43 l1 a2).f0)) ((rd_T43 l1 a2).f1)).f1))) w.heap.size (fun k_ => k_ ≠ gb316) (.slice (some ad313) t308.length co34) t308) := ⟨by (with_reducible repeat (first | apply Kd.S_alloc | apply Kd.S_drewN | apply Kd.S_drew)); exact Kd.S_mono (Kd.S_far (p := ⟨gb316, 1, none⟩) (Kd.S_far (p := ⟨gb316, 0, none⟩) (Kd.S_mono HO311.out (fun k_ hk => (⟨hk, hk.2⟩ : _ ∧ k_ ≠ gb316))) (fun _ hk => hk.2) (.int .i64 ((rd_T35 (rd_L4 t308 ((rd_T43 l1 a2).f0)) ((rd_T43 l1 a2).f1)).f0))) (fun _ hk => hk.2) (.int .i64 ((rd_T35 (rd_L4 t308 ((rd_T43 l1 a2).f0)) ((rd_T43 l1 a2).f1)).f1))) (fun _ hk => hk.1.2)⟩
                          have n2_ : Aside0 (Kd.R k35 35 ((w35.setCell ⟨gb316, 0, none⟩ (.int .i64 ((rd_T35 (rd_L4 t308 ((rd_T43 l1 a2).f0)) ((rd_T43 l1 a2).f1)).f0))).setCell ⟨gb316, 1, none⟩ (.int .i64 ((rd_T35 (rd_L4 t308 ((rd_T43 l1 a2).f0)) ((rd_T43 l1 a2).f1)).f1))) w.heap.size (fun k_ => some k_ ≠ (.slice (some ad313) t308.length co34 : Value).ownBlock ∧ k_ ≠ gb316) (.slice (some ad315) (rd_L4 t308 ((rd_T43 l1 a2).f0)).length c313_0) (rd_L4 t308 ((rd_T43 l1 a2).f0))) := ⟨by (with_reducible repeat (first | apply Kd.R_alloc | apply Kd.R_drewN | apply Kd.R_drew)); exact Kd.R_mono (Kd.R_far (p := ⟨gb316, 1, none⟩) (Kd.R_far (p := ⟨gb316, 0, none⟩) (Kd.R_mono HL313_0.out (fun k_ hk => (⟨hk, hk.2⟩ : _ ∧ k_ ≠ gb316))) (fun _ hk => hk.2) (.int .i64 ((rd_T35 (rd_L4 t308 ((rd_T43 l1 a2).f0)) ((rd_T43 l1 a2).f1)).f0))) (fun _ hk => hk.2) (.int .i64 ((rd_T35 (rd_L4 t308 ((rd_T43 l1 a2).f0)) ((rd_T43 l1 a2).f1)).f1))) (fun _ hk => ⟨hk.1.1.2, hk.1.2⟩)⟩
                          have n3_ : Aside0 (((w35.setCell ⟨gb316, 0, none⟩ (.int .i64 ((rd_T35 (rd_L4 t308 ((rd_T43 l1 a2).f0)) ((rd_T43 l1 a2).f1)).f0))).setCell ⟨gb316, 1, none⟩ (.int .i64 ((rd_T35 (rd_L4 t308 ((rd_T43 l1 a2).f0)) ((rd_T43 l1 a2).f1)).f1))).heap[gb316]? = some (.cells #[.int .i64 ((rd_T35 (rd_L4 t308 ((rd_T43 l1 a2).f0)) ((rd_T43 l1 a2).f1)).f0), .int .i64 ((rd_T35 (rd_L4 t308 ((rd_T43 l1 a2).f0)) ((rd_T43 l1 a2).f1)).f1)] 35 (0, 0))) := ⟨by (with_reducible repeat (first | refine blk_drewN ?_ _ | refine blk_drew ?_ | refine blk_alloc ?_ _)); refine blk_put (cs := #[.int .i64 ((rd_T35 (rd_L4 t308 ((rd_T43 l1 a2).f0)) ((rd_T43 l1 a2).f1)).f0), .int .i64 0]) ?_ 1 _ rfl; (with_reducible repeat (first | refine blk_drewN ?_ _ | refine blk_drew ?_ | refine blk_alloc ?_ _)); refine blk_put (cs := #[.int .i64 0, .int .i64 0]) ?_ 0 _ rfl; (with_reducible repeat (first | refine blk_drewN ?_ _ | refine blk_drew ?_ | refine blk_alloc ?_ _)); exact BK316.out⟩
                          have n4_ : Aside0 (Below w.heap.size w ((w35.setCell ⟨gb316, 0, none⟩ (.int .i64 ((rd_T35 (rd_L4 t308 ((rd_T43 l1 a2).f0)) ((rd_T43 l1 a2).f1)).f0))).setCell ⟨gb316, 1, none⟩ (.int .i64 ((rd_T35 (rd_L4 t308 ((rd_T43 l1 a2).f0)) ((rd_T43 l1 a2).f1)).f1)))) := ⟨by repeat (first | (with_reducible first | exact HB.out | apply below_alloc | apply pw_below_drewN | apply below_drew1 | refine below_set ?_ GE316.out) | exact HB.out)⟩
                          (try clear HO307)
                          (try clear HO311)
                          (try clear HL313_0)
                          (try clear BK316)
                          (try clear HB)
                          generalize ((w35.setCell ⟨gb316, 0, none⟩ (.int .i64 ((rd_T35 (rd_L4 t308 ((rd_T43 l1 a2).f0)) ((rd_T43 l1 a2).f1)).f0))).setCell ⟨gb316, 1, none⟩ (.int .i64 ((rd_T35 (rd_L4 t308 ((rd_T43 l1 a2).f0)) ((rd_T43 l1 a2).f1)).f1))) = w38 at n0_ n1_ n2_ n3_ n4_ ⊢
                          have HO307 := n0_
                          have HO311 := n1_
                          have HL313_0 := n2_
                          have BK316 := n3_
                          have HB := n4_
                          clear n0_ n1_ n2_ n3_ n4_
                          have n0_ := Aside0.mk (Kd.R_drew HO307.out)
                          have n1_ := Aside0.mk (Kd.S_drew HO311.out)
                          have n2_ := Aside0.mk (Kd.R_drew HL313_0.out)
                          have n3_ := Aside0.mk (blk_drew BK316.out)
                          have n4_ := Aside0.mk (below_drew1 HB.out)
                          clear HO307
                          clear HO311
                          clear HL313_0
                          clear BK316
                          clear HB
                          have HO307 := n0_
                          have HO311 := n1_
                          have HL313_0 := n2_
                          have BK316 := n3_
                          have HB := n4_
                          clear n0_ n1_ n2_ n3_ n4_
                          have p317 : 0 ≤ (a2 : Int) := of_decide_eq_true (by first | (with_reducible assumption) | assumption)
                          have q317 : a2 < (l1.length : Int) := of_decide_eq_true (by first | (with_reducible assumption) | assumption)
                          obtain ⟨ad317, e317, hx317_0, hx317_1, hx317_2, hx317_3⟩ := at_T43 HR1.out a2 p317 q317
                          have hw317_3 := hx317_3
                          have hw317_2 := hx317_2
                          have hw317_1 := hx317_1
                          have hw317_0 := hx317_0
                          obtain rfl : ad312 = ad317 := (by injection e317)
                          replace hx317_0 := (HB.out.cell (World.block_lt_of_cell? w _ hx317_0)).trans hx317_0
                          replace hx317_1 := (HB.out.cell (World.block_lt_of_cell? w _ hx317_1)).trans hx317_1
                          replace hx317_2 := (HB.out.cell (World.block_lt_of_cell? w _ hx317_2)).trans hx317_2
                          replace hx317_3 := (HB.out.cell (World.block_lt_of_cell? w _ hx317_3)).trans hx317_3
                          replace p317 := eq_true p317
                          replace q317 := eq_true q317
                          refine start_ (n := 20) (S := fun w' => w'.cell? ⟨gb316, 0, none⟩ = some (.int .i64 ((rd_T35 (rd_L4 t308 ((rd_T43 l1 a2).f0)) ((rd_T43 l1 a2).f1)).f0)) ∧ w'.cell? ⟨gb316, 1, none⟩ = some (.int .i64 ((rd_T35 (rd_L4 t308 ((rd_T43 l1 a2).f0)) ((rd_T43 l1 a2).f1)).f1)) ∧ w'.cell? (ad312.add ((a2).toNat * 4)) = some (.int .i64 ((rd_T43 l1 a2).f0)) ∧ w'.cell? ⟨(ad312.add ((a2).toNat * 4)).block, (ad312.add ((a2).toNat * 4)).off + 1, none⟩ = some (.int .i64 ((rd_T43 l1 a2).f1)) ∧ w'.cell? ⟨(ad312.add ((a2).toNat * 4)).block, (ad312.add ((a2).toNat * 4)).off + 2, none⟩ = some (.int .i64 ((rd_T43 l1 a2).f2)) ∧ w'.cell? ⟨(ad312.add ((a2).toNat * 4)).block, (ad312.add ((a2).toNat * 4)).off + 3, none⟩ = some (.int .i64 ((rd_T43 l1 a2).f3))) (ds := []) #[false, false, false, false, false, false, false, false, false, false, false, false, false, false, false, false, false, false, false, false] (by kernel_rfl) rfl rfl ⟨(blk_cell BK316.out 0).trans rfl, (blk_cell BK316.out 1).trans rfl, ((HB.out.cell (World.block_lt_of_cell? w _ hw317_0)).trans hw317_0), ((HB.out.cell (World.block_lt_of_cell? w _ hw317_1)).trans hw317_1), ((HB.out.cell (World.block_lt_of_cell? w _ hw317_2)).trans hw317_2), ((HB.out.cell (World.block_lt_of_cell? w _ hw317_3)).trans hw317_3)⟩ (fun hHeld => ?_); refine with_tabW contradict_Implied.tab10 contradict_Implied.bits10 (fun HT_ HW_ => ?_)
                          generalize w38.drew = w39 at HO307 HO311 HL313_0 BK316 HB hx317_0 hx317_1 hx317_2 hx317_3 hHeld ⊢
                          refine pure_ (i := 0) (N := some 52) (v := ?_) (a' := ?_) #[true, false, false, false, false, false, false, false, false, false, false, false, false, false, false, false, false, false, false, false] rfl rfl (any_of HT_.out (by kernel_rfl)) (fun _ _ _ h => h) (Or.inl ⟨by rfl, ?_⟩) ?_ ?_
                          rotate_left
                          · intro w'
                            go_simp
                            with_reducible rfl
                          rotate_left
                          · simp only [Act.put, List.setIfInBounds_toArray, List.set_cons_zero, List.set_cons_succ, i64_w, i32_w]
                            rfl
                          refine pure_ (i := 2) (N := some 54) (v := ?_) (a' := ?_) #[true, false, true, false, false, false, false, false, false, false, false, false, false, false, false, false, false, false, false, false] rfl rfl (any_of HT_.out (by kernel_rfl)) (fun _ _ _ h => h) (Or.inl ⟨by rfl, ?_⟩) ?_ ?_
                          rotate_left
                          · intro w'
                            go_simp
                            with_reducible rfl
                          rotate_left
                          · simp only [Act.put, List.setIfInBounds_toArray, List.set_cons_zero, List.set_cons_succ, i64_w, i32_w]
                            rfl
                          refine pure_ (i := 3) (N := some 55) (v := ?_) (a' := ?_) #[true, false, true, true, false, false, false, false, false, false, false, false, false, false, false, false, false, false, false, false] rfl rfl (any_of HT_.out (by kernel_rfl)) (fun _ _ _ h => h) (Or.inl ⟨by rfl, ?_⟩) ?_ ?_
                          rotate_left
                          · intro w'
                            go_simp
                            with_reducible rfl
                          rotate_left
                          · simp only [Act.put, List.setIfInBounds_toArray, List.set_cons_zero, List.set_cons_succ, i64_w, i32_w]
                            rfl
                          refine pure_ (i := 4) (N := some 56) (v := ?_) (a' := ?_) #[true, false, true, true, true, false, false, false, false, false, false, false, false, false, false, false, false, false, false, false] rfl rfl (any_of HT_.out (by kernel_rfl)) (fun _ _ _ h => h) (Or.inl ⟨by rfl, ?_⟩) ?_ ?_
                          rotate_left
                          · intro w'
                            go_simp
                            with_reducible rfl
                          rotate_left
                          · simp only [Act.put, List.setIfInBounds_toArray, List.set_cons_zero, List.set_cons_succ, i64_w, i32_w]
                            rfl
                          refine pure_ (i := 5) (N := some 57) (v := ?_) (a' := ?_) #[true, false, true, true, true, true, false, false, false, false, false, false, false, false, false, false, false, false, false, false] rfl rfl (any_of HT_.out (by kernel_rfl)) (fun _ _ _ h => h) (Or.inl ⟨by rfl, ?_⟩) ?_ ?_
                          rotate_left
                          · intro w'
                            go_simp
                            with_reducible rfl
                          rotate_left
                          · simp only [Act.put, List.setIfInBounds_toArray, List.set_cons_zero, List.set_cons_succ, i64_w, i32_w]
                            rfl
                          refine take_ (i := 1) (N := some 53) (v := ?_) (a' := ?_) #[true, true, true, true, true, true, false, false, false, false, false, false, false, false, false, false, false, false, false, false] rfl rfl (take_ofW HT_.out HW_.out (by kernel_rfl)) (fun _ _ _ h => h) (Or.inl ⟨by rfl, ?_⟩) hHeld ?_ ?_
                          rotate_left
                          · rintro w' ⟨s0, s1, s2, s3, s4, s5⟩
                            go_simp
                            with_reducible rfl
                          rotate_left
                          · simp only [Act.put, List.setIfInBounds_toArray, List.set_cons_zero, List.set_cons_succ, i64_w, i32_w]
                            rfl
                          refine take_ (i := 6) (N := some 58) (v := ?_) (a' := ?_) #[true, true, true, true, true, true, true, false, false, false, false, false, false, false, false, false, false, false, false, false] rfl rfl (take_ofW HT_.out HW_.out (by kernel_rfl)) (fun _ _ _ h => h) (Or.inl ⟨by rfl, ?_⟩) hHeld ?_ ?_
                          rotate_left
                          · rintro w' ⟨s0, s1, s2, s3, s4, s5⟩
                            go_simp
                            with_reducible rfl
                          rotate_left
                          · simp only [Act.put, List.setIfInBounds_toArray, List.set_cons_zero, List.set_cons_succ, i64_w, i32_w]
                            rfl
                          refine pure_ (i := 7) (N := some 59) (v := ?_) (a' := ?_) #[true, true, true, true, true, true, true, true, false, false, false, false, false, false, false, false, false, false, false, false] rfl rfl (any_of HT_.out (by kernel_rfl)) (fun _ _ _ h => h) (Or.inl ⟨by rfl, ?_⟩) ?_ ?_
                          rotate_left
                          · intro w'
                            go_simp
                            with_reducible rfl
                          rotate_left
                          · simp only [Act.put, List.setIfInBounds_toArray, List.set_cons_zero, List.set_cons_succ, i64_w, i32_w]
                            rfl
                          refine pure_ (i := 8) (N := some 60) (v := ?_) (a' := ?_) #[true, true, true, true, true, true, true, true, true, false, false, false, false, false, false, false, false, false, false, false] rfl rfl (any_of HT_.out (by kernel_rfl)) (fun _ _ _ h => h) (Or.inl ⟨by rfl, ?_⟩) ?_ ?_
                          rotate_left
                          · intro w'
                            go_simp
                            with_reducible rfl
                          rotate_left
                          · simp only [Act.put, List.setIfInBounds_toArray, List.set_cons_zero, List.set_cons_succ, i64_w, i32_w]
                            rfl
                          refine pure_ (i := 9) (N := some 61) (v := undef) (a' := ?_) #[true, true, true, true, true, true, true, true, true, true, false, false, false, false, false, false, false, false, false, false] rfl rfl (any_of HT_.out (by kernel_rfl)) (fun _ _ _ h => h) (Or.inr ⟨by rfl, rfl⟩) ?_ ?_
                          rotate_left
                          · simp only [Act.put, List.setIfInBounds_toArray, List.set_cons_zero, List.set_cons_succ, i64_w, i32_w]
                            rfl
                          refine pure_ (i := 10) (N := some 62) (v := undef) (a' := ?_) #[true, true, true, true, true, true, true, true, true, true, true, false, false, false, false, false, false, false, false, false] rfl rfl (any_of HT_.out (by kernel_rfl)) (fun _ _ _ h => h) (Or.inr ⟨by rfl, rfl⟩) ?_ ?_
                          rotate_left
                          · simp only [Act.put, List.setIfInBounds_toArray, List.set_cons_zero, List.set_cons_succ, i64_w, i32_w]
                            rfl
                          refine pure_ (i := 11) (N := some 63) (v := undef) (a' := ?_) #[true, true, true, true, true, true, true, true, true, true, true, true, false, false, false, false, false, false, false, false] rfl rfl (any_of HT_.out (by kernel_rfl)) (fun _ _ _ h => h) (Or.inr ⟨by rfl, rfl⟩) ?_ ?_
                          rotate_left
                          · simp only [Act.put, List.setIfInBounds_toArray, List.set_cons_zero, List.set_cons_succ, i64_w, i32_w]
                            rfl
                          refine pure_ (i := 12) (N := some 64) (v := undef) (a' := ?_) #[true, true, true, true, true, true, true, true, true, true, true, true, true, false, false, false, false, false, false, false] rfl rfl (any_of HT_.out (by kernel_rfl)) (fun _ _ _ h => h) (Or.inr ⟨by rfl, rfl⟩) ?_ ?_
                          rotate_left
                          · simp only [Act.put, List.setIfInBounds_toArray, List.set_cons_zero, List.set_cons_succ, i64_w, i32_w]
                            rfl
                          refine pure_ (i := 13) (N := some 65) (v := undef) (a' := ?_) #[true, true, true, true, true, true, true, true, true, true, true, true, true, true, false, false, false, false, false, false] rfl rfl (any_of HT_.out (by kernel_rfl)) (fun _ _ _ h => h) (Or.inr ⟨by rfl, rfl⟩) ?_ ?_
                          rotate_left
                          · simp only [Act.put, List.setIfInBounds_toArray, List.set_cons_zero, List.set_cons_succ, i64_w, i32_w]
                            rfl
                          refine pure_ (i := 14) (N := some 66) (v := undef) (a' := ?_) #[true, true, true, true, true, true, true, true, true, true, true, true, true, true, true, false, false, false, false, false] rfl rfl (any_of HT_.out (by kernel_rfl)) (fun _ _ _ h => h) (Or.inr ⟨by rfl, rfl⟩) ?_ ?_
                          rotate_left
                          · simp only [Act.put, List.setIfInBounds_toArray, List.set_cons_zero, List.set_cons_succ, i64_w, i32_w]
                            rfl
                          refine pure_ (i := 15) (N := some 67) (v := undef) (a' := ?_) #[true, true, true, true, true, true, true, true, true, true, true, true, true, true, true, true, false, false, false, false] rfl rfl (any_of HT_.out (by kernel_rfl)) (fun _ _ _ h => h) (Or.inr ⟨by rfl, rfl⟩) ?_ ?_
                          rotate_left
                          · simp only [Act.put, List.setIfInBounds_toArray, List.set_cons_zero, List.set_cons_succ, i64_w, i32_w]
                            rfl
                          refine pure_ (i := 16) (N := some 68) (v := undef) (a' := ?_) #[true, true, true, true, true, true, true, true, true, true, true, true, true, true, true, true, true, false, false, false] rfl rfl (any_of HT_.out (by kernel_rfl)) (fun _ _ _ h => h) (Or.inr ⟨by rfl, rfl⟩) ?_ ?_
                          rotate_left
                          · simp only [Act.put, List.setIfInBounds_toArray, List.set_cons_zero, List.set_cons_succ, i64_w, i32_w]
                            rfl
                          refine pure_ (i := 17) (N := some 69) (v := ?_) (a' := ?_) #[true, true, true, true, true, true, true, true, true, true, true, true, true, true, true, true, true, true, false, false] rfl rfl (any_of HT_.out (by kernel_rfl)) (fun _ _ _ h => h) (Or.inl ⟨by rfl, ?_⟩) ?_ ?_
                          rotate_left
                          · intro w'
                            go_simp
                            with_reducible rfl
                          rotate_left
                          · simp only [Act.put, List.setIfInBounds_toArray, List.set_cons_zero, List.set_cons_succ, i64_w, i32_w]
                            rfl
                          refine pure_ (i := 18) (N := some 6) (v := ?_) (a' := ?_) #[true, true, true, true, true, true, true, true, true, true, true, true, true, true, true, true, true, true, true, false] rfl rfl (any_of HT_.out (by kernel_rfl)) (fun _ _ _ h => h) (Or.inl ⟨by rfl, ?_⟩) ?_ ?_
                          rotate_left
                          · intro w'
                            go_simp
                            with_reducible rfl
                          rotate_left
                          · simp only [Act.put, List.setIfInBounds_toArray, List.set_cons_zero, List.set_cons_succ, i64_w, i32_w]
                            rfl
                          refine pure_ (i := 19) (N := some 7) (v := ?_) (a' := ?_) #[true, true, true, true, true, true, true, true, true, true, true, true, true, true, true, true, true, true, true, true] rfl rfl (any_of HT_.out (by kernel_rfl)) (fun _ _ _ h => h) (Or.inl ⟨by rfl, ?_⟩) ?_ ?_
                          rotate_left
                          · intro w'
                            go_simp
                            with_reducible rfl
                          rotate_left
                          · simp only [Act.put, List.setIfInBounds_toArray, List.set_cons_zero, List.set_cons_succ, i64_w, i32_w]
                            rfl
                          refine done_ (done_of HT_.out (by kernel_rfl)) ?_
                          try go_wp2
                          go_ret2
                          exact ⟨by first | rfl | (simp [errW_none, errW_some] <;> rfl) | (simp [*, errW_none, errW_some] <;> rfl), by repeat (first | (with_reducible first | exact HB.out | apply below_alloc | apply pw_below_drewN | apply below_drew1 | refine below_set ?_ GE316.out) | exact HB.out)⟩
                      · rw [if_neg c18] at H
                        exact absurd H (by simp)
                    · rw [if_neg c17] at H
                      exact absurd H (by simp)
                  · rw [if_neg c16] at H
                    exact absurd H (by simp)
                · rw [if_neg c15] at H
                  exact absurd H (by simp)
              · rw [if_neg c14] at H
                exact absurd H (by simp)
            · rw [if_neg c13] at H
              exact absurd H (by simp)
          · rw [if_neg c12] at H
            have c12b0 : (t309 == 0) = false := beq_eq_false_iff_ne.mpr c12
            have c12b1 : (t309 != 0) = true := bne_iff_ne.mpr c12
            simp only [Option.some.injEq, Prod.mk.injEq] at H
            obtain ⟨rfl, rfl⟩ := H
            go_wp2_with (first | ((with_reducible refine gate_callee (f := 30) rfl ?_); refine goesL_ (some 30) rfl rfl Try.func30 (by kernel_rfl) rfl #[.slice A1 l1.length c1, .int .i64 a2] rfl (by (try simp only [List.map_toArray, List.map_cons, List.map_nil]); first | done | rfl | (simp only [List.length_drop, List.length_take]; rfl)) ?_; (with_reducible refine (contradict_without.calls kj5 _ _ l1 a2 t305 _ ?side1 ?side2 A10.out).mono ?_); (case side1 => repeat (first | exact (Kd.C_below HR1.out HB.out) | (with_reducible refine Kd.C_alloc ?_ _) | (with_reducible refine Kd.C_drewN ?_ _) | (with_reducible refine Kd.C_drew ?_))); (case side2 => exact HC1.out); rintro e w40 ⟨v306, rfl, ho0, hb⟩; refine ⟨_, rfl, ?_⟩; have n0_ := Aside0.mk (Kd.R_lower ho0 (below_size (by repeat (first | (with_reducible first | exact HB.out | apply below_alloc | apply pw_below_drewN | apply below_drew1) | exact HB.out)))); have n1_ := Aside0.mk (below_step (by repeat (first | (with_reducible first | exact HB.out | apply below_alloc | apply pw_below_drewN | apply below_drew1) | exact HB.out)) hb); clear HB; have HO307 := n0_; have HB := n1_; clear n0_ n1_; (try clear hb); (try clear hb2); (try clear hk); (try clear hi); (try clear ho0); obtain ⟨Ao41, co41, eo41⟩ := Kd.R_slice HO307.out; subst eo41) | ((with_reducible refine gate_callee (f := 11) rfl ?_); refine goesL_ (some 31) rfl rfl Try.func11 (by kernel_rfl) rfl #[.int .i64 a0, .slice Ao41 t305.length co41] rfl (by (try simp only [List.map_toArray, List.map_cons, List.map_nil]); first | done | rfl | (simp only [List.length_drop, List.length_take]; rfl)) ?_; (with_reducible refine (chron_Tightest.calls kj5 a0 _ _ t305 t308 t309 _ ?side1 ?side2 A11.out).mono ?_); (case side1 => repeat (first | exact (Kd.R_reads' HO307.out).2.2 | (with_reducible refine Kd.C_alloc ?_ _) | (with_reducible refine Kd.C_drewN ?_ _) | (with_reducible refine Kd.C_drew ?_))); (case side2 => exact (Kd.R_reads' HO307.out).2.1); rintro e w42 ⟨v310, rfl, ho0, hb⟩; refine ⟨_, rfl, ?_⟩; have n0_ := Aside0.mk (Kd.R_below (by (with_reducible repeat (first | apply Kd.R_alloc | apply Kd.R_drewN | apply Kd.R_drew)); exact HO307.out) hb); have n1_ := Aside0.mk (Kd.S_lower ho0 (below_size (by repeat (first | (with_reducible first | exact HB.out | apply below_alloc | apply pw_below_drewN | apply below_drew1) | exact HB.out)))); have n2_ := Aside0.mk (below_step (by repeat (first | (with_reducible first | exact HB.out | apply below_alloc | apply pw_below_drewN | apply below_drew1) | exact HB.out)) hb); clear HO307; clear HB; have HO307 := n0_; have HO311 := n1_; have HB := n2_; clear n0_ n1_ n2_; (try clear hb); (try clear hb2); (try clear hk); (try clear hi); (try clear ho0)))
            go_ret2
            exact ⟨by first | rfl | (simp [errW_none, errW_some] <;> rfl) | (simp [*, errW_none, errW_some] <;> rfl), by repeat (first | (with_reducible first | exact HB.out | apply below_alloc | apply pw_below_drewN | apply below_drew1) | exact HB.out)⟩
  · rw [if_neg c5] at H
    have c5b0 : (t304 == 0) = false := beq_eq_false_iff_ne.mpr c5
    have c5b1 : (t304 != 0) = true := bne_iff_ne.mpr c5
    simp only [Option.some.injEq, Prod.mk.injEq] at H
    obtain ⟨rfl, rfl⟩ := H
    go_enter Try.func21, Try.ntmps21
    go_wp2_with (first | ((with_reducible refine gate_callee (f := 13) rfl ?_); refine goesL_ (some 14) rfl rfl Try.func13 (by kernel_rfl) rfl #[.int .i64 a0, .slice A1 l1.length c1] rfl (by (try simp only [List.map_toArray, List.map_cons, List.map_nil]); first | done | rfl | (simp only [List.length_drop, List.length_take]; rfl)) ?_; (with_reducible refine (chron_Check.calls k a0 _ _ l1 t304 _ ?side1 ?side2 A4.out).mono ?_); (case side1 => repeat (first | exact HR1.out | (with_reducible refine Kd.C_alloc ?_ _) | (with_reducible refine Kd.C_drewN ?_ _) | (with_reducible refine Kd.C_drew ?_))); (case side2 => exact HC1.out); rintro e w43 ⟨rfl, hb⟩; refine ⟨_, rfl, ?_⟩; have n0_ := Aside0.mk (below_step (by repeat (first | (with_reducible first | exact HB.out | apply below_alloc | apply pw_below_drewN | apply below_drew1) | exact HB.out)) hb); clear HB; have HB := n0_; clear n0_; (try clear hb); (try clear hb2); (try clear hk); (try clear hi)))
    go_ret2
    exact ⟨by first | rfl | (simp [errW_none, errW_some] <;> rfl) | (simp [*, errW_none, errW_some] <;> rfl), by repeat (first | (with_reducible first | exact HB.out | apply below_alloc | apply pw_below_drewN | apply below_drew1) | exact HB.out)⟩
end Go.Proofs.Ytfbjpdiaicaagaa.PAll
