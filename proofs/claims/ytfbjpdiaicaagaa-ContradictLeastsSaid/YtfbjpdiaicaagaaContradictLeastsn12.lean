/- Written by a program of this session out of the translation. -/
import Derived.Test.YtfbjpdiaicaagaaContradictLeastsn3
import Derived.Test.YtfbjpdiaicaagaaContradictLeastsn6
import Derived.Test.YtfbjpdiaicaagaaContradictLeastsn9
import Derived.Test.YtfbjpdiaicaagaaContradictLeastsn11
namespace Go.Proofs.Ytfbjpdiaicaagaa.PAll
open Go.RowKit Go.Proofs.YtfbjpdiaicaagaaW.PrintWords Go.Proofs.YtfbjpdiaicaagaaW.PrintLast Go.Proofs.YtfbjpdiaicaagaaW.PrintMore Go.Proofs.Ytfbjpdiaicaagaa.More2
attribute [local go_sem] max2_int min2_int max_two min_two max_three min_three max_four min_four tdiv2e18_ tdiv1e18_ cellSS_  -- for this text's walks alone
set_option linter.unusedVariables false
set_option linter.unusedSimpArgs false
mutual
def ephemerislaw2_ContradictLeasts.j0 : Nat → Int → List (S43) → List Int → Int → Int → Bool → Option (Bool)
  | 0, _, _, _, _, _, _ => none
  | k + 1, x0, x1, x5, x6, x7, x34 => if x34 = true then (ephemerislaw2_ContradictLeasts.j1 k x0 x1 x5 x6 6) else (ephemerislaw2_ContradictLeasts.j1 k x0 x1 x5 x6 x7)
def ephemerislaw2_ContradictLeasts.j1 : Nat → Int → List (S43) → List Int → Int → Int → Option (Bool)
  | 0, _, _, _, _, _ => none
  | k + 1, x0, x1, x5, x6, x7 => if x7 = 0 then (if 0 ≤ (x1.length : Int) then (if ((x1.length : Int) : Int).toNat ≤ 281474976710656 then ((some (List.replicate ((x1.length : Int) : Int).toNat false : List Bool)).bind fun y344 => (ephemerislaw2_ContradictLeasts.l0 k x0 x1 x5 x6 y344 (y344.length : Int) 0)) else (none)) else (none)) else (if x6 = x7 then (some ((x5.length : Int) == 0)) else (some false))
def ephemerislaw2_ContradictLeasts.l0 : Nat → Int → List (S43) → List Int → Int → List Bool → Int → Int → Option (Bool)
  | 0, _, _, _, _, _, _, _ => none
  | k + 1, x0, x1, x5, x6, x8, x49, x50 => if x50 < x49 then (if 0 ≤ x50 then (if x50 < (x8.length : Int) then (ephemerislaw2_ContradictLeasts.l0 k x0 x1 x5 x6 (x8.set (x50 : Int).toNat true) x49 (wrap64 (x50 + 1))) else (none)) else (none)) else (ephemerislaw2_ContradictLeasts.l1 k x0 x1 x5 x6 x8 (x1.length : Int) 0)
def ephemerislaw2_ContradictLeasts.l1 : Nat → Int → List (S43) → List Int → Int → List Bool → Int → Int → Option (Bool)
  | 0, _, _, _, _, _, _, _ => none
  | k + 1, x0, x1, x5, x6, x8, x58, x59 => if x59 < x58 then (if 0 ≤ x59 then (if x59 < (x8.length : Int) then (ephemerislaw2_ContradictLeasts.l2 k x0 x1 x5 x6 (x8.set (x59 : Int).toNat false) x59 ([] : List (S43)) x58 x59 x1 (x1.length : Int) 0) else (none)) else (none)) else (ephemerislaw2_ContradictLeasts.l3 k x5 x6 0 x8 (x8.length : Int) 0)
def ephemerislaw2_ContradictLeasts.l2 : Nat → Int → List (S43) → List Int → Int → List Bool → Int → List (S43) → Int → Int → List (S43) → Int → Int → Option (Bool)
  | 0, _, _, _, _, _, _, _, _, _, _, _, _ => none
  | k + 1, x0, x1, x5, x6, x8, x10, x11, x58, x59, x65, x66, x67 => if x67 < x66 then (if 0 ≤ x67 then (if x67 < (x65.length : Int) then (if x67 < (x8.length : Int) then (if rdOf false x8 x67 = true then (if x11.length < 4398046511104 then (ephemerislaw2_ContradictLeasts.l2 k x0 x1 x5 x6 x8 x10 (x11 ++ [(⟨(rd_T43 x65 x67).f0, (rd_T43 x65 x67).f1, (rd_T43 x65 x67).f2, (rd_T43 x65 x67).f3⟩ : S43)]) x58 x59 x65 x66 (wrap64 (x67 + 1))) else (none)) else (ephemerislaw2_ContradictLeasts.l2 k x0 x1 x5 x6 x8 x10 x11 x58 x59 x65 x66 (wrap64 (x67 + 1)))) else (none)) else (none)) else (none)) else ((ephemerisref2_Solvable.f k x0 x11).bind fun t355 => (if t355 = true then (if 0 ≤ x10 then (if x10 < (x8.length : Int) then (ephemerislaw2_ContradictLeasts.l1 k x0 x1 x5 x6 (x8.set (x10 : Int).toNat true) x58 (wrap64 (x59 + 1))) else (none)) else (none)) else (ephemerislaw2_ContradictLeasts.l1 k x0 x1 x5 x6 x8 x58 (wrap64 (x59 + 1)))))
def ephemerislaw2_ContradictLeasts.l3 : Nat → List Int → Int → Int → List Bool → Int → Int → Option (Bool)
  | 0, _, _, _, _, _, _ => none
  | k + 1, x5, x6, x14, x88, x89, x90 => if x90 < x89 then (if 0 ≤ x90 then (if x90 < (x88.length : Int) then (if rdOf false x88 x90 = true then (if x14 ≥ (x5.length : Int) then (some false) else (if 0 ≤ x14 then (if x14 < (x5.length : Int) then (if (rd x5 x14) = x90 then (ephemerislaw2_ContradictLeasts.l3 k x5 x6 (wrap64 (x14 + 1)) x88 x89 (wrap64 (x90 + 1))) else (some false)) else (none)) else (none))) else (ephemerislaw2_ContradictLeasts.l3 k x5 x6 x14 x88 x89 (wrap64 (x90 + 1)))) else (none)) else (none)) else (if x6 = 0 then (some (x14 == (x5.length : Int))) else (some false))
end
def ephemerislaw2_ContradictLeasts.f (k : Nat) (a0 : Int) (l1 : List (S43)) : Option (Bool) := (ephemerislaw2_contradictWorks.f k).bind fun t337 => (if t337 = true then ((contradict_Least.f k a0 l1).bind fun bt338 => ((ephemerisref2_ChronErr.f k a0 l1).bind fun t342 => (if t342 = 0 then ((ephemerisref2_Solvable.f k a0 l1).bind fun t343 => (ephemerislaw2_ContradictLeasts.j0 k a0 l1 bt338.1 bt338.2 t342 t343)) else (ephemerislaw2_ContradictLeasts.j0 k a0 l1 bt338.1 bt338.2 t342 false)))) else (some false))
set_option maxHeartbeats 8000000 in
set_option maxRecDepth 100000 in
theorem ephemerislaw2_ContradictLeasts.calls (k : Nat) (a0 : Int) (A1 : Option Addr) (c1 : Nat) (l1 : List (S43)) (r : Bool) (w : World) (hr1 : Kd.C k43 w A1 l1.length l1) (hc1 : l1.length ≤ c1) (h : ephemerislaw2_ContradictLeasts.f k a0 l1 = some r) (hT : r = true) :
    Calls Try.prog 6 #[.int .i64 a0, .slice A1 l1.length c1] w fun e w' => e = .returned (.bool r) ∧ Below w.heap.size w w' := by
  have hu43 := Try.underlying43
  have HR1 := Aside0.mk hr1
  have HC1 := Aside0.mk hc1
  clear hr1 hc1
  have HB := Aside0.mk (Below.refl w.heap.size w)
  have H : ((ephemerislaw2_contradictWorks.f k).bind fun t337 => (if t337 = true then ((contradict_Least.f k a0 l1).bind fun bt338 => ((ephemerisref2_ChronErr.f k a0 l1).bind fun t342 => (if t342 = 0 then ((ephemerisref2_Solvable.f k a0 l1).bind fun t343 => (ephemerislaw2_ContradictLeasts.j0 k a0 l1 bt338.1 bt338.2 t342 t343)) else (ephemerislaw2_ContradictLeasts.j0 k a0 l1 bt338.1 bt338.2 t342 false)))) else (some false))) = some r := h
  clear h
  replace H := Option.bind_eq_some_iff.mp H
  obtain ⟨t337, A30, H⟩ := H
  replace H : (if t337 = true then ((contradict_Least.f k a0 l1).bind fun bt338 => ((ephemerisref2_ChronErr.f k a0 l1).bind fun t342 => (if t342 = 0 then ((ephemerisref2_Solvable.f k a0 l1).bind fun t343 => (ephemerislaw2_ContradictLeasts.j0 k a0 l1 bt338.1 bt338.2 t342 t343)) else (ephemerislaw2_ContradictLeasts.j0 k a0 l1 bt338.1 bt338.2 t342 false)))) else (some false)) = some r := H
  have A3 := Aside0.mk A30
  clear A30
  by_cases c4 : t337 = true
  · subst c4
    have H1 : ((contradict_Least.f k a0 l1).bind fun bt338 => ((ephemerisref2_ChronErr.f k a0 l1).bind fun t342 => (if t342 = 0 then ((ephemerisref2_Solvable.f k a0 l1).bind fun t343 => (ephemerislaw2_ContradictLeasts.j0 k a0 l1 bt338.1 bt338.2 t342 t343)) else (ephemerislaw2_ContradictLeasts.j0 k a0 l1 bt338.1 bt338.2 t342 false)))) = some r := by rw [if_pos rfl] at H; exact H
    clear H
    have H := H1
    clear H1
    replace H := Option.bind_eq_some_iff.mp H
    obtain ⟨⟨t338, t339⟩, A50, H⟩ := H
    replace H : ((ephemerisref2_ChronErr.f k a0 l1).bind fun t342 => (if t342 = 0 then ((ephemerisref2_Solvable.f k a0 l1).bind fun t343 => (ephemerislaw2_ContradictLeasts.j0 k a0 l1 t338 t339 t342 t343)) else (ephemerislaw2_ContradictLeasts.j0 k a0 l1 t338 t339 t342 false))) = some r := H
    have A5 := Aside0.mk A50
    clear A50
    replace H := Option.bind_eq_some_iff.mp H
    obtain ⟨t342, A60, H⟩ := H
    replace H : (if t342 = 0 then ((ephemerisref2_Solvable.f k a0 l1).bind fun t343 => (ephemerislaw2_ContradictLeasts.j0 k a0 l1 t338 t339 t342 t343)) else (ephemerislaw2_ContradictLeasts.j0 k a0 l1 t338 t339 t342 false)) = some r := H
    have A6 := Aside0.mk A60
    clear A60
    have HC7 := Aside0.mk H
    clear H
    go_enter Try.func6, Try.ntmps6
    go_upto_region 5 with (first | ((with_reducible refine gate_callee (f := 19) rfl ?_); refine goesL_ (some 17) rfl rfl Try.func19 (by kernel_rfl) rfl #[] rfl (by (try simp only [List.map_toArray, List.map_cons, List.map_nil]); first | done | rfl | (simp only [List.length_drop, List.length_take]; rfl)) ?_; (with_reducible refine (ephemerislaw2_contradictWorks.calls k  true _ A3.out rfl).mono ?_); rintro e w8 ⟨rfl, hb⟩; refine ⟨_, rfl, ?_⟩; have n0_ := Aside0.mk (below_step (by repeat (first | (with_reducible first | exact HB.out | apply below_alloc | apply pw_below_drewN | apply below_drew1) | exact HB.out)) hb); clear HB; have HB := n0_; clear n0_; (try clear hb); (try clear hb2); (try clear hk); (try clear hi)) | ((with_reducible refine gate_callee (f := 20) rfl ?_); refine goesL_ (some 22) rfl rfl Try.func20 (by kernel_rfl) rfl #[.int .i64 a0, .slice A1 l1.length c1] rfl (by (try simp only [List.map_toArray, List.map_cons, List.map_nil]); first | done | rfl | (simp only [List.length_drop, List.length_take]; rfl)) ?_; (with_reducible refine (contradict_Least.calls k a0 _ _ l1 t338 t339 _ ?side1 ?side2 A5.out).mono ?_); (case side1 => repeat (first | exact (Kd.C_below HR1.out HB.out) | (with_reducible refine Kd.C_alloc ?_ _) | (with_reducible refine Kd.C_drewN ?_ _) | (with_reducible refine Kd.C_drew ?_))); (case side2 => exact HC1.out); rintro e w9 ⟨v340, rfl, ho0, hb⟩; refine ⟨_, rfl, ?_⟩; have n0_ := Aside0.mk (Kd.R_lower ho0 (below_size (by repeat (first | (with_reducible first | exact HB.out | apply below_alloc | apply pw_below_drewN | apply below_drew1) | exact HB.out)))); have n1_ := Aside0.mk (below_step (by repeat (first | (with_reducible first | exact HB.out | apply below_alloc | apply pw_below_drewN | apply below_drew1) | exact HB.out)) hb); clear HB; have HO341 := n0_; have HB := n1_; clear n0_ n1_; (try clear hb); (try clear hb2); (try clear hk); (try clear hi); (try clear ho0)) | ((with_reducible refine gate_callee (f := 12) rfl ?_); refine goesL_ (some 27) rfl rfl Try.func12 (by kernel_rfl) rfl #[.int .i64 a0, .slice A1 l1.length c1] rfl (by (try simp only [List.map_toArray, List.map_cons, List.map_nil]); first | done | rfl | (simp only [List.length_drop, List.length_take]; rfl)) ?_; (with_reducible refine (ephemerisref2_ChronErr.calls k a0 _ _ l1 t342 _ ?side1 ?side2 A6.out).mono ?_); (case side1 => repeat (first | exact (Kd.C_below HR1.out HB.out) | (with_reducible refine Kd.C_alloc ?_ _) | (with_reducible refine Kd.C_drewN ?_ _) | (with_reducible refine Kd.C_drew ?_))); (case side2 => exact HC1.out); rintro e w10 ⟨rfl, hb⟩; refine ⟨_, rfl, ?_⟩; have n0_ := Aside0.mk (Kd.R_below (by (with_reducible repeat (first | apply Kd.R_alloc | apply Kd.R_drewN | apply Kd.R_drew)); exact HO341.out) hb); have n1_ := Aside0.mk (below_step (by repeat (first | (with_reducible first | exact HB.out | apply below_alloc | apply pw_below_drewN | apply below_drew1) | exact HB.out)) hb); clear HO341; clear HB; have HO341 := n0_; have HB := n1_; clear n0_ n1_; (try clear hb); (try clear hb2); (try clear hk); (try clear hi)))
    (try simp only [Act.put, List.setIfInBounds_toArray, List.set_cons_zero, List.set_cons_succ])
    go_cut [34] (fun v34 wc => ∃ (kq : Nat) (x34_6 : Bool), v34 = .bool x34_6 ∧ Aside0 (ephemerislaw2_ContradictLeasts.j0 kq a0 l1 t338 t339 t342 x34_6 = some r) ∧ Aside0 (kq ≤ k) ∧ Aside0 (Kd.R (Kd.int .i64) 3 wc w.heap.size (fun _ => True) v340 t338) ∧ Aside0 (Below w.heap.size w wc))
    case first =>
      have H := HC7.out
      clear HC7
      by_cases c11 : t342 = 0
      · rw [if_pos c11] at H
        have c11b0 : (t342 == 0) = true := beq_iff_eq.mpr c11
        have c11b1 : (t342 != 0) = false := bne_eq_false_iff_eq.mpr c11
        clear c11
        (first | rw [c11b0] | (simp only [i64_w, i32_w]; rw [c11b0]) | skip)
        replace H := Option.bind_eq_some_iff.mp H
        obtain ⟨t343, A120, H⟩ := H
        replace H : (ephemerislaw2_ContradictLeasts.j0 k a0 l1 t338 t339 t342 t343) = some r := H
        have A12 := Aside0.mk A120
        clear A120
        have H' := Aside0.mk H
        clear H
        go_wp2_with (first | (go_at_call 14; (with_reducible refine (ephemerisref2_Solvable.calls k a0 _ _ l1 t343 _ ?side1 ?side2 A12.out).mono ?_); (case side1 => repeat (first | exact (Kd.C_below HR1.out HB.out) | (with_reducible refine Kd.C_alloc ?_ _) | (with_reducible refine Kd.C_drewN ?_ _) | (with_reducible refine Kd.C_drew ?_))); (case side2 => exact HC1.out); rintro e w13 ⟨rfl, hb⟩; have n0_ := Aside0.mk (Kd.R_below (by (with_reducible repeat (first | apply Kd.R_alloc | apply Kd.R_drewN | apply Kd.R_drew)); exact HO341.out) hb); have n1_ := Aside0.mk (below_step (by repeat (first | (with_reducible first | exact HB.out | apply below_alloc | apply pw_below_drewN | apply below_drew1) | exact HB.out)) hb); clear HO341; clear HB; have HO341 := n0_; have HB := n1_; clear n0_ n1_; (try clear hb); (try clear hb2); (try clear hk); (try clear hi)))
        go_meet
        case rel => exact ⟨_, (t343), (by first | rfl | (simp; done) | (simp [*]; done)), H', ⟨by first | omega | exact Nat.le_refl _⟩, ⟨by (with_reducible repeat (first | apply Kd.R_alloc | apply Kd.R_drewN | apply Kd.R_drew)); exact HO341.out⟩, ⟨by repeat (first | (with_reducible first | exact HB.out | apply below_alloc | apply pw_below_drewN | apply below_drew1) | exact HB.out)⟩⟩
      · rw [if_neg c11] at H
        have c11b0 : (t342 == 0) = false := beq_eq_false_iff_ne.mpr c11
        have c11b1 : (t342 != 0) = true := bne_iff_ne.mpr c11
        (first | rw [c11b0] | (simp only [i64_w, i32_w]; rw [c11b0]) | skip)
        have H' := Aside0.mk H
        clear H
        go_wp2
        go_meet
        case rel => exact ⟨_, (false), (by first | rfl | (simp; done) | (simp [*]; done)), H', ⟨by first | omega | exact Nat.le_refl _⟩, ⟨by (with_reducible repeat (first | apply Kd.R_alloc | apply Kd.R_drewN | apply Kd.R_drew)); exact HO341.out⟩, ⟨by repeat (first | (with_reducible first | exact HB.out | apply below_alloc | apply pw_below_drewN | apply below_drew1) | exact HB.out)⟩⟩
    case rest =>
      clear HC7
      try clear c1
      try clear c2
      try clear p2
      try clear c4
      try clear c6
      try clear c11
      try clear c11b0
      try clear c11b1
      try clear c12
      obtain ⟨kq, x34_6, rfl, HA, HJ6, HO_5, HB⟩ := hcut
      cases kq with
      | zero => exact absurd HA.out (by simp [ephemerislaw2_ContradictLeasts.j0])
      | succ kj6 =>
        have H := HA.out
        clear HA
        simp only [ephemerislaw2_ContradictLeasts.j0] at H
        have HC14 := Aside0.mk H
        clear H
        go_upto_if 34 with (fail)
        go_cut [7] (fun v7 wc => ∃ (kq : Nat) (x7_13 : Int), v7 = .int .i64 x7_13 ∧ Aside0 (ephemerislaw2_ContradictLeasts.j1 kq a0 l1 t338 t339 x7_13 = some r) ∧ Aside0 (kq ≤ kj6) ∧ Aside0 (Kd.R (Kd.int .i64) 3 wc w.heap.size (fun _ => True) v340 t338) ∧ Aside0 (Below w.heap.size w wc))
        case first =>
          have H := HC14.out
          clear HC14
          by_cases c15 : x34_6 = true
          · subst c15
            have H1 : (ephemerislaw2_ContradictLeasts.j1 kj6 a0 l1 t338 t339 6) = some r := by rw [if_pos rfl] at H; exact H
            clear H
            have H := H1
            clear H1
            have H' := Aside0.mk H
            clear H
            go_wp2
            go_meet
            case rel => exact ⟨_, (6), (by first | rfl | (simp; done) | (simp [*]; done)), H', ⟨by have := HJ6.out; first | omega | exact Nat.le_refl _⟩, ⟨by (with_reducible repeat (first | apply Kd.R_alloc | apply Kd.R_drewN | apply Kd.R_drew)); exact HO_5.out⟩, ⟨by repeat (first | (with_reducible first | exact HB.out | apply below_alloc | apply pw_below_drewN | apply below_drew1) | exact HB.out)⟩⟩
          · replace c15 := Bool.eq_false_iff.mpr c15
            subst c15
            have H1 : (ephemerislaw2_ContradictLeasts.j1 kj6 a0 l1 t338 t339 t342) = some r := by rw [if_neg (show ¬ (false = true) by decide)] at H; exact H
            clear H
            have H := H1
            clear H1
            have H' := Aside0.mk H
            clear H
            go_wp2
            go_meet
            case rel => exact ⟨_, (t342), (by first | rfl | (simp; done) | (simp [*]; done)), H', ⟨by have := HJ6.out; first | omega | exact Nat.le_refl _⟩, ⟨by (with_reducible repeat (first | apply Kd.R_alloc | apply Kd.R_drewN | apply Kd.R_drew)); exact HO_5.out⟩, ⟨by repeat (first | (with_reducible first | exact HB.out | apply below_alloc | apply pw_below_drewN | apply below_drew1) | exact HB.out)⟩⟩
        case rest =>
          clear HC14
          try clear c1
          try clear c2
          try clear p2
          try clear c4
          try clear c6
          try clear c11
          try clear c11b0
          try clear c11b1
          try clear c12
          try clear c15
          try clear p2
          obtain ⟨kq, x7_13, rfl, HA, HJ13, HO_5, HB⟩ := hcut
          cases kq with
          | zero => exact absurd HA.out (by simp [ephemerislaw2_ContradictLeasts.j1])
          | succ kj13 =>
            have H := HA.out
            clear HA
            simp only [ephemerislaw2_ContradictLeasts.j1] at H
            by_cases c16 : x7_13 = 0
            · rw [if_pos c16] at H
              have c16b0 : (x7_13 == 0) = true := beq_iff_eq.mpr c16
              have c16b1 : (x7_13 != 0) = false := bne_eq_false_iff_eq.mpr c16
              clear c16
              by_cases c17 : 0 ≤ (l1.length : Int)
              · rw [if_pos c17] at H
                have c17b0 := eq_true c17
                have c17b1 : decide (0 ≤ (l1.length : Int)) = true := decide_eq_true c17
                clear c17
                by_cases c18 : ((l1.length : Int) : Int).toNat ≤ 281474976710656
                · rw [if_pos c18] at H
                  have c18b0 := eq_true c18
                  have c18b1 : decide (((l1.length : Int) : Int).toNat ≤ 281474976710656) = true := decide_eq_true c18
                  clear c18
                  obtain ⟨y344, hy344⟩ : ∃ y_ : List Bool, y_ = (List.replicate ((l1.length : Int) : Int).toNat false) := ⟨_, rfl⟩
                  replace H : (ephemerislaw2_ContradictLeasts.l0 kj13 a0 l1 t338 t339 y344 (y344.length : Int) 0) = some r := by first | (rw [hy344]; with_reducible exact H) | (have H2_ := (Option.bind_some _ _).symm.trans H; rw [hy344]; with_reducible exact H2_) | (have H2_ := (Option.bind_some _ _).symm.trans H; with_reducible exact H2_) | with_reducible exact H | (rw [hy344]; exact H) | exact H
                  have Ny344 := Aside0.mk hy344
                  clear hy344
                  have H' := Aside0.mk H
                  clear H
                  go_wp2_with (first | ((with_reducible refine gate_dst (N := 47) rfl ?_); (try (refine gate_guard (by rfl) ?_; dsimp only)); refine Kd.R_make Kd.bool _ 4 rfl (N := 47) rfl 46 _ _ rfl (l1.length : Int) rfl rfl Try.underlying46 (.bool false) 1 info4 rfl (by decide) (by omega) false (ok := fun _ => True) (okp := fun _ => True) rfl (fun _ hk => hk) trivial (of_decide_eq_true (by first | (with_reducible assumption) | assumption)) (Nat.le_trans (Nat.mul_le_mul_right _ (of_decide_eq_true (by first | (with_reducible assumption) | assumption) : (l1.length : Int).toNat ≤ 281474976710656)) (by omega)) (Below.refl _ _) (Nat.le_refl _) ?_; intro v345 w19 ho20 hb hg_ hnew_; clear hg_ hnew_; (first | rw [← Ny344.out] at ho20 | (simp only [Int.reduceToNat] at ho20; rw [← Ny344.out] at ho20)); have n0_ := Aside0.mk (Kd.R_below (by (with_reducible repeat (first | apply Kd.R_alloc | apply Kd.R_drewN | apply Kd.R_drew)); exact HO_5.out) hb); have n1_ := Aside0.mk (Kd.R_lower ho20 (below_size (by repeat (first | (with_reducible first | exact HB.out | apply below_alloc | apply pw_below_drewN | apply below_drew1) | exact HB.out)))); have n2_ := Aside0.mk (below_step (by repeat (first | (with_reducible first | exact HB.out | apply below_alloc | apply pw_below_drewN | apply below_drew1) | exact HB.out)) hb); clear HO_5; clear HB; have HO_5 := n0_; have HO346 := n1_; have HB := n2_; clear n0_ n1_ n2_; clear hb ho20; obtain ⟨Ao21, co21, eo21⟩ := Kd.R_slice HO346.out; subst eo21))
                  go_loopg [50] kj13 (fun kq v50 w' => ∃ (x8_3 : List Bool) (x50_3 : Int), v50 = .int .i64 x50_3 ∧ Aside0 (ephemerislaw2_ContradictLeasts.l0 kq a0 l1 t338 t339 x8_3 (y344.length : Int) x50_3 = some r) ∧ Aside0 (kq ≤ kj13) ∧ Aside0 (Kd.R (Kd.int .i64) 3 w' w.heap.size (fun _ => True) v340 t338) ∧ Aside0 (Kd.R Kd.bool 4 w' w.heap.size (fun _ => True) (.slice Ao21 y344.length co21) x8_3) ∧ Aside0 (Below w.heap.size w w'))
                  case atStart => exact ⟨(y344), (0), (by first | rfl | (simp; done) | (simp [*]; done)), H', ⟨Nat.le_refl _⟩, ⟨by (with_reducible repeat (first | apply Kd.R_alloc | apply Kd.R_drewN | apply Kd.R_drew)); exact HO_5.out⟩, ⟨by (with_reducible repeat (first | apply Kd.R_alloc | apply Kd.R_drewN | apply Kd.R_drew)); exact HO346.out⟩, ⟨by repeat (first | (with_reducible first | exact HB.out | apply below_alloc | apply pw_below_drewN | apply below_drew1) | exact HB.out)⟩⟩
                  case round =>
                    clear H'
                    try clear c1
                    try clear c2
                    try clear p2
                    try clear c4
                    try clear c6
                    try clear c11
                    try clear c11b0
                    try clear c11b1
                    try clear c12
                    try clear c15
                    try clear c16
                    try clear c16b0
                    try clear c16b1
                    try clear c17
                    try clear c17b0
                    try clear c17b1
                    try clear c18
                    try clear c18b0
                    try clear c18b1
                    try clear c19
                    try clear c20
                    try clear p2
                    obtain ⟨x8_3, x50_3, rfl, HA, HK3, HO_5, HO_8, HB⟩ := hrel
                    have hl8_3 := (Kd.R_reads' HO_8.out).1
                    rw [hl8_3] at HO_8
                    (try simp only [hl8_3])
                    (try simp only [hl8_3] at HO_5)
                    cases gk with
                    | zero => exact absurd HA.out (by simp [ephemerislaw2_ContradictLeasts.l0])
                    | succ k3 =>
                      have H := HA.out
                      clear HA
                      simp only [ephemerislaw2_ContradictLeasts.l0] at H
                      by_cases c22 : x50_3 < (y344.length : Int)
                      · rw [if_pos c22] at H
                        have c22b0 : decide (x50_3 < (y344.length : Int)) = true := decide_eq_true c22
                        have c22b0z_ := c22b0
                        first | (rw [hl8_3] at c22b0) | skip
                        clear c22
                        by_cases c23 : 0 ≤ x50_3
                        · rw [if_pos c23] at H
                          have c23b0 : decide (0 ≤ x50_3) = true := decide_eq_true c23
                          clear c23
                          by_cases c24 : x50_3 < (x8_3.length : Int)
                          · rw [if_pos c24] at H
                            have c24b0 : decide (x50_3 < (x8_3.length : Int)) = true := decide_eq_true c24
                            clear c24
                            obtain ⟨y347, hy347⟩ : ∃ y_ : List Bool, y_ = (x8_3.set (x50_3 : Int).toNat true) := ⟨_, rfl⟩
                            replace H : (ephemerislaw2_ContradictLeasts.l0 k3 a0 l1 t338 t339 y347 (y344.length : Int) (wrap64 (x50_3 + 1))) = some r := by first | (rw [hy347]; with_reducible exact H) | (have H2_ := (Option.bind_some _ _).symm.trans H; rw [hy347]; with_reducible exact H2_) | (have H2_ := (Option.bind_some _ _).symm.trans H; with_reducible exact H2_) | with_reducible exact H | (rw [hy347]; exact H) | exact H
                            have Ny347 := Aside0.mk hy347
                            clear hy347
                            have H' := Aside0.mk H
                            clear H
                            have p25 : 0 ≤ (x50_3 : Int) := of_decide_eq_true (by first | (with_reducible assumption) | assumption)
                            have q25 : (x50_3 : Int) < ((x8_3.length : Int) : Int) := of_decide_eq_true (by first | (with_reducible assumption) | assumption)
                            obtain ⟨go25, co25, eo25, gb25, gl25, cl25, HG25⟩ := Kd.R_form HO_8.out (by omega)
                            (first | cases eo25 | (injection eo25 with ea_ en_ ec_; (first | subst ea_ | (injection ea_ with ea_; subst ea_)); subst ec_; clear en_))
                            have GB25 := Aside0.mk gb25
                            have GG25 := Aside0.mk HG25
                            clear gb25 gl25 HG25
                            obtain ⟨hx25_0, hf25_0⟩ := Kd.R_celln false HO_8.out (x50_3 : Int) p25 q25
                            replace p25 := eq_true p25
                            replace q25 := eq_true q25
                            have HP26 := Kd.R_putg HO_8.out (x50_3 : Int) true
                            go_wp2_with (first | ((with_reducible refine gate_store (t := 4) (p := 55) rfl ?_); refine store_event (t := 4) (p := 55) (v := ?vo_w27) (w1 := (wr.setCell ⟨go25, (x50_3 : Int).toNat, none⟩ (.bool true))) ?hg ?ho ?hn ?hr ?_; (case ho => rfl); (case hg => rfl); (case hn => rfl); (case hr => first | (go_simp; done) | (go_simp; rfl)); intro w27 hw; have hg : wr.grownBy w27 (some go25) := (by rw [hw]; exact HP26.2); have hp_ : Kd.R Kd.bool 4 w27 w.heap.size (fun _ => True) (.slice (some ⟨go25, 0, none⟩) x8_3.length co21) y347 := (by rw [hw, Ny347.out]; exact HP26.1); clear HP26; have n0_ := Aside0.mk (Kd.R_over' (v := (.slice (some ⟨go25, 0, none⟩) x8_3.length co21)) (by (with_reducible repeat (first | apply Kd.R_alloc | apply Kd.R_drewN | apply Kd.R_drew)); exact HO_5.out) (Kd.R_typed HO_8.out) (by decide) hg); have n1_ := Aside0.mk (hp_); have n2_ := Aside0.mk ((by rw [hw]; exact below_set (HB.out) GB25.out : Below w.heap.size w w27)); clear HO_5; clear HO_8; clear HB; have HO_5 := n0_; have HO_8 := n1_; have HB := n2_; clear n0_ n1_ n2_; clear hg hw hp_))
                            (try simp only [← hl8_3])
                            go_roundg k3
                            case measure => have := HJ6.out; have := HJ13.out; have := HK3.out; omega
                            case rel => exact ⟨(y347), (wrap64 (x50_3 + 1)), (by first | rfl | (simp; done) | (simp [*]; done)), H', ⟨by have := HJ6.out; have := HJ13.out; have := HK3.out; omega⟩, ⟨by (try simp only [hl8_3]); (with_reducible repeat (first | apply Kd.R_alloc | apply Kd.R_drewN | apply Kd.R_drew)); exact HO_5.out⟩, ⟨by (try simp only [hl8_3]); (with_reducible repeat (first | apply Kd.R_alloc | apply Kd.R_drewN | apply Kd.R_drew)); exact HO_8.out⟩, ⟨by repeat (first | (with_reducible first | exact HB.out | apply below_alloc | apply pw_below_drewN | apply below_drew1) | exact HB.out)⟩⟩
                          · rw [if_neg c24] at H
                            exact absurd H (by simp)
                        · rw [if_neg c23] at H
                          exact absurd H (by simp)
                      · rw [if_neg c22] at H
                        have c22b0 : decide (x50_3 < (y344.length : Int)) = false := decide_eq_false c22
                        have c22b0z_ := c22b0
                        first | (rw [hl8_3] at c22b0) | skip
                        clear c22
                        have H' := Aside0.mk H
                        clear H
                        go_wp2
                        go_loopg [59] k3 (fun kq v59 w' => ∃ (x8_4 : List Bool) (x59_4 : Int), v59 = .int .i64 x59_4 ∧ Aside0 (ephemerislaw2_ContradictLeasts.l1 kq a0 l1 t338 t339 x8_4 (l1.length : Int) x59_4 = some r) ∧ Aside0 (kq ≤ k3) ∧ Aside0 (Kd.R (Kd.int .i64) 3 w' w.heap.size (fun _ => True) v340 t338) ∧ Aside0 (Kd.R Kd.bool 4 w' w.heap.size (fun _ => True) (.slice Ao21 x8_3.length co21) x8_4) ∧ Aside0 (Below w.heap.size w w'))
                        case atStart => exact ⟨(x8_3), (0), (by first | rfl | (simp; done) | (simp [*]; done)), H', ⟨Nat.le_refl _⟩, ⟨by (try simp only [hl8_3]); (with_reducible repeat (first | apply Kd.R_alloc | apply Kd.R_drewN | apply Kd.R_drew)); exact HO_5.out⟩, ⟨by (try simp only [hl8_3]); (with_reducible repeat (first | apply Kd.R_alloc | apply Kd.R_drewN | apply Kd.R_drew)); exact HO_8.out⟩, ⟨by repeat (first | (with_reducible first | exact HB.out | apply below_alloc | apply pw_below_drewN | apply below_drew1) | exact HB.out)⟩⟩
                        case round =>
                          clear H'
                          try clear c1
                          try clear c2
                          try clear p2
                          try clear q2
                          try clear hx2
                          try clear hf2
                          try clear c4
                          try clear c6
                          try clear p6
                          try clear c11
                          try clear c11b0
                          try clear c11b1
                          try clear c12
                          try clear c15
                          try clear c16
                          try clear c16b0
                          try clear c16b1
                          try clear c17
                          try clear c17b0
                          try clear c17b1
                          try clear c18
                          try clear c18b0
                          try clear c18b1
                          try clear c19
                          try clear c20
                          try clear c22
                          try clear c22b0
                          try clear c23
                          try clear c23b0
                          try clear c24
                          try clear c24b0
                          try clear p25
                          try clear q25
                          try clear hx25
                          try clear hf25
                          try clear hx25_0
                          try clear p2
                          try clear p25
                          try clear q25
                          obtain ⟨x8_4, x59_4, rfl, HA, HK4, HO_5, HO_8, HB⟩ := hrel
                          have hl8_4 := (Kd.R_reads' HO_8.out).1
                          rw [hl8_4] at HO_8
                          (try simp only [hl8_4])
                          (try simp only [hl8_4] at HO_5)
                          cases gk with
                          | zero => exact absurd HA.out (by simp [ephemerislaw2_ContradictLeasts.l1])
                          | succ k4 =>
                            have H := HA.out
                            clear HA
                            simp only [ephemerislaw2_ContradictLeasts.l1] at H
                            by_cases c28 : x59_4 < (l1.length : Int)
                            · rw [if_pos c28] at H
                              have c28b0 : decide (x59_4 < (l1.length : Int)) = true := decide_eq_true c28
                              clear c28
                              by_cases c29 : 0 ≤ x59_4
                              · rw [if_pos c29] at H
                                have c29b0 : decide (0 ≤ x59_4) = true := decide_eq_true c29
                                clear c29
                                by_cases c30 : x59_4 < (x8_4.length : Int)
                                · rw [if_pos c30] at H
                                  have c30b0 : decide (x59_4 < (x8_4.length : Int)) = true := decide_eq_true c30
                                  clear c30
                                  obtain ⟨y348, hy348⟩ : ∃ y_ : List Bool, y_ = (x8_4.set (x59_4 : Int).toNat false) := ⟨_, rfl⟩
                                  replace H : (ephemerislaw2_ContradictLeasts.l2 k4 a0 l1 t338 t339 y348 x59_4 ([] : List (S43)) (l1.length : Int) x59_4 l1 (l1.length : Int) 0) = some r := by first | (rw [hy348]; with_reducible exact H) | (have H2_ := (Option.bind_some _ _).symm.trans H; rw [hy348]; with_reducible exact H2_) | (have H2_ := (Option.bind_some _ _).symm.trans H; with_reducible exact H2_) | with_reducible exact H | (rw [hy348]; exact H) | exact H
                                  have Ny348 := Aside0.mk hy348
                                  clear hy348
                                  have H' := Aside0.mk H
                                  clear H
                                  have p31 : 0 ≤ (x59_4 : Int) := of_decide_eq_true (by first | (with_reducible assumption) | assumption)
                                  have q31 : (x59_4 : Int) < ((x8_4.length : Int) : Int) := of_decide_eq_true (by first | (with_reducible assumption) | assumption)
                                  obtain ⟨go31, co31, eo31, gb31, gl31, cl31, HG31⟩ := Kd.R_form HO_8.out (by omega)
                                  (first | cases eo31 | (injection eo31 with ea_ en_ ec_; (first | subst ea_ | (injection ea_ with ea_; subst ea_)); subst ec_; clear en_))
                                  have GB31 := Aside0.mk gb31
                                  have GG31 := Aside0.mk HG31
                                  clear gb31 gl31 HG31
                                  obtain ⟨hx31_0, hf31_0⟩ := Kd.R_celln false HO_8.out (x59_4 : Int) p31 q31
                                  replace p31 := eq_true p31
                                  replace q31 := eq_true q31
                                  have HP32 := Kd.R_putg HO_8.out (x59_4 : Int) false
                                  go_wp2_with (first | ((with_reducible refine gate_store (t := 4) (p := 64) rfl ?_); refine store_event (t := 4) (p := 64) (v := ?vo_w33) (w1 := (wr.setCell ⟨go31, (x59_4 : Int).toNat, none⟩ (.bool false))) ?hg ?ho ?hn ?hr ?_; (case ho => rfl); (case hg => rfl); (case hn => rfl); (case hr => first | (go_simp; done) | (go_simp; rfl)); intro w33 hw; have hg : wr.grownBy w33 (some go31) := (by rw [hw]; exact HP32.2); have hp_ : Kd.R Kd.bool 4 w33 w.heap.size (fun _ => True) (.slice (some ⟨go31, 0, none⟩) x8_4.length co21) y348 := (by rw [hw, Ny348.out]; exact HP32.1); clear HP32; have n0_ := Aside0.mk (Kd.R_over' (v := (.slice (some ⟨go31, 0, none⟩) x8_4.length co21)) (by (with_reducible repeat (first | apply Kd.R_alloc | apply Kd.R_drewN | apply Kd.R_drew)); exact HO_5.out) (Kd.R_typed HO_8.out) (by decide) hg); have n1_ := Aside0.mk (hp_); have n2_ := Aside0.mk ((by rw [hw]; exact below_set (HB.out) GB31.out : Below w.heap.size w w33)); clear HO_5; clear HO_8; clear HB; have HO_5 := n0_; have HO_8 := n1_; have HB := n2_; clear n0_ n1_ n2_; clear hg hw hp_))
                                  go_loopg [11, 67] k4 (fun kq v11 v67 w' => ∃ (x11_5 : List (S43)) (x67_5 : Int), v67 = .int .i64 x67_5 ∧ Aside0 (ephemerislaw2_ContradictLeasts.l2 kq a0 l1 t338 t339 y348 x59_4 x11_5 (l1.length : Int) x59_4 l1 (l1.length : Int) x67_5 = some r) ∧ Aside0 (kq ≤ k4) ∧ Aside0 (Kd.R (Kd.int .i64) 3 w' w.heap.size (fun _ => True) v340 t338) ∧ Aside0 (Kd.R Kd.bool 4 w' w.heap.size (fun _ => True) (.slice (some ⟨go31, 0, none⟩) x8_4.length co21) y348) ∧ Aside0 (Kd.R k43 43 w' w.heap.size (fun _ => True) v11 x11_5) ∧ Aside0 (Below w.heap.size w w'))
                                  case atStart => exact ⟨(([] : List (S43))), (0), (by first | rfl | (simp; done) | (simp [*]; done)), H', ⟨Nat.le_refl _⟩, ⟨by (try simp only [hl8_3]); (try simp only [hl8_4]); (with_reducible repeat (first | apply Kd.R_alloc | apply Kd.R_drewN | apply Kd.R_drew)); exact HO_5.out⟩, ⟨by (try simp only [hl8_3]); (try simp only [hl8_4]); (with_reducible repeat (first | apply Kd.R_alloc | apply Kd.R_drewN | apply Kd.R_drew)); exact HO_8.out⟩, ⟨by (try simp only [hl8_3]); (try simp only [hl8_4]); first | exact Kd.R_nil _ _ _ _ _ | exact Kd.N_nil _ _ _ _ _ | exact Kd.V_nil _ _ _ _ _ | exact Kd.Q_nil _ _ _ _ _ | exact Kd.S_nil _ _ _ _ _⟩, ⟨by repeat (first | (with_reducible first | exact HB.out | apply below_alloc | apply pw_below_drewN | apply below_drew1) | exact HB.out)⟩⟩
                                  case round =>
                                    clear H'
                                    try clear c1
                                    try clear c2
                                    try clear p2
                                    try clear q2
                                    try clear hx2
                                    try clear hf2
                                    try clear c3
                                    try clear p3
                                    try clear q3
                                    try clear hx3
                                    try clear hf3
                                    try clear c4
                                    try clear c6
                                    try clear p6
                                    try clear c11
                                    try clear c11b0
                                    try clear c11b1
                                    try clear c12
                                    try clear c15
                                    try clear c16
                                    try clear c16b0
                                    try clear c16b1
                                    try clear c17
                                    try clear c17b0
                                    try clear c17b1
                                    try clear c18
                                    try clear c18b0
                                    try clear c18b1
                                    try clear c19
                                    try clear c20
                                    try clear c22
                                    try clear c22b0
                                    try clear c23
                                    try clear c23b0
                                    try clear c24
                                    try clear c24b0
                                    try clear p25
                                    try clear q25
                                    try clear hx25
                                    try clear hf25
                                    try clear c28
                                    try clear c28b0
                                    try clear c29
                                    try clear c29b0
                                    try clear c30
                                    try clear c30b0
                                    try clear p31
                                    try clear q31
                                    try clear hx31
                                    try clear hf31
                                    try clear hx25_0
                                    try clear hx31_0
                                    try clear p2
                                    try clear p25
                                    try clear p31
                                    try clear p6
                                    try clear q2
                                    try clear q25
                                    try clear q31
                                    obtain ⟨x11_5, x67_5, rfl, HA, HK5, HO_5, HO_8, HO_11, HB⟩ := hrel
                                    have hl8_5 := (Kd.R_reads' HO_8.out).1
                                    rw [hl8_5] at HO_8
                                    (try simp only [hl8_5])
                                    (try simp only [hl8_5] at HO_5)
                                    (try simp only [hl8_5] at HO_11)
                                    cases gk with
                                    | zero => exact absurd HA.out (by simp [ephemerislaw2_ContradictLeasts.l2])
                                    | succ k5 =>
                                      have H := HA.out
                                      clear HA
                                      simp only [ephemerislaw2_ContradictLeasts.l2] at H
                                      by_cases c34 : x67_5 < (l1.length : Int)
                                      · rw [if_pos c34] at H
                                        have c34b0 : decide (x67_5 < (l1.length : Int)) = true := decide_eq_true c34
                                        clear c34
                                        by_cases c35 : 0 ≤ x67_5
                                        · rw [if_pos c35] at H
                                          have c35b0 : decide (0 ≤ x67_5) = true := decide_eq_true c35
                                          clear c35
                                          by_cases c36 : x67_5 < (l1.length : Int)
                                          · rw [if_pos c36] at H
                                            have c36b0 : decide (x67_5 < (l1.length : Int)) = true := decide_eq_true c36
                                            clear c36
                                            by_cases c37 : x67_5 < (y348.length : Int)
                                            · rw [if_pos c37] at H
                                              have c37b0 : decide (x67_5 < (y348.length : Int)) = true := decide_eq_true c37
                                              have c37b0z_ := c37b0
                                              first | (rw [hl8_5] at c37b0) | (rw [hl8_4] at c37b0) | (rw [hl8_3] at c37b0) | skip
                                              clear c37
                                              obtain ⟨bq38, hbq38⟩ : ∃ b_ : Bool, b_ = (rdOf false y348 x67_5) := ⟨_, rfl⟩
                                              replace H : (if bq38 = true then (if x11_5.length < 4398046511104 then (ephemerislaw2_ContradictLeasts.l2 k5 a0 l1 t338 t339 y348 x59_4 (x11_5 ++ [(⟨(rd_T43 l1 x67_5).f0, (rd_T43 l1 x67_5).f1, (rd_T43 l1 x67_5).f2, (rd_T43 l1 x67_5).f3⟩ : S43)]) (l1.length : Int) x59_4 l1 (l1.length : Int) (wrap64 (x67_5 + 1))) else (none)) else (ephemerislaw2_ContradictLeasts.l2 k5 a0 l1 t338 t339 y348 x59_4 x11_5 (l1.length : Int) x59_4 l1 (l1.length : Int) (wrap64 (x67_5 + 1)))) = some r := by rw [← hbq38] at H; exact H
                                              have Nbq38 := Aside0.mk hbq38
                                              clear hbq38
                                              by_cases c39 : bq38 = true
                                              · subst c39
                                                have H1 : (if x11_5.length < 4398046511104 then (ephemerislaw2_ContradictLeasts.l2 k5 a0 l1 t338 t339 y348 x59_4 (x11_5 ++ [(⟨(rd_T43 l1 x67_5).f0, (rd_T43 l1 x67_5).f1, (rd_T43 l1 x67_5).f2, (rd_T43 l1 x67_5).f3⟩ : S43)]) (l1.length : Int) x59_4 l1 (l1.length : Int) (wrap64 (x67_5 + 1))) else (none)) = some r := by rw [if_pos rfl] at H; exact H
                                                clear H
                                                have H := H1
                                                clear H1
                                                by_cases c40 : x11_5.length < 4398046511104
                                                · rw [if_pos c40] at H
                                                  have LMc40 := Aside0.mk c40
                                                  clear c40
                                                  obtain ⟨y352, hy352⟩ : ∃ y_ : List (S43), y_ = (x11_5 ++ [(⟨(rd_T43 l1 x67_5).f0, (rd_T43 l1 x67_5).f1, (rd_T43 l1 x67_5).f2, (rd_T43 l1 x67_5).f3⟩ : S43)]) := ⟨_, rfl⟩
                                                  replace H : (ephemerislaw2_ContradictLeasts.l2 k5 a0 l1 t338 t339 y348 x59_4 y352 (l1.length : Int) x59_4 l1 (l1.length : Int) (wrap64 (x67_5 + 1))) = some r := by first | (rw [hy352]; with_reducible exact H) | (have H2_ := (Option.bind_some _ _).symm.trans H; rw [hy352]; with_reducible exact H2_) | (have H2_ := (Option.bind_some _ _).symm.trans H; with_reducible exact H2_) | with_reducible exact H | (rw [hy352]; exact H) | exact H
                                                  have Ny352 := Aside0.mk hy352
                                                  clear hy352
                                                  have H' := Aside0.mk H
                                                  clear H
                                                  have p349 : 0 ≤ (x67_5 : Int) := of_decide_eq_true (by first | (with_reducible assumption) | assumption)
                                                  have q349 : x67_5 < (l1.length : Int) := of_decide_eq_true (by first | (with_reducible assumption) | assumption)
                                                  obtain ⟨ad349, e349, hx349_0, hx349_1, hx349_2, hx349_3⟩ := at_T43 HR1.out x67_5 p349 q349
                                                  cases e349
                                                  replace hx349_0 := (HB.out.cell (World.block_lt_of_cell? w _ hx349_0)).trans hx349_0
                                                  replace hx349_1 := (HB.out.cell (World.block_lt_of_cell? w _ hx349_1)).trans hx349_1
                                                  replace hx349_2 := (HB.out.cell (World.block_lt_of_cell? w _ hx349_2)).trans hx349_2
                                                  replace hx349_3 := (HB.out.cell (World.block_lt_of_cell? w _ hx349_3)).trans hx349_3
                                                  replace p349 := eq_true p349
                                                  replace q349 := eq_true q349
                                                  go_wp2_with (first | ((with_reducible refine gate_dst (N := 13) rfl ?_); (try (refine gate_guard (by rfl) ?_; dsimp only)); refine box_event ?hg (N := 13) ?hd (cs := #[.int .i64 0, .int .i64 0, .int .i64 0, .int .i64 0]) (t := 43) ?hr ?_; (case hd => rfl); (case hg => rfl); (case hr => first | (go_simp; done) | (go_simp; rfl)); intro gb350 hg w41 hbox hb; have n0_ := Aside0.mk (Kd.R_below (by (with_reducible repeat (first | apply Kd.R_alloc | apply Kd.R_drewN | apply Kd.R_drew)); exact HO_5.out) hb); have n1_ := Aside0.mk (Kd.R_below (by (with_reducible repeat (first | apply Kd.R_alloc | apply Kd.R_drewN | apply Kd.R_drew)); exact HO_8.out) hb); have n2_ := Aside0.mk (Kd.R_below (Kd.R_elderB (by (with_reducible repeat (first | apply Kd.R_alloc | apply Kd.R_drewN | apply Kd.R_drew)); exact HO_11.out) gb350 (Nat.le_of_eq hg.symm)) hb); have n3_ := Aside0.mk (below_step (by repeat (first | (with_reducible first | exact HB.out | apply below_alloc | apply pw_below_drewN | apply below_drew1) | exact HB.out)) hb); have n4_ := Aside0.mk (hbox); have n5_ := Aside0.mk ((by rw [hg]; exact (below_size (by repeat (first | (with_reducible first | exact HB.out | apply below_alloc | apply pw_below_drewN | apply below_drew1) | exact HB.out))) : w.heap.size ≤ gb350)); have n6_ := Aside0.mk ((by rw [hg]; exact (below_size (by repeat (first | (with_reducible first | exact HB.out | apply below_alloc | apply pw_below_drewN | apply below_drew1) | exact HB.out))) : w.heap.size ≤ gb350)); clear HO_5; clear HO_8; clear HO_11; clear HB; have HO_5 := n0_; have HO_8 := n1_; have HO_11 := n2_; have HB := n3_; have BK350 := n4_; have GW350 := n5_; have GE350 := n6_; clear n0_ n1_ n2_ n3_ n4_ n5_ n6_; clear hb hbox hg; have hcz42_0 : w41.cell? ⟨gb350, 0, none⟩ = some (.int .i64 0) := (blk_cell BK350.out 0).trans rfl; have hcz42_1 : w41.cell? ⟨gb350, 1, none⟩ = some (.int .i64 0) := (blk_cell BK350.out 1).trans rfl; have hcz42_2 : w41.cell? ⟨gb350, 2, none⟩ = some (.int .i64 0) := (blk_cell BK350.out 2).trans rfl; have hcz42_3 : w41.cell? ⟨gb350, 3, none⟩ = some (.int .i64 0) := (blk_cell BK350.out 3).trans rfl; have hfz42_0 := blk_frozen BK350.out 0; have hfz42_1 := blk_frozen BK350.out 1; have hfz42_2 := blk_frozen BK350.out 2; have hfz42_3 := blk_frozen BK350.out 3; have p351 : 0 ≤ (x67_5 : Int) := of_decide_eq_true (by first | (with_reducible assumption) | assumption); have q351 : x67_5 < (y348.length : Int) := of_decide_eq_true (by first | (with_reducible assumption) | assumption); obtain ⟨ad351, e351, hx351_0⟩ := Kd.at_bool (Kd.R_reads' HO_8.out).2.2 x67_5 p351 q351; (try rw [← Nbq38.out] at hx351_0); obtain rfl : (⟨go31, 0, none⟩ : Addr) = ad351 := (by injection e351); (first | simp only [add_plain] at hx351_0 | simp only [add_at] at hx351_0 | simp only [Addr.add, Nat.zero_add] at hx351_0 | skip); have hn351_0 : (⟨go31, 0, none⟩ : Addr).block ≠ gb350 := Kd.own_blk (Kd.R_ne HO_8.out BK350.out (by decide)); have hn351_1 : (⟨go31, 0, none⟩ : Addr).block ≠ gb350 := Kd.own_blk (Kd.R_ne HO_8.out BK350.out (by decide)); have hn351_2 : (⟨go31, 0, none⟩ : Addr).block ≠ gb350 := Kd.own_blk (Kd.R_ne HO_8.out BK350.out (by decide)); have hn351_3 : (⟨go31, 0, none⟩ : Addr).block ≠ gb350 := Kd.own_blk (Kd.R_ne HO_8.out BK350.out (by decide)); replace hx351_0 := (cell_far (p := ⟨gb350, 0, none⟩) (by first | (rw [add_block]; exact hn351_0) | (show (Addr.add _ _).block ≠ _; rw [add_block]; exact hn351_0) | exact hn351_0) (.int .i64 ((rd_T43 l1 x67_5).f0))).trans hx351_0; replace hx351_0 := (cell_far (p := ⟨gb350, 1, none⟩) (by first | (rw [add_block]; exact hn351_1) | (show (Addr.add _ _).block ≠ _; rw [add_block]; exact hn351_1) | exact hn351_1) (.int .i64 ((rd_T43 l1 x67_5).f1))).trans hx351_0; replace hx351_0 := (cell_far (p := ⟨gb350, 2, none⟩) (by first | (rw [add_block]; exact hn351_2) | (show (Addr.add _ _).block ≠ _; rw [add_block]; exact hn351_2) | exact hn351_2) (.int .i64 ((rd_T43 l1 x67_5).f2))).trans hx351_0; replace hx351_0 := (cell_far (p := ⟨gb350, 3, none⟩) (by first | (rw [add_block]; exact hn351_3) | (show (Addr.add _ _).block ≠ _; rw [add_block]; exact hn351_3) | exact hn351_3) (.int .i64 ((rd_T43 l1 x67_5).f3))).trans hx351_0; clear hn351_0; clear hn351_1; clear hn351_2; clear hn351_3; replace p351 := eq_true p351; replace q351 := eq_true q351) | ((with_reducible refine gate_builtin (b := .append) (xs := #[.tmp 76, .tmp 78]) rfl ?_); (try (refine gate_guard (by rfl) ?_; dsimp only)); at_builtin; refine Kd.R_append k43 (w0 := w) w.heap.size rfl (.tmp 76) (.tmp 78) 22 43 (.agg #[(.int .i64 0), (.int .i64 0), (.int .i64 0), (.int .i64 0)]) 32 rfl Try.underlying22 info43 rfl (by decide) (by omega) u11 x11_5 (⟨(rd_T43 l1 x67_5).f0, (rd_T43 l1 x67_5).f1, (rd_T43 l1 x67_5).f2, (rd_T43 l1 x67_5).f3⟩ : S43) [.int .i64 ((rd_T43 l1 x67_5).f0), .int .i64 ((rd_T43 l1 x67_5).f1), .int .i64 ((rd_T43 l1 x67_5).f2), .int .i64 ((rd_T43 l1 x67_5).f3)] (fun k_ => k_ ≠ gb350) (fun _ => False) rfl (by first | (go_simp; done) | (go_simp; rfl)) ?aP (fun _ hk => hk.elim) ?aF ?aO ?aB ?aS ?aL ?_; (case aP => exact k43_mkM _ _ _ (⟨(rd_T43 l1 x67_5).f0, (rd_T43 l1 x67_5).f1, (rd_T43 l1 x67_5).f2, (rd_T43 l1 x67_5).f3⟩ : S43)); (case aB => exact (by repeat (first | (with_reducible first | exact HB.out | apply below_alloc | apply pw_below_drewN | apply below_drew1 | refine below_set ?_ GE350.out) | exact HB.out))); (case aF => exact (fun k_ hk => Kd.freshB (g := gb350) (o := .cells #[.int .i64 ((rd_T43 l1 x67_5).f0), .int .i64 ((rd_T43 l1 x67_5).f1), .int .i64 ((rd_T43 l1 x67_5).f2), .int .i64 ((rd_T43 l1 x67_5).f3)] 43 (0, 0)) (by (with_reducible repeat (first | refine blk_drewN ?_ _ | refine blk_drew ?_ | refine blk_alloc ?_ _)); refine blk_put (cs := #[.int .i64 ((rd_T43 l1 x67_5).f0), .int .i64 ((rd_T43 l1 x67_5).f1), .int .i64 ((rd_T43 l1 x67_5).f2), .int .i64 0]) ?_ 3 _ rfl; (with_reducible repeat (first | refine blk_drewN ?_ _ | refine blk_drew ?_ | refine blk_alloc ?_ _)); refine blk_put (cs := #[.int .i64 ((rd_T43 l1 x67_5).f0), .int .i64 ((rd_T43 l1 x67_5).f1), .int .i64 0, .int .i64 0]) ?_ 2 _ rfl; (with_reducible repeat (first | refine blk_drewN ?_ _ | refine blk_drew ?_ | refine blk_alloc ?_ _)); refine blk_put (cs := #[.int .i64 ((rd_T43 l1 x67_5).f0), .int .i64 0, .int .i64 0, .int .i64 0]) ?_ 1 _ rfl; (with_reducible repeat (first | refine blk_drewN ?_ _ | refine blk_drew ?_ | refine blk_alloc ?_ _)); refine blk_put (cs := #[.int .i64 0, .int .i64 0, .int .i64 0, .int .i64 0]) ?_ 0 _ rfl; (with_reducible repeat (first | refine blk_drewN ?_ _ | refine blk_drew ?_ | refine blk_alloc ?_ _)); exact BK350.out) k_ hk)); (case aO => exact (by (with_reducible repeat (first | apply Kd.R_alloc | apply Kd.R_drewN | apply Kd.R_drew)); exact Kd.R_mono (Kd.R_far (p := ⟨gb350, 3, none⟩) (Kd.R_far (p := ⟨gb350, 2, none⟩) (Kd.R_far (p := ⟨gb350, 1, none⟩) (Kd.R_far (p := ⟨gb350, 0, none⟩) (Kd.R_mono HO_11.out (fun k_ hk => (⟨hk, hk.2⟩ : _ ∧ k_ ≠ gb350))) (fun _ hk => hk.2) (.int .i64 ((rd_T43 l1 x67_5).f0))) (fun _ hk => hk.2) (.int .i64 ((rd_T43 l1 x67_5).f1))) (fun _ hk => hk.2) (.int .i64 ((rd_T43 l1 x67_5).f2))) (fun _ hk => hk.2) (.int .i64 ((rd_T43 l1 x67_5).f3))) (fun _ hk => hk.1.2))); (case aS => exact (below_size (by repeat (first | (with_reducible first | exact HB.out | apply below_alloc | apply pw_below_drewN | apply below_drew1 | refine below_set ?_ GE350.out) | exact HB.out)))); (case aL => have := LMc40.out; omega); intro v353 w43 ho hb hg hat; rw [← Ny352.out] at ho; have n0_ := Aside0.mk (Kd.R_over' (by (with_reducible repeat (first | apply Kd.R_alloc | apply Kd.R_drewN | apply Kd.R_drew)); exact (Kd.R_mono (Kd.R_far (p := ⟨gb350, 3, none⟩) (Kd.R_far (p := ⟨gb350, 2, none⟩) (Kd.R_far (p := ⟨gb350, 1, none⟩) (Kd.R_far (p := ⟨gb350, 0, none⟩) (Kd.R_types HO_5.out BK350.out (by decide)) (fun _ hk => hk.2) (.int .i64 ((rd_T43 l1 x67_5).f0))) (fun _ hk => hk.2) (.int .i64 ((rd_T43 l1 x67_5).f1))) (fun _ hk => hk.2) (.int .i64 ((rd_T43 l1 x67_5).f2))) (fun _ hk => hk.2) (.int .i64 ((rd_T43 l1 x67_5).f3))) (fun _ h_ => h_.1))) (Kd.R_typed (by (with_reducible repeat (first | apply Kd.R_alloc | apply Kd.R_drewN | apply Kd.R_drew)); exact (Kd.R_mono (Kd.R_far (p := ⟨gb350, 3, none⟩) (Kd.R_far (p := ⟨gb350, 2, none⟩) (Kd.R_far (p := ⟨gb350, 1, none⟩) (Kd.R_far (p := ⟨gb350, 0, none⟩) (Kd.R_mono HO_11.out (fun k_ hk => (⟨hk, hk.2⟩ : _ ∧ k_ ≠ gb350))) (fun _ hk => hk.2) (.int .i64 ((rd_T43 l1 x67_5).f0))) (fun _ hk => hk.2) (.int .i64 ((rd_T43 l1 x67_5).f1))) (fun _ hk => hk.2) (.int .i64 ((rd_T43 l1 x67_5).f2))) (fun _ hk => hk.2) (.int .i64 ((rd_T43 l1 x67_5).f3))) (fun _ h_ => h_.1)))) (by decide) hg); have n1_ := Aside0.mk (Kd.R_over' (by (with_reducible repeat (first | apply Kd.R_alloc | apply Kd.R_drewN | apply Kd.R_drew)); exact (Kd.R_mono (Kd.R_far (p := ⟨gb350, 3, none⟩) (Kd.R_far (p := ⟨gb350, 2, none⟩) (Kd.R_far (p := ⟨gb350, 1, none⟩) (Kd.R_far (p := ⟨gb350, 0, none⟩) (Kd.R_types HO_8.out BK350.out (by decide)) (fun _ hk => hk.2) (.int .i64 ((rd_T43 l1 x67_5).f0))) (fun _ hk => hk.2) (.int .i64 ((rd_T43 l1 x67_5).f1))) (fun _ hk => hk.2) (.int .i64 ((rd_T43 l1 x67_5).f2))) (fun _ hk => hk.2) (.int .i64 ((rd_T43 l1 x67_5).f3))) (fun _ h_ => h_.1))) (Kd.R_typed (by (with_reducible repeat (first | apply Kd.R_alloc | apply Kd.R_drewN | apply Kd.R_drew)); exact (Kd.R_mono (Kd.R_far (p := ⟨gb350, 3, none⟩) (Kd.R_far (p := ⟨gb350, 2, none⟩) (Kd.R_far (p := ⟨gb350, 1, none⟩) (Kd.R_far (p := ⟨gb350, 0, none⟩) (Kd.R_mono HO_11.out (fun k_ hk => (⟨hk, hk.2⟩ : _ ∧ k_ ≠ gb350))) (fun _ hk => hk.2) (.int .i64 ((rd_T43 l1 x67_5).f0))) (fun _ hk => hk.2) (.int .i64 ((rd_T43 l1 x67_5).f1))) (fun _ hk => hk.2) (.int .i64 ((rd_T43 l1 x67_5).f2))) (fun _ hk => hk.2) (.int .i64 ((rd_T43 l1 x67_5).f3))) (fun _ h_ => h_.1)))) (by decide) hg); have n2_ := Aside0.mk (blk_grown (g := gb350) (o := .cells #[.int .i64 ((rd_T43 l1 x67_5).f0), .int .i64 ((rd_T43 l1 x67_5).f1), .int .i64 ((rd_T43 l1 x67_5).f2), .int .i64 ((rd_T43 l1 x67_5).f3)] 43 (0, 0)) (by (with_reducible repeat (first | refine blk_drewN ?_ _ | refine blk_drew ?_ | refine blk_alloc ?_ _)); refine blk_put (cs := #[.int .i64 ((rd_T43 l1 x67_5).f0), .int .i64 ((rd_T43 l1 x67_5).f1), .int .i64 ((rd_T43 l1 x67_5).f2), .int .i64 0]) ?_ 3 _ rfl; (with_reducible repeat (first | refine blk_drewN ?_ _ | refine blk_drew ?_ | refine blk_alloc ?_ _)); refine blk_put (cs := #[.int .i64 ((rd_T43 l1 x67_5).f0), .int .i64 ((rd_T43 l1 x67_5).f1), .int .i64 0, .int .i64 0]) ?_ 2 _ rfl; (with_reducible repeat (first | refine blk_drewN ?_ _ | refine blk_drew ?_ | refine blk_alloc ?_ _)); refine blk_put (cs := #[.int .i64 ((rd_T43 l1 x67_5).f0), .int .i64 0, .int .i64 0, .int .i64 0]) ?_ 1 _ rfl; (with_reducible repeat (first | refine blk_drewN ?_ _ | refine blk_drew ?_ | refine blk_alloc ?_ _)); refine blk_put (cs := #[.int .i64 0, .int .i64 0, .int .i64 0, .int .i64 0]) ?_ 0 _ rfl; (with_reducible repeat (first | refine blk_drewN ?_ _ | refine blk_drew ?_ | refine blk_alloc ?_ _)); exact BK350.out) hg (Kd.R_away HO_11.out (fun _ hk => hk.2))); have n3_ := Aside0.mk (hb); have n4_ := Aside0.mk (ho); clear HO_5; clear HO_8; clear BK350; clear HB; clear HO_11; have HO_5 := n0_; have HO_8 := n1_; have BK350 := n2_; have HB := n3_; have HO354 := n4_; clear n0_ n1_ n2_ n3_ n4_; clear ho hb hg hat))
                                                  (try simp only [← hl8_5])
                                                  go_roundg k5
                                                  case measure => have := HJ6.out; have := HJ13.out; have := HK3.out; have := HK4.out; have := HK5.out; omega
                                                  case rel => exact ⟨(y352), (wrap64 (x67_5 + 1)), (by first | rfl | (simp; done) | (simp [*]; done)), H', ⟨by have := HJ6.out; have := HJ13.out; have := HK3.out; have := HK4.out; have := HK5.out; omega⟩, ⟨by (try simp only [hl8_3]); (try simp only [hl8_4]); (try simp only [hl8_5]); (with_reducible repeat (first | apply Kd.R_alloc | apply Kd.R_drewN | apply Kd.R_drew)); exact HO_5.out⟩, ⟨by (try simp only [hl8_3]); (try simp only [hl8_4]); (try simp only [hl8_5]); (with_reducible repeat (first | apply Kd.R_alloc | apply Kd.R_drewN | apply Kd.R_drew)); exact HO_8.out⟩, ⟨by (try simp only [hl8_3]); (try simp only [hl8_4]); (try simp only [hl8_5]); (with_reducible repeat (first | apply Kd.R_alloc | apply Kd.R_drewN | apply Kd.R_drew)); exact Kd.R_mono HO354.out (fun _ hk => trivial)⟩, ⟨by repeat (first | (with_reducible first | exact HB.out | apply below_alloc | apply pw_below_drewN | apply below_drew1 | refine below_set ?_ GE350.out) | exact HB.out)⟩⟩
                                                · rw [if_neg c40] at H
                                                  exact absurd H (by simp)
                                              · replace c39 := Bool.eq_false_iff.mpr c39
                                                subst c39
                                                have H1 : (ephemerislaw2_ContradictLeasts.l2 k5 a0 l1 t338 t339 y348 x59_4 x11_5 (l1.length : Int) x59_4 l1 (l1.length : Int) (wrap64 (x67_5 + 1))) = some r := by rw [if_neg (show ¬ (false = true) by decide)] at H; exact H
                                                clear H
                                                have H := H1
                                                clear H1
                                                have H' := Aside0.mk H
                                                clear H
                                                have p349 : 0 ≤ (x67_5 : Int) := of_decide_eq_true (by first | (with_reducible assumption) | assumption)
                                                have q349 : x67_5 < (l1.length : Int) := of_decide_eq_true (by first | (with_reducible assumption) | assumption)
                                                obtain ⟨ad349, e349, hx349_0, hx349_1, hx349_2, hx349_3⟩ := at_T43 HR1.out x67_5 p349 q349
                                                cases e349
                                                replace hx349_0 := (HB.out.cell (World.block_lt_of_cell? w _ hx349_0)).trans hx349_0
                                                replace hx349_1 := (HB.out.cell (World.block_lt_of_cell? w _ hx349_1)).trans hx349_1
                                                replace hx349_2 := (HB.out.cell (World.block_lt_of_cell? w _ hx349_2)).trans hx349_2
                                                replace hx349_3 := (HB.out.cell (World.block_lt_of_cell? w _ hx349_3)).trans hx349_3
                                                replace p349 := eq_true p349
                                                replace q349 := eq_true q349
                                                go_wp2_with (first | ((with_reducible refine gate_dst (N := 13) rfl ?_); (try (refine gate_guard (by rfl) ?_; dsimp only)); refine box_event ?hg (N := 13) ?hd (cs := #[.int .i64 0, .int .i64 0, .int .i64 0, .int .i64 0]) (t := 43) ?hr ?_; (case hd => rfl); (case hg => rfl); (case hr => first | (go_simp; done) | (go_simp; rfl)); intro gb350 hg w44 hbox hb; have n0_ := Aside0.mk (Kd.R_below (by (with_reducible repeat (first | apply Kd.R_alloc | apply Kd.R_drewN | apply Kd.R_drew)); exact HO_5.out) hb); have n1_ := Aside0.mk (Kd.R_below (by (with_reducible repeat (first | apply Kd.R_alloc | apply Kd.R_drewN | apply Kd.R_drew)); exact HO_8.out) hb); have n2_ := Aside0.mk (Kd.R_below (Kd.R_elderB (by (with_reducible repeat (first | apply Kd.R_alloc | apply Kd.R_drewN | apply Kd.R_drew)); exact HO_11.out) gb350 (Nat.le_of_eq hg.symm)) hb); have n3_ := Aside0.mk (below_step (by repeat (first | (with_reducible first | exact HB.out | apply below_alloc | apply pw_below_drewN | apply below_drew1) | exact HB.out)) hb); have n4_ := Aside0.mk (hbox); have n5_ := Aside0.mk ((by rw [hg]; exact (below_size (by repeat (first | (with_reducible first | exact HB.out | apply below_alloc | apply pw_below_drewN | apply below_drew1) | exact HB.out))) : w.heap.size ≤ gb350)); have n6_ := Aside0.mk ((by rw [hg]; exact (below_size (by repeat (first | (with_reducible first | exact HB.out | apply below_alloc | apply pw_below_drewN | apply below_drew1) | exact HB.out))) : w.heap.size ≤ gb350)); clear HO_5; clear HO_8; clear HO_11; clear HB; have HO_5 := n0_; have HO_8 := n1_; have HO_11 := n2_; have HB := n3_; have BK350 := n4_; have GW350 := n5_; have GE350 := n6_; clear n0_ n1_ n2_ n3_ n4_ n5_ n6_; clear hb hbox hg; have hcz45_0 : w44.cell? ⟨gb350, 0, none⟩ = some (.int .i64 0) := (blk_cell BK350.out 0).trans rfl; have hcz45_1 : w44.cell? ⟨gb350, 1, none⟩ = some (.int .i64 0) := (blk_cell BK350.out 1).trans rfl; have hcz45_2 : w44.cell? ⟨gb350, 2, none⟩ = some (.int .i64 0) := (blk_cell BK350.out 2).trans rfl; have hcz45_3 : w44.cell? ⟨gb350, 3, none⟩ = some (.int .i64 0) := (blk_cell BK350.out 3).trans rfl; have hfz45_0 := blk_frozen BK350.out 0; have hfz45_1 := blk_frozen BK350.out 1; have hfz45_2 := blk_frozen BK350.out 2; have hfz45_3 := blk_frozen BK350.out 3; have p351 : 0 ≤ (x67_5 : Int) := of_decide_eq_true (by first | (with_reducible assumption) | assumption); have q351 : x67_5 < (y348.length : Int) := of_decide_eq_true (by first | (with_reducible assumption) | assumption); obtain ⟨ad351, e351, hx351_0⟩ := Kd.at_bool (Kd.R_reads' HO_8.out).2.2 x67_5 p351 q351; (try rw [← Nbq38.out] at hx351_0); obtain rfl : (⟨go31, 0, none⟩ : Addr) = ad351 := (by injection e351); (first | simp only [add_plain] at hx351_0 | simp only [add_at] at hx351_0 | simp only [Addr.add, Nat.zero_add] at hx351_0 | skip); have hn351_0 : (⟨go31, 0, none⟩ : Addr).block ≠ gb350 := Kd.own_blk (Kd.R_ne HO_8.out BK350.out (by decide)); have hn351_1 : (⟨go31, 0, none⟩ : Addr).block ≠ gb350 := Kd.own_blk (Kd.R_ne HO_8.out BK350.out (by decide)); have hn351_2 : (⟨go31, 0, none⟩ : Addr).block ≠ gb350 := Kd.own_blk (Kd.R_ne HO_8.out BK350.out (by decide)); have hn351_3 : (⟨go31, 0, none⟩ : Addr).block ≠ gb350 := Kd.own_blk (Kd.R_ne HO_8.out BK350.out (by decide)); replace hx351_0 := (cell_far (p := ⟨gb350, 0, none⟩) (by first | (rw [add_block]; exact hn351_0) | (show (Addr.add _ _).block ≠ _; rw [add_block]; exact hn351_0) | exact hn351_0) (.int .i64 ((rd_T43 l1 x67_5).f0))).trans hx351_0; replace hx351_0 := (cell_far (p := ⟨gb350, 1, none⟩) (by first | (rw [add_block]; exact hn351_1) | (show (Addr.add _ _).block ≠ _; rw [add_block]; exact hn351_1) | exact hn351_1) (.int .i64 ((rd_T43 l1 x67_5).f1))).trans hx351_0; replace hx351_0 := (cell_far (p := ⟨gb350, 2, none⟩) (by first | (rw [add_block]; exact hn351_2) | (show (Addr.add _ _).block ≠ _; rw [add_block]; exact hn351_2) | exact hn351_2) (.int .i64 ((rd_T43 l1 x67_5).f2))).trans hx351_0; replace hx351_0 := (cell_far (p := ⟨gb350, 3, none⟩) (by first | (rw [add_block]; exact hn351_3) | (show (Addr.add _ _).block ≠ _; rw [add_block]; exact hn351_3) | exact hn351_3) (.int .i64 ((rd_T43 l1 x67_5).f3))).trans hx351_0; clear hn351_0; clear hn351_1; clear hn351_2; clear hn351_3; replace p351 := eq_true p351; replace q351 := eq_true q351))
                                                (try simp only [← hl8_5])
                                                go_roundg k5
                                                case measure => have := HJ6.out; have := HJ13.out; have := HK3.out; have := HK4.out; have := HK5.out; omega
                                                case rel => exact ⟨(x11_5), (wrap64 (x67_5 + 1)), (by first | rfl | (simp; done) | (simp [*]; done)), H', ⟨by have := HJ6.out; have := HJ13.out; have := HK3.out; have := HK4.out; have := HK5.out; omega⟩, ⟨by (try simp only [hl8_3]); (try simp only [hl8_4]); (try simp only [hl8_5]); (with_reducible repeat (first | apply Kd.R_alloc | apply Kd.R_drewN | apply Kd.R_drew)); exact Kd.R_mono (Kd.R_far (p := ⟨gb350, 3, none⟩) (Kd.R_far (p := ⟨gb350, 2, none⟩) (Kd.R_far (p := ⟨gb350, 1, none⟩) (Kd.R_far (p := ⟨gb350, 0, none⟩) (Kd.R_types HO_5.out BK350.out (by decide)) (fun _ hk => hk.2) (.int .i64 ((rd_T43 l1 x67_5).f0))) (fun _ hk => hk.2) (.int .i64 ((rd_T43 l1 x67_5).f1))) (fun _ hk => hk.2) (.int .i64 ((rd_T43 l1 x67_5).f2))) (fun _ hk => hk.2) (.int .i64 ((rd_T43 l1 x67_5).f3))) (fun _ hk => trivial)⟩, ⟨by (try simp only [hl8_3]); (try simp only [hl8_4]); (try simp only [hl8_5]); (with_reducible repeat (first | apply Kd.R_alloc | apply Kd.R_drewN | apply Kd.R_drew)); exact Kd.R_mono (Kd.R_far (p := ⟨gb350, 3, none⟩) (Kd.R_far (p := ⟨gb350, 2, none⟩) (Kd.R_far (p := ⟨gb350, 1, none⟩) (Kd.R_far (p := ⟨gb350, 0, none⟩) (Kd.R_types HO_8.out BK350.out (by decide)) (fun _ hk => hk.2) (.int .i64 ((rd_T43 l1 x67_5).f0))) (fun _ hk => hk.2) (.int .i64 ((rd_T43 l1 x67_5).f1))) (fun _ hk => hk.2) (.int .i64 ((rd_T43 l1 x67_5).f2))) (fun _ hk => hk.2) (.int .i64 ((rd_T43 l1 x67_5).f3))) (fun _ hk => trivial)⟩, ⟨by (try simp only [hl8_3]); (try simp only [hl8_4]); (try simp only [hl8_5]); (with_reducible repeat (first | apply Kd.R_alloc | apply Kd.R_drewN | apply Kd.R_drew)); exact Kd.R_mono (Kd.R_far (p := ⟨gb350, 3, none⟩) (Kd.R_far (p := ⟨gb350, 2, none⟩) (Kd.R_far (p := ⟨gb350, 1, none⟩) (Kd.R_far (p := ⟨gb350, 0, none⟩) (Kd.R_mono HO_11.out (fun k_ hk => (⟨hk, hk.2⟩ : _ ∧ k_ ≠ gb350))) (fun _ hk => hk.2) (.int .i64 ((rd_T43 l1 x67_5).f0))) (fun _ hk => hk.2) (.int .i64 ((rd_T43 l1 x67_5).f1))) (fun _ hk => hk.2) (.int .i64 ((rd_T43 l1 x67_5).f2))) (fun _ hk => hk.2) (.int .i64 ((rd_T43 l1 x67_5).f3))) (fun _ hk => trivial)⟩, ⟨by repeat (first | (with_reducible first | exact HB.out | apply below_alloc | apply pw_below_drewN | apply below_drew1 | refine below_set ?_ GE350.out) | exact HB.out)⟩⟩
                                            · rw [if_neg c37] at H
                                              exact absurd H (by simp)
                                          · rw [if_neg c36] at H
                                            exact absurd H (by simp)
                                        · rw [if_neg c35] at H
                                          exact absurd H (by simp)
                                      · rw [if_neg c34] at H
                                        have c34b0 : decide (x67_5 < (l1.length : Int)) = false := decide_eq_false c34
                                        clear c34
                                        replace H := Option.bind_eq_some_iff.mp H
                                        obtain ⟨t355, A460, H⟩ := H
                                        replace H : (if t355 = true then (if 0 ≤ x59_4 then (if x59_4 < (y348.length : Int) then (ephemerislaw2_ContradictLeasts.l1 k5 a0 l1 t338 t339 (y348.set (x59_4 : Int).toNat true) (l1.length : Int) (wrap64 (x59_4 + 1))) else (none)) else (none)) else (ephemerislaw2_ContradictLeasts.l1 k5 a0 l1 t338 t339 y348 (l1.length : Int) (wrap64 (x59_4 + 1)))) = some r := H
                                        have A46 := Aside0.mk A460
                                        clear A460
                                        by_cases c47 : t355 = true
                                        · subst c47
                                          have H1 : (if 0 ≤ x59_4 then (if x59_4 < (y348.length : Int) then (ephemerislaw2_ContradictLeasts.l1 k5 a0 l1 t338 t339 (y348.set (x59_4 : Int).toNat true) (l1.length : Int) (wrap64 (x59_4 + 1))) else (none)) else (none)) = some r := by rw [if_pos rfl] at H; exact H
                                          clear H
                                          have H := H1
                                          clear H1
                                          by_cases c48 : 0 ≤ x59_4
                                          · rw [if_pos c48] at H
                                            have c48b0 : decide (0 ≤ x59_4) = true := decide_eq_true c48
                                            clear c48
                                            by_cases c49 : x59_4 < (y348.length : Int)
                                            · rw [if_pos c49] at H
                                              have c49b0 : decide (x59_4 < (y348.length : Int)) = true := decide_eq_true c49
                                              have c49b0z_ := c49b0
                                              first | (rw [hl8_5] at c49b0) | (rw [hl8_4] at c49b0) | (rw [hl8_3] at c49b0) | skip
                                              clear c49
                                              obtain ⟨y356, hy356⟩ : ∃ y_ : List Bool, y_ = (y348.set (x59_4 : Int).toNat true) := ⟨_, rfl⟩
                                              replace H : (ephemerislaw2_ContradictLeasts.l1 k5 a0 l1 t338 t339 y356 (l1.length : Int) (wrap64 (x59_4 + 1))) = some r := by first | (rw [hy356]; with_reducible exact H) | (have H2_ := (Option.bind_some _ _).symm.trans H; rw [hy356]; with_reducible exact H2_) | (have H2_ := (Option.bind_some _ _).symm.trans H; with_reducible exact H2_) | with_reducible exact H | (rw [hy356]; exact H) | exact H
                                              have Ny356 := Aside0.mk hy356
                                              clear hy356
                                              have H' := Aside0.mk H
                                              clear H
                                              obtain ⟨Ao51, co51, eo51⟩ := Kd.R_slice HO_11.out
                                              subst eo51
                                              go_wp2_with (first | ((with_reducible refine gate_callee (f := 14) rfl ?_); refine goesL_ (some 83) rfl rfl Try.func14 (by kernel_rfl) rfl #[.int .i64 a0, .slice Ao51 x11_5.length co51] rfl (by (try simp only [List.map_toArray, List.map_cons, List.map_nil]); first | done | rfl | (simp only [List.length_drop, List.length_take]; rfl)) ?_; (with_reducible refine (ephemerisref2_Solvable.calls k5 a0 _ _ x11_5 true _ ?side1 ?side2 A46.out).mono ?_); (case side1 => repeat (first | exact (Kd.R_reads' HO_11.out).2.2 | (with_reducible refine Kd.C_alloc ?_ _) | (with_reducible refine Kd.C_drewN ?_ _) | (with_reducible refine Kd.C_drew ?_))); (case side2 => exact (Kd.R_reads' HO_11.out).2.1); rintro e w52 ⟨rfl, hb⟩; refine ⟨_, rfl, ?_⟩; have n0_ := Aside0.mk (Kd.R_below (by (with_reducible repeat (first | apply Kd.R_alloc | apply Kd.R_drewN | apply Kd.R_drew)); exact HO_5.out) hb); have n1_ := Aside0.mk (Kd.R_below (by (with_reducible repeat (first | apply Kd.R_alloc | apply Kd.R_drewN | apply Kd.R_drew)); exact HO_8.out) hb); have n2_ := Aside0.mk (Kd.R_below (by (with_reducible repeat (first | apply Kd.R_alloc | apply Kd.R_drewN | apply Kd.R_drew)); exact HO_11.out) hb); have n3_ := Aside0.mk (below_step (by repeat (first | (with_reducible first | exact HB.out | apply below_alloc | apply pw_below_drewN | apply below_drew1) | exact HB.out)) hb); clear HO_5; clear HO_8; clear HO_11; clear HB; have HO_5 := n0_; have HO_8 := n1_; have HO_11 := n2_; have HB := n3_; clear n0_ n1_ n2_ n3_; (try clear hb); (try clear hb2); (try clear hk); (try clear hi); have p50 : 0 ≤ (x59_4 : Int) := of_decide_eq_true (by first | (with_reducible assumption) | assumption); have q50 : (x59_4 : Int) < ((y348.length : Int) : Int) := of_decide_eq_true (by first | (with_reducible assumption) | assumption); obtain ⟨hx50_0, hf50_0⟩ := Kd.R_celln false HO_8.out (x59_4 : Int) p50 q50; replace p50 := eq_true p50; replace q50 := eq_true q50; obtain ⟨hy53_, hz53_⟩ := Kd.R_celln false HO_8.out (x59_4 : Int) (of_decide_eq_true (by first | (with_reducible assumption) | assumption)) (of_decide_eq_true (by first | (with_reducible assumption) | assumption)); have HP53 := Kd.R_putg HO_8.out (x59_4 : Int) true) | ((with_reducible refine gate_store (t := 4) (p := 86) rfl ?_); refine store_event (t := 4) (p := 86) (v := ?vo_w54) (w1 := (w52.setCell ⟨go31, (x59_4 : Int).toNat, none⟩ (.bool true))) ?hg ?ho ?hn ?hr ?_; (case ho => rfl); (case hg => rfl); (case hn => rfl); (case hr => first | (go_simp; done) | (go_simp; rfl)); intro w54 hw; have hg : w52.grownBy w54 (some go31) := (by rw [hw]; exact HP53.2); have hp_ : Kd.R Kd.bool 4 w54 w.heap.size (fun _ => True) (.slice (some ⟨go31, 0, none⟩) y348.length co21) y356 := (by rw [hw, Ny356.out]; exact HP53.1); clear HP53; have n0_ := Aside0.mk (Kd.R_over' (v := (.slice (some ⟨go31, 0, none⟩) y348.length co21)) (by (with_reducible repeat (first | apply Kd.R_alloc | apply Kd.R_drewN | apply Kd.R_drew)); exact HO_5.out) (Kd.R_typed HO_8.out) (by decide) hg); have n1_ := Aside0.mk (hp_); have n2_ := Aside0.mk (Kd.R_over' (v := (.slice (some ⟨go31, 0, none⟩) y348.length co21)) (by (with_reducible repeat (first | apply Kd.R_alloc | apply Kd.R_drewN | apply Kd.R_drew)); exact HO_11.out) (Kd.R_typed HO_8.out) (by decide) hg); have n3_ := Aside0.mk ((by rw [hw]; exact below_set (HB.out) GB31.out : Below w.heap.size w w54)); clear HO_5; clear HO_8; clear HO_11; clear HB; have HO_5 := n0_; have HO_8 := n1_; have HO_11 := n2_; have HB := n3_; clear n0_ n1_ n2_ n3_; clear hg hw hp_))
                                              (try simp only [← hl8_4, ← hl8_5])
                                              go_roundg k5
                                              case measure => have := HJ6.out; have := HJ13.out; have := HK3.out; have := HK4.out; have := HK5.out; omega
                                              case rel => exact ⟨(y356), (wrap64 (x59_4 + 1)), (by first | rfl | (simp; done) | (simp [*]; done)), H', ⟨by have := HJ6.out; have := HJ13.out; have := HK3.out; have := HK4.out; have := HK5.out; omega⟩, ⟨by (try simp only [hl8_3]); (try simp only [hl8_4]); (try simp only [hl8_5]); (with_reducible repeat (first | apply Kd.R_alloc | apply Kd.R_drewN | apply Kd.R_drew)); exact HO_5.out⟩, ⟨by (try simp only [hl8_3]); (try simp only [hl8_4]); (try simp only [hl8_5]); (with_reducible repeat (first | apply Kd.R_alloc | apply Kd.R_drewN | apply Kd.R_drew)); exact HO_8.out⟩, ⟨by repeat (first | (with_reducible first | exact HB.out | apply below_alloc | apply pw_below_drewN | apply below_drew1) | exact HB.out)⟩⟩
                                            · rw [if_neg c49] at H
                                              exact absurd H (by simp)
                                          · rw [if_neg c48] at H
                                            exact absurd H (by simp)
                                        · replace c47 := Bool.eq_false_iff.mpr c47
                                          subst c47
                                          have H1 : (ephemerislaw2_ContradictLeasts.l1 k5 a0 l1 t338 t339 y348 (l1.length : Int) (wrap64 (x59_4 + 1))) = some r := by rw [if_neg (show ¬ (false = true) by decide)] at H; exact H
                                          clear H
                                          have H := H1
                                          clear H1
                                          have H' := Aside0.mk H
                                          clear H
                                          obtain ⟨Ao55, co55, eo55⟩ := Kd.R_slice HO_11.out
                                          subst eo55
                                          go_wp2_with (first | ((with_reducible refine gate_callee (f := 14) rfl ?_); refine goesL_ (some 83) rfl rfl Try.func14 (by kernel_rfl) rfl #[.int .i64 a0, .slice Ao55 x11_5.length co55] rfl (by (try simp only [List.map_toArray, List.map_cons, List.map_nil]); first | done | rfl | (simp only [List.length_drop, List.length_take]; rfl)) ?_; (with_reducible refine (ephemerisref2_Solvable.calls k5 a0 _ _ x11_5 false _ ?side1 ?side2 A46.out).mono ?_); (case side1 => repeat (first | exact (Kd.R_reads' HO_11.out).2.2 | (with_reducible refine Kd.C_alloc ?_ _) | (with_reducible refine Kd.C_drewN ?_ _) | (with_reducible refine Kd.C_drew ?_))); (case side2 => exact (Kd.R_reads' HO_11.out).2.1); rintro e w56 ⟨rfl, hb⟩; refine ⟨_, rfl, ?_⟩; have n0_ := Aside0.mk (Kd.R_below (by (with_reducible repeat (first | apply Kd.R_alloc | apply Kd.R_drewN | apply Kd.R_drew)); exact HO_5.out) hb); have n1_ := Aside0.mk (Kd.R_below (by (with_reducible repeat (first | apply Kd.R_alloc | apply Kd.R_drewN | apply Kd.R_drew)); exact HO_8.out) hb); have n2_ := Aside0.mk (Kd.R_below (by (with_reducible repeat (first | apply Kd.R_alloc | apply Kd.R_drewN | apply Kd.R_drew)); exact HO_11.out) hb); have n3_ := Aside0.mk (below_step (by repeat (first | (with_reducible first | exact HB.out | apply below_alloc | apply pw_below_drewN | apply below_drew1) | exact HB.out)) hb); clear HO_5; clear HO_8; clear HO_11; clear HB; have HO_5 := n0_; have HO_8 := n1_; have HO_11 := n2_; have HB := n3_; clear n0_ n1_ n2_ n3_; (try clear hb); (try clear hb2); (try clear hk); (try clear hi)))
                                          (try simp only [← hl8_4, ← hl8_5])
                                          go_roundg k5
                                          case measure => have := HJ6.out; have := HJ13.out; have := HK3.out; have := HK4.out; have := HK5.out; omega
                                          case rel => exact ⟨(y348), (wrap64 (x59_4 + 1)), (by first | rfl | (simp; done) | (simp [*]; done)), H', ⟨by have := HJ6.out; have := HJ13.out; have := HK3.out; have := HK4.out; have := HK5.out; omega⟩, ⟨by (try simp only [hl8_3]); (try simp only [hl8_4]); (try simp only [hl8_5]); (with_reducible repeat (first | apply Kd.R_alloc | apply Kd.R_drewN | apply Kd.R_drew)); exact HO_5.out⟩, ⟨by (try simp only [hl8_3]); (try simp only [hl8_4]); (try simp only [hl8_5]); (with_reducible repeat (first | apply Kd.R_alloc | apply Kd.R_drewN | apply Kd.R_drew)); exact HO_8.out⟩, ⟨by repeat (first | (with_reducible first | exact HB.out | apply below_alloc | apply pw_below_drewN | apply below_drew1) | exact HB.out)⟩⟩
                                · rw [if_neg c30] at H
                                  exact absurd H (by simp)
                              · rw [if_neg c29] at H
                                exact absurd H (by simp)
                            · rw [if_neg c28] at H
                              have c28b0 : decide (x59_4 < (l1.length : Int)) = false := decide_eq_false c28
                              clear c28
                              have H' := Aside0.mk H
                              clear H
                              go_wp2
                              go_loopg [14, 90] k4 (fun kq v14 v90 w' => ∃ (x14_5 : Int) (x90_5 : Int), v14 = .int .i64 x14_5 ∧ v90 = .int .i64 x90_5 ∧ Aside0 (ephemerislaw2_ContradictLeasts.l3 kq t338 t339 x14_5 x8_4 (x8_4.length : Int) x90_5 = some r) ∧ Aside0 (kq ≤ k4) ∧ Aside0 (Kd.R (Kd.int .i64) 3 w' w.heap.size (fun _ => True) v340 t338) ∧ Aside0 (Kd.R Kd.bool 4 w' w.heap.size (fun _ => True) (.slice Ao21 x8_4.length co21) x8_4) ∧ Aside0 (Below w.heap.size w w'))
                              case atStart => exact ⟨(0), (0), (by first | rfl | (simp; done) | (simp [*]; done)), (by first | rfl | (simp; done) | (simp [*]; done)), H', ⟨Nat.le_refl _⟩, ⟨by (try simp only [hl8_3]); (try simp only [hl8_4]); (with_reducible repeat (first | apply Kd.R_alloc | apply Kd.R_drewN | apply Kd.R_drew)); exact HO_5.out⟩, ⟨by (try simp only [hl8_3]); (try simp only [hl8_4]); (with_reducible repeat (first | apply Kd.R_alloc | apply Kd.R_drewN | apply Kd.R_drew)); exact HO_8.out⟩, ⟨by repeat (first | (with_reducible first | exact HB.out | apply below_alloc | apply pw_below_drewN | apply below_drew1) | exact HB.out)⟩⟩
                              case round =>
                                clear H'
                                try clear c1
                                try clear c2
                                try clear p2
                                try clear q2
                                try clear hx2
                                try clear hf2
                                try clear c3
                                try clear p3
                                try clear q3
                                try clear hx3
                                try clear hf3
                                try clear c4
                                try clear p5
                                try clear q5
                                try clear hx5
                                try clear hf5
                                try clear c6
                                try clear p6
                                try clear c11
                                try clear c11b0
                                try clear c11b1
                                try clear c12
                                try clear c14
                                try clear c15
                                try clear c16
                                try clear c16b0
                                try clear c16b1
                                try clear c17
                                try clear c17b0
                                try clear c17b1
                                try clear c18
                                try clear c18b0
                                try clear c18b1
                                try clear c19
                                try clear c20
                                try clear c22
                                try clear c22b0
                                try clear c23
                                try clear c23b0
                                try clear c24
                                try clear c24b0
                                try clear p25
                                try clear q25
                                try clear hx25
                                try clear hf25
                                try clear c28
                                try clear c28b0
                                try clear c29
                                try clear c29b0
                                try clear c30
                                try clear c30b0
                                try clear p31
                                try clear q31
                                try clear hx31
                                try clear hf31
                                try clear c34
                                try clear c34b0
                                try clear p34
                                try clear q34
                                try clear hx34
                                try clear c35
                                try clear c35b0
                                try clear p35
                                try clear q35
                                try clear hx35
                                try clear c36
                                try clear c36b0
                                try clear c37
                                try clear c37b0
                                try clear q38
                                try clear c39
                                try clear c40
                                try clear c47
                                try clear c48
                                try clear c48b0
                                try clear c49
                                try clear c49b0
                                try clear p50
                                try clear q50
                                try clear hx50
                                try clear hf50
                                try clear hcz42_0
                                try clear hcz42_1
                                try clear hcz42_2
                                try clear hcz42_3
                                try clear hcz45_0
                                try clear hcz45_1
                                try clear hcz45_2
                                try clear hcz45_3
                                try clear hfz42_0
                                try clear hfz42_1
                                try clear hfz42_2
                                try clear hfz42_3
                                try clear hfz45_0
                                try clear hfz45_1
                                try clear hfz45_2
                                try clear hfz45_3
                                try clear hx25_0
                                try clear hx31_0
                                try clear hx349_0
                                try clear hx349_1
                                try clear hx349_2
                                try clear hx349_3
                                try clear hx351_0
                                try clear hx50_0
                                try clear p2
                                try clear p25
                                try clear p3
                                try clear p31
                                try clear p349
                                try clear p351
                                try clear p50
                                try clear p6
                                try clear q2
                                try clear q25
                                try clear q3
                                try clear q31
                                try clear q349
                                try clear q351
                                try clear q50
                                obtain ⟨x14_5, x90_5, rfl, rfl, HA, HK5, HO_5, HO_88, HB⟩ := hrel
                                cases gk with
                                | zero => exact absurd HA.out (by simp [ephemerislaw2_ContradictLeasts.l3])
                                | succ k5 =>
                                  have H := HA.out
                                  clear HA
                                  simp only [ephemerislaw2_ContradictLeasts.l3] at H
                                  by_cases c57 : x90_5 < (x8_4.length : Int)
                                  · rw [if_pos c57] at H
                                    have c57b0 : decide (x90_5 < (x8_4.length : Int)) = true := decide_eq_true c57
                                    clear c57
                                    by_cases c58 : 0 ≤ x90_5
                                    · rw [if_pos c58] at H
                                      have c58b0 : decide (0 ≤ x90_5) = true := decide_eq_true c58
                                      clear c58
                                      by_cases c59 : x90_5 < (x8_4.length : Int)
                                      · rw [if_pos c59] at H
                                        have c59b0 : decide (x90_5 < (x8_4.length : Int)) = true := decide_eq_true c59
                                        clear c59
                                        obtain ⟨bq60, hbq60⟩ : ∃ b_ : Bool, b_ = (rdOf false x8_4 x90_5) := ⟨_, rfl⟩
                                        replace H : (if bq60 = true then (if x14_5 ≥ (t338.length : Int) then (some false) else (if 0 ≤ x14_5 then (if x14_5 < (t338.length : Int) then (if (rd t338 x14_5) = x90_5 then (ephemerislaw2_ContradictLeasts.l3 k5 t338 t339 (wrap64 (x14_5 + 1)) x8_4 (x8_4.length : Int) (wrap64 (x90_5 + 1))) else (some false)) else (none)) else (none))) else (ephemerislaw2_ContradictLeasts.l3 k5 t338 t339 x14_5 x8_4 (x8_4.length : Int) (wrap64 (x90_5 + 1)))) = some r := by rw [← hbq60] at H; exact H
                                        have Nbq60 := Aside0.mk hbq60
                                        clear hbq60
                                        by_cases c61 : bq60 = true
                                        · subst c61
                                          have H1 : (if x14_5 ≥ (t338.length : Int) then (some false) else (if 0 ≤ x14_5 then (if x14_5 < (t338.length : Int) then (if (rd t338 x14_5) = x90_5 then (ephemerislaw2_ContradictLeasts.l3 k5 t338 t339 (wrap64 (x14_5 + 1)) x8_4 (x8_4.length : Int) (wrap64 (x90_5 + 1))) else (some false)) else (none)) else (none))) = some r := by rw [if_pos rfl] at H; exact H
                                          clear H
                                          have H := H1
                                          clear H1
                                          by_cases c62 : x14_5 ≥ (t338.length : Int)
                                          · rw [if_pos c62] at H
                                            have c62b0 : decide ((t338.length : Int) ≤ x14_5) = true := decide_eq_true c62
                                            clear c62
                                            obtain rfl := Option.some.inj H
                                            exact absurd hT (by decide)
                                          · rw [if_neg c62] at H
                                            have c62b0 : decide ((t338.length : Int) ≤ x14_5) = false := decide_eq_false c62
                                            clear c62
                                            by_cases c63 : 0 ≤ x14_5
                                            · rw [if_pos c63] at H
                                              have c63b0 : decide (0 ≤ x14_5) = true := decide_eq_true c63
                                              clear c63
                                              by_cases c64 : x14_5 < (t338.length : Int)
                                              · rw [if_pos c64] at H
                                                have c64b0 : decide (x14_5 < (t338.length : Int)) = true := decide_eq_true c64
                                                clear c64
                                                by_cases c65 : (rd t338 x14_5) = x90_5
                                                · rw [if_pos c65] at H
                                                  have c65b0 : ((rd t338 x14_5) == x90_5) = true := beq_iff_eq.mpr c65
                                                  have c65b1 : ((rd t338 x14_5) != x90_5) = false := bne_eq_false_iff_eq.mpr c65
                                                  clear c65
                                                  have H' := Aside0.mk H
                                                  clear H
                                                  have p357 : 0 ≤ (x90_5 : Int) := of_decide_eq_true (by first | (with_reducible assumption) | assumption)
                                                  have q357 : x90_5 < (x8_4.length : Int) := of_decide_eq_true (by first | (with_reducible assumption) | assumption)
                                                  obtain ⟨ad357, e357, hx357_0⟩ := Kd.at_bool (Kd.R_reads' HO_88.out).2.2 x90_5 p357 q357
                                                  (try rw [← Nbq60.out] at hx357_0)
                                                  cases e357
                                                  replace p357 := eq_true p357
                                                  replace q357 := eq_true q357
                                                  obtain ⟨Ao66, co66, eo66⟩ := Kd.R_slice HO_5.out
                                                  subst eo66
                                                  have p358 : 0 ≤ (x14_5 : Int) := of_decide_eq_true (by first | (with_reducible assumption) | assumption)
                                                  have q358 : x14_5 < (t338.length : Int) := of_decide_eq_true (by first | (with_reducible assumption) | assumption)
                                                  obtain ⟨ad358, e358, hx358_0⟩ := Kd.at_int (Kd.R_reads' HO_5.out).2.2 x14_5 p358 q358
                                                  cases e358
                                                  replace p358 := eq_true p358
                                                  replace q358 := eq_true q358
                                                  go_wp2
                                                  go_roundg k5
                                                  case measure => have := HJ6.out; have := HJ13.out; have := HK3.out; have := HK4.out; have := HK5.out; omega
                                                  case rel => exact ⟨(wrap64 (x14_5 + 1)), (wrap64 (x90_5 + 1)), (by first | rfl | (simp; done) | (simp [*]; done)), (by first | rfl | (simp; done) | (simp [*]; done)), H', ⟨by have := HJ6.out; have := HJ13.out; have := HK3.out; have := HK4.out; have := HK5.out; omega⟩, ⟨by (try simp only [hl8_3]); (try simp only [hl8_4]); (with_reducible repeat (first | apply Kd.R_alloc | apply Kd.R_drewN | apply Kd.R_drew)); exact HO_5.out⟩, ⟨by (try simp only [hl8_3]); (try simp only [hl8_4]); (with_reducible repeat (first | apply Kd.R_alloc | apply Kd.R_drewN | apply Kd.R_drew)); exact HO_88.out⟩, ⟨by repeat (first | (with_reducible first | exact HB.out | apply below_alloc | apply pw_below_drewN | apply below_drew1) | exact HB.out)⟩⟩
                                                · rw [if_neg c65] at H
                                                  have c65b0 : ((rd t338 x14_5) == x90_5) = false := beq_eq_false_iff_ne.mpr c65
                                                  have c65b1 : ((rd t338 x14_5) != x90_5) = true := bne_iff_ne.mpr c65
                                                  obtain rfl := Option.some.inj H
                                                  exact absurd hT (by decide)
                                              · rw [if_neg c64] at H
                                                exact absurd H (by simp)
                                            · rw [if_neg c63] at H
                                              exact absurd H (by simp)
                                        · replace c61 := Bool.eq_false_iff.mpr c61
                                          subst c61
                                          have H1 : (ephemerislaw2_ContradictLeasts.l3 k5 t338 t339 x14_5 x8_4 (x8_4.length : Int) (wrap64 (x90_5 + 1))) = some r := by rw [if_neg (show ¬ (false = true) by decide)] at H; exact H
                                          clear H
                                          have H := H1
                                          clear H1
                                          have H' := Aside0.mk H
                                          clear H
                                          have p357 : 0 ≤ (x90_5 : Int) := of_decide_eq_true (by first | (with_reducible assumption) | assumption)
                                          have q357 : x90_5 < (x8_4.length : Int) := of_decide_eq_true (by first | (with_reducible assumption) | assumption)
                                          obtain ⟨ad357, e357, hx357_0⟩ := Kd.at_bool (Kd.R_reads' HO_88.out).2.2 x90_5 p357 q357
                                          (try rw [← Nbq60.out] at hx357_0)
                                          cases e357
                                          replace p357 := eq_true p357
                                          replace q357 := eq_true q357
                                          go_wp2
                                          go_roundg k5
                                          case measure => have := HJ6.out; have := HJ13.out; have := HK3.out; have := HK4.out; have := HK5.out; omega
                                          case rel => exact ⟨(x14_5), (wrap64 (x90_5 + 1)), (by first | rfl | (simp; done) | (simp [*]; done)), (by first | rfl | (simp; done) | (simp [*]; done)), H', ⟨by have := HJ6.out; have := HJ13.out; have := HK3.out; have := HK4.out; have := HK5.out; omega⟩, ⟨by (try simp only [hl8_3]); (try simp only [hl8_4]); (with_reducible repeat (first | apply Kd.R_alloc | apply Kd.R_drewN | apply Kd.R_drew)); exact HO_5.out⟩, ⟨by (try simp only [hl8_3]); (try simp only [hl8_4]); (with_reducible repeat (first | apply Kd.R_alloc | apply Kd.R_drewN | apply Kd.R_drew)); exact HO_88.out⟩, ⟨by repeat (first | (with_reducible first | exact HB.out | apply below_alloc | apply pw_below_drewN | apply below_drew1) | exact HB.out)⟩⟩
                                      · rw [if_neg c59] at H
                                        exact absurd H (by simp)
                                    · rw [if_neg c58] at H
                                      exact absurd H (by simp)
                                  · rw [if_neg c57] at H
                                    have c57b0 : decide (x90_5 < (x8_4.length : Int)) = false := decide_eq_false c57
                                    clear c57
                                    by_cases c67 : t339 = 0
                                    · rw [if_pos c67] at H
                                      have c67b0 : (t339 == 0) = true := beq_iff_eq.mpr c67
                                      have c67b1 : (t339 != 0) = false := bne_eq_false_iff_eq.mpr c67
                                      clear c67
                                      obtain rfl := Option.some.inj H
                                      simp only [Option.some.injEq, Prod.mk.injEq] at H
                                      obtain ⟨rfl⟩ := H
                                      obtain ⟨Ao68, co68, eo68⟩ := Kd.R_slice HO_5.out
                                      subst eo68
                                      go_wp2
                                      go_ret
                                      exact ⟨by first | rfl | (simp [errW_none, errW_some] <;> rfl) | (simp [*, errW_none, errW_some] <;> rfl), by repeat (first | (with_reducible first | exact HB.out | apply below_alloc | apply pw_below_drewN | apply below_drew1) | exact HB.out)⟩
                                    · rw [if_neg c67] at H
                                      have c67b0 : (t339 == 0) = false := beq_eq_false_iff_ne.mpr c67
                                      have c67b1 : (t339 != 0) = true := bne_iff_ne.mpr c67
                                      obtain rfl := Option.some.inj H
                                      exact absurd hT (by decide)
                · rw [if_neg c18] at H
                  exact absurd H (by simp)
              · rw [if_neg c17] at H
                exact absurd H (by simp)
            · rw [if_neg c16] at H
              have c16b0 : (x7_13 == 0) = false := beq_eq_false_iff_ne.mpr c16
              have c16b1 : (x7_13 != 0) = true := bne_iff_ne.mpr c16
              by_cases c69 : t339 = x7_13
              · rw [if_pos c69] at H
                have c69b0 : (t339 == x7_13) = true := beq_iff_eq.mpr c69
                have c69b1 : (t339 != x7_13) = false := bne_eq_false_iff_eq.mpr c69
                clear c69
                obtain rfl := Option.some.inj H
                simp only [Option.some.injEq, Prod.mk.injEq] at H
                obtain ⟨rfl⟩ := H
                obtain ⟨Ao70, co70, eo70⟩ := Kd.R_slice HO_5.out
                subst eo70
                go_wp2
                go_ret
                exact ⟨by first | rfl | (simp [errW_none, errW_some] <;> rfl) | (simp [*, errW_none, errW_some] <;> rfl), by repeat (first | (with_reducible first | exact HB.out | apply below_alloc | apply pw_below_drewN | apply below_drew1) | exact HB.out)⟩
              · rw [if_neg c69] at H
                have c69b0 : (t339 == x7_13) = false := beq_eq_false_iff_ne.mpr c69
                have c69b1 : (t339 != x7_13) = true := bne_iff_ne.mpr c69
                obtain rfl := Option.some.inj H
                exact absurd hT (by decide)
  · replace c4 := Bool.eq_false_iff.mpr c4
    subst c4
    have H1 : (some false) = some r := by rw [if_neg (show ¬ (false = true) by decide)] at H; exact H
    clear H
    have H := H1
    clear H1
    obtain rfl := Option.some.inj H
    exact absurd hT (by decide)
end Go.Proofs.Ytfbjpdiaicaagaa.PAll
