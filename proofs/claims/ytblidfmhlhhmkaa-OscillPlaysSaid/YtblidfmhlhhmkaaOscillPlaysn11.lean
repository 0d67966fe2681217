/- Written by a program of this session out of the translation. -/
import Derived.Test.YtblidfmhlhhmkaaOscillPlaysn2
import Derived.Test.YtblidfmhlhhmkaaOscillPlaysn3
import Derived.Test.YtblidfmhlhhmkaaOscillPlaysn4
import Derived.Test.YtblidfmhlhhmkaaOscillPlaysn9
import Derived.Test.YtblidfmhlhhmkaaOscillPlaysn10
namespace Go.Proofs.Ytblidfmhlhhmkaa.PAll
open Go.RowKit Go.Proofs.YtblidfmhlhhmkaaW.PrintWords Go.Proofs.YtblidfmhlhhmkaaW.PrintLast Go.Proofs.YtblidfmhlhhmkaaW.PrintMore Go.Proofs.Ytblidfmhlhhmkaa.More2
attribute [local go_sem] max2_int min2_int max_two min_two max_three min_three max_four min_four tdiv2e18_ tdiv1e18_ cellSS_  -- for this text's walks alone
set_option linter.unusedVariables false
set_option linter.unusedSimpArgs false
attribute [local go_sem high] eqA41
mutual
def ephemerislaw2_OscillPlays.j0 : Nat → Int → List Int → List (S41) → Int → Bool → Int → Bool → Int → Int → Int → Option (Bool)
  | 0, _, _, _, _, _, _, _, _, _, _ => none
  | k + 1, x0, x1, x2, x8, x30, x163000, x163001, x163002, x163003, x163004 => if x30 = true then (if x8 = 1 then (some false) else (some false)) else (if x8 = 0 then (ephemerislaw2_OscillPlays.j1 k x0 x1 x2 false x163000 x163001 x163002 x163003 x163004) else (ephemerislaw2_OscillPlays.j1 k x0 x1 x2 true x163000 x163001 x163002 x163003 x163004))
def ephemerislaw2_OscillPlays.j1 : Nat → Int → List Int → List (S41) → Bool → Int → Bool → Int → Int → Int → Option (Bool)
  | 0, _, _, _, _, _, _, _, _, _ => none
  | k + 1, x0, x1, x2, x42, x163000, x163001, x163002, x163003, x163004 => if x42 = true then (some false) else (ephemerislaw2_OscillPlays.l0 k x0 x2 false x1 (x1.length : Int) 0 x163000 x163001 x163002 x163003 x163004 0 0 0)
def ephemerislaw2_OscillPlays.l0 : Nat → Int → List (S41) → Bool → List Int → Int → Int → Int → Bool → Int → Int → Int → Int → Int → Int → Option (Bool)
  | 0, _, _, _, _, _, _, _, _, _, _, _, _, _, _ => none
  | k + 1, x0, x2, x9, x44, x45, x46, x163000, x163001, x163002, x163003, x163004, x165000, x165001, x165002 => if x46 < x45 then (if 0 ≤ x46 then (if x46 < (x44.length : Int) then (if x46 < (x2.length : Int) then ((ephemerisref2_ReadingErr.f k (rd x44 x46) ((rd_T41 x2 x46).f0) ((rd_T41 x2 x46).f1)).bind fun t167 => (if t167 = 0 then (if x9 = true then (ephemerislaw2_OscillPlays.j3 k x0 x2 x9 x46 (rd x44 x46) t167 x44 x45 x46 (decide ((rd x44 x46) < x165000)) x163000 x163001 x163002 x163003 x163004 x165000 x165001 x165002) else (ephemerislaw2_OscillPlays.j3 k x0 x2 x9 x46 (rd x44 x46) t167 x44 x45 x46 false x163000 x163001 x163002 x163003 x163004 x165000 x165001 x165002)) else (ephemerislaw2_OscillPlays.j3 k x0 x2 x9 x46 (rd x44 x46) t167 x44 x45 x46 false x163000 x163001 x163002 x163003 x163004 x165000 x165001 x165002))) else (ephemerislaw2_OscillPlays.j5 k x0 x2 x9 (rd x44 x46) x44 x45 x46 x163000 x163001 x163002 x163003 x163004 x165000 x165001 x165002)) else (none)) else (none)) else (some true)
def ephemerislaw2_OscillPlays.j5 : Nat → Int → List (S41) → Bool → Int → List Int → Int → Int → Int → Bool → Int → Int → Int → Int → Int → Int → Option (Bool)
  | 0, _, _, _, _, _, _, _, _, _, _, _, _, _, _, _ => none
  | k + 1, x0, x2, x9, x12, x44, x45, x46, x163000, x163001, x163002, x163003, x163004, x165000, x165001, x165002 => (oscill_Clock_At.f k x163000 x163001 x163002 x163003 x163004 x12).bind fun bt176 => (if x12 < 0 then (ephemerislaw2_OscillPlays.j6 k x0 x2 x9 x12 bt176.2.2.1 x44 x45 x46 true bt176.2.2.2.1 bt176.2.2.2.2.1 bt176.2.2.2.2.2.1 bt176.2.2.2.2.2.2.1 bt176.2.2.2.2.2.2.2 x165000 x165001 x165002 bt176.1 bt176.2.1) else (ephemerislaw2_OscillPlays.j6 k x0 x2 x9 x12 bt176.2.2.1 x44 x45 x46 (decide (x12 > 1000000000000)) bt176.2.2.2.1 bt176.2.2.2.2.1 bt176.2.2.2.2.2.1 bt176.2.2.2.2.2.2.1 bt176.2.2.2.2.2.2.2 x165000 x165001 x165002 bt176.1 bt176.2.1))
def ephemerislaw2_OscillPlays.j6 : Nat → Int → List (S41) → Bool → Int → Int → List Int → Int → Int → Bool → Int → Bool → Int → Int → Int → Int → Int → Int → Int → Int → Option (Bool)
  | 0, _, _, _, _, _, _, _, _, _, _, _, _, _, _, _, _, _, _, _ => none
  | k + 1, x0, x2, x9, x12, x15, x44, x45, x46, x111, x163000, x163001, x163002, x163003, x163004, x165000, x165001, x165002, x185000, x185001 => if x111 = true then ((ephemerislaw2_none.f x185000 x185001 x15 3).bind fun t185 => (if t185 = true then (ephemerislaw2_OscillPlays.l0 k x0 x2 x9 x44 x45 (wrap64 (x46 + 1)) x163000 x163001 x163002 x163003 x163004 x165000 x165001 x165002) else (some false))) else (if x9 = true then ((ephemerisref2_Moved.f k x0 x165000 x165001 x165002 x12).bind fun bt186 => (if (!(x185000 == bt186.1) || (!(x185001 == bt186.2.1))) = true then (some false) else (if x15 = bt186.2.2 then (ephemerislaw2_OscillPlays.l0 k x0 x2 x9 x44 x45 (wrap64 (x46 + 1)) x163000 x163001 x163002 x163003 x163004 x165000 x165001 x165002) else (some false)))) else ((ephemerislaw2_none.f x185000 x185001 x15 10).bind fun t190 => (if t190 = true then (ephemerislaw2_OscillPlays.l0 k x0 x2 x9 x44 x45 (wrap64 (x46 + 1)) x163000 x163001 x163002 x163003 x163004 x165000 x165001 x165002) else (some false))))
def ephemerislaw2_OscillPlays.j3 : Nat → Int → List (S41) → Bool → Int → Int → Int → List Int → Int → Int → Bool → Int → Bool → Int → Int → Int → Int → Int → Int → Option (Bool)
  | 0, _, _, _, _, _, _, _, _, _, _, _, _, _, _, _, _, _, _ => none
  | k + 1, x0, x2, x9, x11, x12, x13, x44, x45, x46, x72, x163000, x163001, x163002, x163003, x163004, x165000, x165001, x165002 => if x72 = true then (ephemerislaw2_OscillPlays.j4 k x0 x2 x9 x11 x12 9 x44 x45 x46 x163000 x163001 x163002 x163003 x163004 x165000 x165001 x165002) else (ephemerislaw2_OscillPlays.j4 k x0 x2 x9 x11 x12 x13 x44 x45 x46 x163000 x163001 x163002 x163003 x163004 x165000 x165001 x165002)
def ephemerislaw2_OscillPlays.j4 : Nat → Int → List (S41) → Bool → Int → Int → Int → List Int → Int → Int → Int → Bool → Int → Int → Int → Int → Int → Int → Option (Bool)
  | 0, _, _, _, _, _, _, _, _, _, _, _, _, _, _, _, _, _ => none
  | k + 1, x0, x2, x9, x11, x12, x13, x44, x45, x46, x163000, x163001, x163002, x163003, x163004, x165000, x165001, x165002 => if 0 ≤ x11 then (if x11 < (x2.length : Int) then ((oscill_Clock_Set.f k x163000 x163001 x163002 x163003 x163004 x12 ((rd_T41 x2 x11).f0) ((rd_T41 x2 x11).f1)).bind fun bt169 => (if bt169.1 = x13 then (if x13 = 0 then (ephemerislaw2_OscillPlays.j5 k x0 x2 true x12 x44 x45 x46 bt169.2.1 bt169.2.2.1 bt169.2.2.2.1 bt169.2.2.2.2.1 bt169.2.2.2.2.2 x12 ((rd_T41 x2 x11).f0) ((rd_T41 x2 x11).f1)) else (ephemerislaw2_OscillPlays.j5 k x0 x2 x9 x12 x44 x45 x46 bt169.2.1 bt169.2.2.1 bt169.2.2.2.1 bt169.2.2.2.2.1 bt169.2.2.2.2.2 x165000 x165001 x165002)) else (some false))) else (none)) else (none)
end
def ephemerislaw2_OscillPlays.f (k : Nat) (a0 : Int) (l1 : List Int) (l2 : List (S41)) : Option (Bool) := (ephemerislaw2_oscillWorks.f k).bind fun t156 => (if t156 = true then ((oscill_New.f a0).bind fun bt157 => (if a0 < 0 then (ephemerislaw2_OscillPlays.j0 k a0 l1 l2 bt157.2.2.2.2.2 true bt157.1 bt157.2.1 bt157.2.2.1 bt157.2.2.2.1 bt157.2.2.2.2.1) else (ephemerislaw2_OscillPlays.j0 k a0 l1 l2 bt157.2.2.2.2.2 (decide (a0 > 100000)) bt157.1 bt157.2.1 bt157.2.2.1 bt157.2.2.2.1 bt157.2.2.2.2.1))) else (some false))
def ephemerislaw2_OscillPlays.T19 : Bool × List (List Nat × List Nat) := (true, [([], []), ([], []), ([], []), ([1, 2], [1, 2]), ([3], [3]), ([0, 4], [0, 4]), ([], []), ([5, 6, 0, 1, 2, 3, 4, 5, 6], [5])])
def ephemerislaw2_OscillPlays.B19 : List Nat := [0, 0, 0, 6, 14, 31, 0, 127]
theorem ephemerislaw2_OscillPlays.tab19 : rtab .any (opsOf Try.f6 19) = ephemerislaw2_OscillPlays.T19 := by kernel_rfl
theorem ephemerislaw2_OscillPlays.bits19 : waitsOk ephemerislaw2_OscillPlays.T19.2 ephemerislaw2_OscillPlays.B19 = true := by kernel_rfl
set_option maxHeartbeats 8000000 in
set_option maxRecDepth 100000 in
theorem ephemerislaw2_OscillPlays.calls (k : Nat) (a0 : Int) (A1 : Option Addr) (c1 : Nat) (l1 : List Int) (A2 : Option Addr) (c2 : Nat) (l2 : List (S41)) (r : Bool) (w : World) (hr1 : Kd.C (Kd.int .i64) w A1 l1.length l1) (hc1 : l1.length ≤ c1) (hr2 : Kd.C k41 w A2 l2.length l2) (hc2 : l2.length ≤ c2) (h : ephemerislaw2_OscillPlays.f k a0 l1 l2 = some r) (hT : r = true) :
    Calls Try.prog 6 #[.int .i64 a0, .slice A1 l1.length c1, .slice A2 l2.length c2] w fun e w' => e = .returned (.bool r) ∧ Below w.heap.size w w' := by
  have hu49 := Try.underlying49
  have hu41 := Try.underlying41
  have HR1 := Aside0.mk hr1
  have HC1 := Aside0.mk hc1
  clear hr1 hc1
  have HR2 := Aside0.mk hr2
  have HC2 := Aside0.mk hc2
  clear hr2 hc2
  have HB := Aside0.mk (Below.refl w.heap.size w)
  have H : ((ephemerislaw2_oscillWorks.f k).bind fun t156 => (if t156 = true then ((oscill_New.f a0).bind fun bt157 => (if a0 < 0 then (ephemerislaw2_OscillPlays.j0 k a0 l1 l2 bt157.2.2.2.2.2 true bt157.1 bt157.2.1 bt157.2.2.1 bt157.2.2.2.1 bt157.2.2.2.2.1) else (ephemerislaw2_OscillPlays.j0 k a0 l1 l2 bt157.2.2.2.2.2 (decide (a0 > 100000)) bt157.1 bt157.2.1 bt157.2.2.1 bt157.2.2.2.1 bt157.2.2.2.2.1))) else (some false))) = some r := h
  clear h
  replace H := Option.bind_eq_some_iff.mp H
  obtain ⟨t156, A40, H⟩ := H
  replace H : (if t156 = true then ((oscill_New.f a0).bind fun bt157 => (if a0 < 0 then (ephemerislaw2_OscillPlays.j0 k a0 l1 l2 bt157.2.2.2.2.2 true bt157.1 bt157.2.1 bt157.2.2.1 bt157.2.2.2.1 bt157.2.2.2.2.1) else (ephemerislaw2_OscillPlays.j0 k a0 l1 l2 bt157.2.2.2.2.2 (decide (a0 > 100000)) bt157.1 bt157.2.1 bt157.2.2.1 bt157.2.2.2.1 bt157.2.2.2.2.1))) else (some false)) = some r := H
  have A4 := Aside0.mk A40
  clear A40
  by_cases c5 : t156 = true
  · subst c5
    have H1 : ((oscill_New.f a0).bind fun bt157 => (if a0 < 0 then (ephemerislaw2_OscillPlays.j0 k a0 l1 l2 bt157.2.2.2.2.2 true bt157.1 bt157.2.1 bt157.2.2.1 bt157.2.2.2.1 bt157.2.2.2.2.1) else (ephemerislaw2_OscillPlays.j0 k a0 l1 l2 bt157.2.2.2.2.2 (decide (a0 > 100000)) bt157.1 bt157.2.1 bt157.2.2.1 bt157.2.2.2.1 bt157.2.2.2.2.1))) = some r := by rw [if_pos rfl] at H; exact H
    clear H
    have H := H1
    clear H1
    replace H := Option.bind_eq_some_iff.mp H
    obtain ⟨⟨t157, t158, t159, t160, t161, t163⟩, A60, H⟩ := H
    replace H : (if a0 < 0 then (ephemerislaw2_OscillPlays.j0 k a0 l1 l2 t163 true t157 t158 t159 t160 t161) else (ephemerislaw2_OscillPlays.j0 k a0 l1 l2 t163 (decide (a0 > 100000)) t157 t158 t159 t160 t161)) = some r := H
    have A6 := Aside0.mk A60
    clear A60
    have HC7 := Aside0.mk H
    clear H
    go_enter Try.func6, Try.ntmps6
    go_upto_region 4 with (first | ((with_reducible refine gate_callee (f := 16) rfl ?_); refine goesL_ (some 18) rfl rfl Try.func16 (by kernel_rfl) rfl #[] rfl (by (try simp only [List.map_toArray, List.map_cons, List.map_nil]); first | done | rfl | (simp only [List.length_drop, List.length_take]; rfl)) ?_; (with_reducible refine (ephemerislaw2_oscillWorks.calls k  true _ A4.out rfl).mono ?_); rintro e w8 ⟨rfl, hb⟩; refine ⟨_, rfl, ?_⟩; have n0_ := Aside0.mk (below_step (by repeat (first | (with_reducible first | exact HB.out | apply below_alloc | apply pw_below_drewN | apply below_drew1) | exact HB.out)) hb); clear HB; have HB := n0_; clear n0_; (try clear hb); (try clear hb2); (try clear hk); (try clear hi)) | ((with_reducible refine gate_callee (f := 17) rfl ?_); refine goesL_ (some 22) rfl rfl Try.func17 (by kernel_rfl) rfl #[.int .i64 a0] rfl (by (try simp only [List.map_toArray, List.map_cons, List.map_nil]); first | done | rfl | (simp only [List.length_drop, List.length_take]; rfl)) ?_; (with_reducible refine (oscill_New.calls a0 t157 t158 t159 t160 t161 t163 w _ ?side1 A6.out).mono ?_); (case side1 => repeat (first | (with_reducible first | exact HB.out | apply below_alloc | apply pw_below_drewN | apply below_drew1) | exact HB.out)); rintro e w9 ⟨g162, rfl, hi, hb, hb2⟩; refine ⟨_, rfl, ?_⟩; have n0_ := Aside0.mk (hb); have n1_ := Aside0.mk (hi); clear HB; have HB := n0_; have HI162 := n1_; clear n0_ n1_; (try clear hb); (try clear hb2); (try clear hk); (try clear hi)))
    (try simp only [Act.put, List.setIfInBounds_toArray, List.set_cons_zero, List.set_cons_succ])
    go_cut [30] (fun v30 wc => ∃ (kq : Nat) (x30_6 : Bool), v30 = .bool x30_6 ∧ Aside0 (ephemerislaw2_OscillPlays.j0 kq a0 l1 l2 t163 x30_6 t157 t158 t159 t160 t161 = some r) ∧ Aside0 (kq ≤ k) ∧ Aside0 (IsS63 w wc g162 t157 t158 t159 t160 t161) ∧ Aside0 (Below w.heap.size w wc))
    case first =>
      have H := HC7.out
      clear HC7
      by_cases c10 : a0 < 0
      · rw [if_pos c10] at H
        have c10b0 : decide (a0 < 0) = true := decide_eq_true c10
        clear c10
        (first | rw [c10b0] | (simp only [i64_w, i32_w]; rw [c10b0]) | skip)
        have H' := Aside0.mk H
        clear H
        go_wp2
        go_meet
        case rel => exact ⟨_, (true), (by first | rfl | (simp; done) | (simp [*]; done)), H', ⟨by first | omega | exact Nat.le_refl _⟩, ⟨by repeat (first | (with_reducible first | exact HI162.out | apply IsS63.alloc | apply IsS63.drewN | apply IsS63.drew | apply IsS63.set_0 | apply IsS63.set_1 | apply IsS63.set_2 | apply IsS63.set_3 | apply IsS63.set_4) | exact HI162.out)⟩, ⟨by repeat (first | (with_reducible first | exact HB.out | apply below_alloc | apply pw_below_drewN | apply below_drew1 | refine below_set ?_ (IsS63.ge HI162.out)) | exact HB.out)⟩⟩
      · rw [if_neg c10] at H
        have c10b0 : decide (a0 < 0) = false := decide_eq_false c10
        clear c10
        (first | rw [c10b0] | (simp only [i64_w, i32_w]; rw [c10b0]) | skip)
        have H' := Aside0.mk H
        clear H
        go_wp2
        go_meet
        case rel => exact ⟨_, (decide (a0 > 100000)), (by first | rfl | (simp; done) | (simp [*]; done)), H', ⟨by first | omega | exact Nat.le_refl _⟩, ⟨by repeat (first | (with_reducible first | exact HI162.out | apply IsS63.alloc | apply IsS63.drewN | apply IsS63.drew | apply IsS63.set_0 | apply IsS63.set_1 | apply IsS63.set_2 | apply IsS63.set_3 | apply IsS63.set_4) | exact HI162.out)⟩, ⟨by repeat (first | (with_reducible first | exact HB.out | apply below_alloc | apply pw_below_drewN | apply below_drew1 | refine below_set ?_ (IsS63.ge HI162.out)) | exact HB.out)⟩⟩
    case rest =>
      clear HC7
      try clear c1
      try clear c2
      try clear p2
      try clear c5
      try clear c6
      try clear c10
      try clear c10b0
      obtain ⟨kq, x30_6, rfl, HA, HJ6, HI162, HB⟩ := hcut
      cases kq with
      | zero => exact absurd HA.out (by simp [ephemerislaw2_OscillPlays.j0])
      | succ kj6 =>
        have H := HA.out
        clear HA
        simp only [ephemerislaw2_OscillPlays.j0] at H
        by_cases c11 : x30_6 = true
        · subst c11
          have H1 : (if t163 = 1 then (some false) else (some false)) = some r := by rw [if_pos rfl] at H; exact H
          clear H
          have H := H1
          clear H1
          by_cases c12 : t163 = 1
          · rw [if_pos c12] at H
            have c12b0 : (t163 == 1) = true := beq_iff_eq.mpr c12
            have c12b1 : (t163 != 1) = false := bne_eq_false_iff_eq.mpr c12
            clear c12
            obtain rfl := Option.some.inj H
            exact absurd hT (by decide)
          · rw [if_neg c12] at H
            have c12b0 : (t163 == 1) = false := beq_eq_false_iff_ne.mpr c12
            have c12b1 : (t163 != 1) = true := bne_iff_ne.mpr c12
            obtain rfl := Option.some.inj H
            exact absurd hT (by decide)
        · replace c11 := Bool.eq_false_iff.mpr c11
          subst c11
          have H1 : (if t163 = 0 then (ephemerislaw2_OscillPlays.j1 kj6 a0 l1 l2 false t157 t158 t159 t160 t161) else (ephemerislaw2_OscillPlays.j1 kj6 a0 l1 l2 true t157 t158 t159 t160 t161)) = some r := by rw [if_neg (show ¬ (false = true) by decide)] at H; exact H
          clear H
          have H := H1
          clear H1
          have HC13 := Aside0.mk H
          clear H
          go_upto_region 6 with (fail)
          go_cut [42] (fun v42 wc => ∃ (kq : Nat) (x42_12 : Bool), v42 = .bool x42_12 ∧ Aside0 (ephemerislaw2_OscillPlays.j1 kq a0 l1 l2 x42_12 t157 t158 t159 t160 t161 = some r) ∧ Aside0 (kq ≤ kj6) ∧ Aside0 (IsS63 w wc g162 t157 t158 t159 t160 t161) ∧ Aside0 (Below w.heap.size w wc))
          case first =>
            have H := HC13.out
            clear HC13
            by_cases c14 : t163 = 0
            · rw [if_pos c14] at H
              have c14b0 : (t163 == 0) = true := beq_iff_eq.mpr c14
              have c14b1 : (t163 != 0) = false := bne_eq_false_iff_eq.mpr c14
              clear c14
              (first | rw [c14b0] | (simp only [i64_w, i32_w]; rw [c14b0]) | skip)
              have H' := Aside0.mk H
              clear H
              go_wp2
              go_meet
              case rel => exact ⟨_, (false), (by first | rfl | (simp; done) | (simp [*]; done)), H', ⟨by have := HJ6.out; first | omega | exact Nat.le_refl _⟩, ⟨by repeat (first | (with_reducible first | exact HI162.out | apply IsS63.alloc | apply IsS63.drewN | apply IsS63.drew | apply IsS63.set_0 | apply IsS63.set_1 | apply IsS63.set_2 | apply IsS63.set_3 | apply IsS63.set_4) | exact HI162.out)⟩, ⟨by repeat (first | (with_reducible first | exact HB.out | apply below_alloc | apply pw_below_drewN | apply below_drew1 | refine below_set ?_ (IsS63.ge HI162.out)) | exact HB.out)⟩⟩
            · rw [if_neg c14] at H
              have c14b0 : (t163 == 0) = false := beq_eq_false_iff_ne.mpr c14
              have c14b1 : (t163 != 0) = true := bne_iff_ne.mpr c14
              (first | rw [c14b0] | (simp only [i64_w, i32_w]; rw [c14b0]) | skip)
              have H' := Aside0.mk H
              clear H
              go_wp2
              go_meet
              case rel => exact ⟨_, (true), (by first | rfl | (simp; done) | (simp [*]; done)), H', ⟨by have := HJ6.out; first | omega | exact Nat.le_refl _⟩, ⟨by repeat (first | (with_reducible first | exact HI162.out | apply IsS63.alloc | apply IsS63.drewN | apply IsS63.drew | apply IsS63.set_0 | apply IsS63.set_1 | apply IsS63.set_2 | apply IsS63.set_3 | apply IsS63.set_4) | exact HI162.out)⟩, ⟨by repeat (first | (with_reducible first | exact HB.out | apply below_alloc | apply pw_below_drewN | apply below_drew1 | refine below_set ?_ (IsS63.ge HI162.out)) | exact HB.out)⟩⟩
          case rest =>
            clear HC13
            try clear c1
            try clear c2
            try clear p2
            try clear c5
            try clear c6
            try clear c10
            try clear c10b0
            try clear c11
            try clear c12
            try clear c12b0
            try clear c12b1
            try clear c14
            try clear c14b0
            try clear c14b1
            try clear p2
            obtain ⟨kq, x42_12, rfl, HA, HJ12, HI162, HB⟩ := hcut
            cases kq with
            | zero => exact absurd HA.out (by simp [ephemerislaw2_OscillPlays.j1])
            | succ kj12 =>
              have H := HA.out
              clear HA
              simp only [ephemerislaw2_OscillPlays.j1] at H
              by_cases c15 : x42_12 = true
              · subst c15
                have H1 : (some false) = some r := by rw [if_pos rfl] at H; exact H
                clear H
                have H := H1
                clear H1
                obtain rfl := Option.some.inj H
                exact absurd hT (by decide)
              · replace c15 := Bool.eq_false_iff.mpr c15
                subst c15
                have H1 : (ephemerislaw2_OscillPlays.l0 kj12 a0 l2 false l1 (l1.length : Int) 0 t157 t158 t159 t160 t161 0 0 0) = some r := by rw [if_neg (show ¬ (false = true) by decide)] at H; exact H
                clear H
                have H := H1
                clear H1
                have H' := Aside0.mk H
                clear H
                go_wp2_with (first | ((with_reducible refine gate_dst (N := 10) rfl ?_); refine box_event ?hg (N := 10) ?hd (cs := #[.int .i64 0, .int .i64 0, .int .i64 0]) (t := 49) ?hr ?_; (case hd => rfl); (case hg => rfl); (case hr => first | (go_simp; done) | (go_simp; rfl)); intro gb164 hg w16 hbox hb; have n0_ := Aside0.mk (IsS63.below (by repeat (first | (with_reducible first | exact HI162.out | apply IsS63.alloc | apply IsS63.drewN | apply IsS63.drew | apply IsS63.set_0 | apply IsS63.set_1 | apply IsS63.set_2 | apply IsS63.set_3 | apply IsS63.set_4) | exact HI162.out)) hb); have n1_ := Aside0.mk (below_step (by repeat (first | (with_reducible first | exact HB.out | apply below_alloc | apply pw_below_drewN | apply below_drew1 | refine below_set ?_ (IsS63.ge HI162.out)) | exact HB.out)) hb); have n2_ := Aside0.mk (hbox); have n3_ := Aside0.mk ((by rw [hg]; exact (below_size (by repeat (first | (with_reducible first | exact HB.out | apply below_alloc | apply pw_below_drewN | apply below_drew1 | refine below_set ?_ (IsS63.ge HI162.out)) | exact HB.out))) : w.heap.size ≤ gb164)); have n4_ := Aside0.mk ((by rw [hg]; exact (below_size (by repeat (first | (with_reducible first | exact HB.out | apply below_alloc | apply pw_below_drewN | apply below_drew1 | refine below_set ?_ (IsS63.ge HI162.out)) | exact HB.out))) : w.heap.size ≤ gb164)); have n5_ := Aside0.mk ((by rw [hg]; exact Nat.ne_of_lt (IsS63.lt (show IsS63 w _ g162 t157 t158 t159 t160 t161 from by repeat (first | (with_reducible first | exact HI162.out | apply IsS63.alloc | apply IsS63.drewN | apply IsS63.drew | apply IsS63.set_0 | apply IsS63.set_1 | apply IsS63.set_2 | apply IsS63.set_3 | apply IsS63.set_4) | exact HI162.out))) : g162 ≠ gb164)); have n6_ := Aside0.mk ((by rw [hg]; exact Nat.ne_of_gt (IsS63.lt (show IsS63 w _ g162 t157 t158 t159 t160 t161 from by repeat (first | (with_reducible first | exact HI162.out | apply IsS63.alloc | apply IsS63.drewN | apply IsS63.drew | apply IsS63.set_0 | apply IsS63.set_1 | apply IsS63.set_2 | apply IsS63.set_3 | apply IsS63.set_4) | exact HI162.out))) : gb164 ≠ g162)); clear HI162; clear HB; have HI162 := n0_; have HB := n1_; have BK164 := n2_; have GW164 := n3_; have GE164 := n4_; have NB162_164 := n5_; have NB164_162 := n6_; clear n0_ n1_ n2_ n3_ n4_ n5_ n6_; clear hb hbox hg; have hnb17 := NB164_162.out; have hnc17 := NB162_164.out; have hcz18_0 : w16.cell? ⟨gb164, 0, none⟩ = some (.int .i64 0) := (blk_cell BK164.out 0).trans rfl; have hcz18_1 : w16.cell? ⟨gb164, 1, none⟩ = some (.int .i64 0) := (blk_cell BK164.out 1).trans rfl; have hcz18_2 : w16.cell? ⟨gb164, 2, none⟩ = some (.int .i64 0) := (blk_cell BK164.out 2).trans rfl; have hfz18_0 := blk_frozen BK164.out 0; have hfz18_1 := blk_frozen BK164.out 1; have hfz18_2 := blk_frozen BK164.out 2))
                go_loopg [9, 46] kj12 (fun kq v9 v46 w' => ∃ (x9_3 : Bool) (x46_3 : Int) (x163000_3 : Int) (x163001_3 : Bool) (x163002_3 : Int) (x163003_3 : Int) (x163004_3 : Int) (x165000_3 : Int) (x165001_3 : Int) (x165002_3 : Int), v9 = .bool x9_3 ∧ v46 = .int .i64 x46_3 ∧ Aside0 (ephemerislaw2_OscillPlays.l0 kq a0 l2 x9_3 l1 (l1.length : Int) x46_3 x163000_3 x163001_3 x163002_3 x163003_3 x163004_3 x165000_3 x165001_3 x165002_3 = some r) ∧ Aside0 (kq ≤ kj12) ∧ Aside0 (w'.heap[gb164]? = some (.cells #[.int .i64 x165000_3, .int .i64 x165001_3, .int .i64 x165002_3] 49 (0, 0))) ∧ Aside0 (IsS63 w w' g162 x163000_3 x163001_3 x163002_3 x163003_3 x163004_3) ∧ Aside0 (Below w.heap.size w w'))
                case atStart => exact ⟨(false), (0), (t157), (t158), (t159), (t160), (t161), (0), (0), (0), (by first | rfl | (simp; done) | (simp [*]; done)), (by first | rfl | (simp; done) | (simp [*]; done)), H', ⟨Nat.le_refl _⟩, ⟨by (with_reducible repeat (first | refine blk_drewN ?_ _ | refine blk_drew ?_ | refine blk_alloc ?_ _)); refine blk_put (cs := #[.int .i64 0, .int .i64 0, .int .i64 0]) ?_ 2 _ rfl; (with_reducible repeat (first | refine blk_drewN ?_ _ | refine blk_drew ?_ | refine blk_alloc ?_ _)); refine blk_put (cs := #[.int .i64 0, .int .i64 0, .int .i64 0]) ?_ 1 _ rfl; (with_reducible repeat (first | refine blk_drewN ?_ _ | refine blk_drew ?_ | refine blk_alloc ?_ _)); refine blk_put (cs := #[.int .i64 0, .int .i64 0, .int .i64 0]) ?_ 0 _ rfl; (with_reducible repeat (first | refine blk_drewN ?_ _ | refine blk_drew ?_ | refine blk_alloc ?_ _)); exact BK164.out⟩, ⟨by repeat (first | (with_reducible first | exact HI162.out | apply IsS63.alloc | apply IsS63.drewN | apply IsS63.drew | apply IsS63.set_0 | apply IsS63.set_1 | apply IsS63.set_2 | apply IsS63.set_3 | apply IsS63.set_4 | refine IsS63.far ?_ NB162_164.out _) | exact HI162.out)⟩, ⟨by repeat (first | (with_reducible first | exact HB.out | apply below_alloc | apply pw_below_drewN | apply below_drew1 | refine below_set ?_ (IsS63.ge HI162.out) | refine below_set ?_ GE164.out) | exact HB.out)⟩⟩
                case round =>
                  clear H'
                  try clear c1
                  try clear c2
                  try clear p2
                  try clear c5
                  try clear c6
                  try clear c10
                  try clear c10b0
                  try clear c11
                  try clear c12
                  try clear c12b0
                  try clear c12b1
                  try clear c14
                  try clear c14b0
                  try clear c14b1
                  try clear c15
                  try clear c16
                  try clear c17
                  try clear hcz18_0
                  try clear hcz18_1
                  try clear hcz18_2
                  try clear hfz18_0
                  try clear hfz18_1
                  try clear hfz18_2
                  try clear p2
                  obtain ⟨x9_3, x46_3, x163000_3, x163001_3, x163002_3, x163003_3, x163004_3, x165000_3, x165001_3, x165002_3, rfl, rfl, HA, HK3, BK164, HI162, HB⟩ := hrel
                  cases gk with
                  | zero => exact absurd HA.out (by simp [ephemerislaw2_OscillPlays.l0])
                  | succ k3 =>
                    have H := HA.out
                    clear HA
                    simp only [ephemerislaw2_OscillPlays.l0] at H
                    by_cases c19 : x46_3 < (l1.length : Int)
                    · rw [if_pos c19] at H
                      have c19b0 : decide (x46_3 < (l1.length : Int)) = true := decide_eq_true c19
                      clear c19
                      by_cases c20 : 0 ≤ x46_3
                      · rw [if_pos c20] at H
                        have c20b0 : decide (0 ≤ x46_3) = true := decide_eq_true c20
                        clear c20
                        by_cases c21 : x46_3 < (l1.length : Int)
                        · rw [if_pos c21] at H
                          have c21b0 : decide (x46_3 < (l1.length : Int)) = true := decide_eq_true c21
                          clear c21
                          have HC22 := Aside0.mk H
                          clear H
                          have p165 : 0 ≤ (x46_3 : Int) := of_decide_eq_true (by first | (with_reducible assumption) | assumption)
                          have q165 : x46_3 < (l1.length : Int) := of_decide_eq_true (by first | (with_reducible assumption) | assumption)
                          obtain ⟨ad165, e165, hx165_0⟩ := Kd.at_int HR1.out x46_3 p165 q165
                          cases e165
                          replace hx165_0 := (HB.out.cell (World.block_lt_of_cell? w _ hx165_0)).trans hx165_0
                          replace p165 := eq_true p165
                          replace q165 := eq_true q165
                          go_upto_if 54 with (fail)
                          go_cut [9] (fun v9 wc => ∃ (kq : Nat) (x9_21 : Bool) (x163000_21 : Int) (x163001_21 : Bool) (x163002_21 : Int) (x163003_21 : Int) (x163004_21 : Int) (x165000_21 : Int) (x165001_21 : Int) (x165002_21 : Int), v9 = .bool x9_21 ∧ Aside0 (ephemerislaw2_OscillPlays.j5 kq a0 l2 x9_21 (rd l1 x46_3) l1 (l1.length : Int) x46_3 x163000_21 x163001_21 x163002_21 x163003_21 x163004_21 x165000_21 x165001_21 x165002_21 = some r) ∧ Aside0 (kq ≤ k3) ∧ Aside0 (wc.heap[gb164]? = some (.cells #[.int .i64 x165000_21, .int .i64 x165001_21, .int .i64 x165002_21] 49 (0, 0))) ∧ Aside0 (IsS63 w wc g162 x163000_21 x163001_21 x163002_21 x163003_21 x163004_21) ∧ Aside0 (Below w.heap.size w wc))
                          case first =>
                            have H := HC22.out
                            clear HC22
                            by_cases c23 : x46_3 < (l2.length : Int)
                            · rw [if_pos c23] at H
                              have c23b0 : decide (x46_3 < (l2.length : Int)) = true := decide_eq_true c23
                              clear c23
                              (first | rw [c23b0] | (simp only [i64_w, i32_w]; rw [c23b0]) | skip)
                              replace H := Option.bind_eq_some_iff.mp H
                              obtain ⟨t167, A240, H⟩ := H
                              replace H : (if t167 = 0 then (if x9_3 = true then (ephemerislaw2_OscillPlays.j3 k3 a0 l2 x9_3 x46_3 (rd l1 x46_3) t167 l1 (l1.length : Int) x46_3 (decide ((rd l1 x46_3) < x165000_3)) x163000_3 x163001_3 x163002_3 x163003_3 x163004_3 x165000_3 x165001_3 x165002_3) else (ephemerislaw2_OscillPlays.j3 k3 a0 l2 x9_3 x46_3 (rd l1 x46_3) t167 l1 (l1.length : Int) x46_3 false x163000_3 x163001_3 x163002_3 x163003_3 x163004_3 x165000_3 x165001_3 x165002_3)) else (ephemerislaw2_OscillPlays.j3 k3 a0 l2 x9_3 x46_3 (rd l1 x46_3) t167 l1 (l1.length : Int) x46_3 false x163000_3 x163001_3 x163002_3 x163003_3 x163004_3 x165000_3 x165001_3 x165002_3)) = some r := H
                              have A24 := Aside0.mk A240
                              clear A240
                              have HC25 := Aside0.mk H
                              clear H
                              have p166 : 0 ≤ (x46_3 : Int) := of_decide_eq_true (by first | (with_reducible assumption) | assumption)
                              have q166 : x46_3 < (l2.length : Int) := of_decide_eq_true (by first | (with_reducible assumption) | assumption)
                              obtain ⟨ad166, e166, hx166_0, hx166_1⟩ := at_T41 HR2.out x46_3 p166 q166
                              cases e166
                              replace hx166_0 := (HB.out.cell (World.block_lt_of_cell? w _ hx166_0)).trans hx166_0
                              replace hx166_1 := (HB.out.cell (World.block_lt_of_cell? w _ hx166_1)).trans hx166_1
                              replace p166 := eq_true p166
                              replace q166 := eq_true q166
                              go_upto_region 14 with (first | ((with_reducible refine gate_callee (f := 18) rfl ?_); refine goesL_ (some 61) rfl rfl Try.func18 (by kernel_rfl) rfl #[.agg #[.int .i64 (rd l1 x46_3), .int .i64 ((rd_T41 l2 x46_3).f0), .int .i64 ((rd_T41 l2 x46_3).f1)]] rfl (by (try simp only [List.map_toArray, List.map_cons, List.map_nil]); first | done | rfl | (simp only [List.length_drop, List.length_take]; rfl)) ?_; (with_reducible refine (ephemerisref2_ReadingErr.calls k3 (rd l1 x46_3) ((rd_T41 l2 x46_3).f0) ((rd_T41 l2 x46_3).f1) t167 _ A24.out).mono ?_); rintro e w26 ⟨rfl, hb⟩; refine ⟨_, rfl, ?_⟩; have n0_ := Aside0.mk (blk_below (g := gb164) (o := .cells #[.int .i64 x165000_3, .int .i64 x165001_3, .int .i64 x165002_3] 49 (0, 0)) (by (with_reducible repeat (first | refine blk_drewN ?_ _ | refine blk_drew ?_ | refine blk_alloc ?_ _)); exact BK164.out) hb); have n1_ := Aside0.mk (IsS63.below (by repeat (first | (with_reducible first | exact HI162.out | apply IsS63.alloc | apply IsS63.drewN | apply IsS63.drew | apply IsS63.set_0 | apply IsS63.set_1 | apply IsS63.set_2 | apply IsS63.set_3 | apply IsS63.set_4 | refine IsS63.far ?_ NB162_164.out _) | exact HI162.out)) hb); have n2_ := Aside0.mk (below_step (by repeat (first | (with_reducible first | exact HB.out | apply below_alloc | apply pw_below_drewN | apply below_drew1 | refine below_set ?_ (IsS63.ge HI162.out) | refine below_set ?_ GE164.out) | exact HB.out)) hb); clear BK164; clear HI162; clear HB; have BK164 := n0_; have HI162 := n1_; have HB := n2_; clear n0_ n1_ n2_; (try clear hb); (try clear hb2); (try clear hk); (try clear hi)))
                              (try simp only [Act.put, List.setIfInBounds_toArray, List.set_cons_zero, List.set_cons_succ])
                              go_cut [72] (fun v72 wc => ∃ (kq : Nat) (x72_24 : Bool), v72 = .bool x72_24 ∧ Aside0 (ephemerislaw2_OscillPlays.j3 kq a0 l2 x9_3 x46_3 (rd l1 x46_3) t167 l1 (l1.length : Int) x46_3 x72_24 x163000_3 x163001_3 x163002_3 x163003_3 x163004_3 x165000_3 x165001_3 x165002_3 = some r) ∧ Aside0 (kq ≤ k3) ∧ Aside0 (wc.heap[gb164]? = some (.cells #[.int .i64 x165000_3, .int .i64 x165001_3, .int .i64 x165002_3] 49 (0, 0))) ∧ Aside0 (IsS63 w wc g162 x163000_3 x163001_3 x163002_3 x163003_3 x163004_3) ∧ Aside0 (Below w.heap.size w wc))
                              case first =>
                                have H := HC25.out
                                clear HC25
                                by_cases c27 : t167 = 0
                                · rw [if_pos c27] at H
                                  have c27b0 : (t167 == 0) = true := beq_iff_eq.mpr c27
                                  have c27b1 : (t167 != 0) = false := bne_eq_false_iff_eq.mpr c27
                                  clear c27
                                  (first | rw [c27b0] | (simp only [i64_w, i32_w]; rw [c27b0]) | skip)
                                  by_cases c28 : x9_3 = true
                                  · subst c28
                                    have H1 : (ephemerislaw2_OscillPlays.j3 k3 a0 l2 true x46_3 (rd l1 x46_3) t167 l1 (l1.length : Int) x46_3 (decide ((rd l1 x46_3) < x165000_3)) x163000_3 x163001_3 x163002_3 x163003_3 x163004_3 x165000_3 x165001_3 x165002_3) = some r := by rw [if_pos rfl] at H; exact H
                                    clear H
                                    have H := H1
                                    clear H1
                                    have H' := Aside0.mk H
                                    clear H
                                    have hnb29 := NB164_162.out
                                    have hnc29 := NB162_164.out
                                    have hcz30_0 : w26.cell? ⟨gb164, 0, none⟩ = some (.int .i64 x165000_3) := (blk_cell BK164.out 0).trans rfl
                                    have hcz30_1 : w26.cell? ⟨gb164, 1, none⟩ = some (.int .i64 x165001_3) := (blk_cell BK164.out 1).trans rfl
                                    have hcz30_2 : w26.cell? ⟨gb164, 2, none⟩ = some (.int .i64 x165002_3) := (blk_cell BK164.out 2).trans rfl
                                    have hfz30_0 := blk_frozen BK164.out 0
                                    have hfz30_1 := blk_frozen BK164.out 1
                                    have hfz30_2 := blk_frozen BK164.out 2
                                    go_wp2
                                    go_meet
                                    case rel => exact ⟨_, (decide ((rd l1 x46_3) < x165000_3)), (by first | rfl | (simp; done) | (simp [*]; done)), H', ⟨by have := HJ6.out; have := HJ12.out; have := HK3.out; first | omega | exact Nat.le_refl _⟩, ⟨by (with_reducible repeat (first | refine blk_drewN ?_ _ | refine blk_drew ?_ | refine blk_alloc ?_ _)); exact BK164.out⟩, ⟨by repeat (first | (with_reducible first | exact HI162.out | apply IsS63.alloc | apply IsS63.drewN | apply IsS63.drew | apply IsS63.set_0 | apply IsS63.set_1 | apply IsS63.set_2 | apply IsS63.set_3 | apply IsS63.set_4 | refine IsS63.far ?_ NB162_164.out _) | exact HI162.out)⟩, ⟨by repeat (first | (with_reducible first | exact HB.out | apply below_alloc | apply pw_below_drewN | apply below_drew1 | refine below_set ?_ (IsS63.ge HI162.out) | refine below_set ?_ GE164.out) | exact HB.out)⟩⟩
                                  · replace c28 := Bool.eq_false_iff.mpr c28
                                    subst c28
                                    have H1 : (ephemerislaw2_OscillPlays.j3 k3 a0 l2 false x46_3 (rd l1 x46_3) t167 l1 (l1.length : Int) x46_3 false x163000_3 x163001_3 x163002_3 x163003_3 x163004_3 x165000_3 x165001_3 x165002_3) = some r := by rw [if_neg (show ¬ (false = true) by decide)] at H; exact H
                                    clear H
                                    have H := H1
                                    clear H1
                                    have H' := Aside0.mk H
                                    clear H
                                    go_wp2
                                    go_meet
                                    case rel => exact ⟨_, (false), (by first | rfl | (simp; done) | (simp [*]; done)), H', ⟨by have := HJ6.out; have := HJ12.out; have := HK3.out; first | omega | exact Nat.le_refl _⟩, ⟨by (with_reducible repeat (first | refine blk_drewN ?_ _ | refine blk_drew ?_ | refine blk_alloc ?_ _)); exact BK164.out⟩, ⟨by repeat (first | (with_reducible first | exact HI162.out | apply IsS63.alloc | apply IsS63.drewN | apply IsS63.drew | apply IsS63.set_0 | apply IsS63.set_1 | apply IsS63.set_2 | apply IsS63.set_3 | apply IsS63.set_4 | refine IsS63.far ?_ NB162_164.out _) | exact HI162.out)⟩, ⟨by repeat (first | (with_reducible first | exact HB.out | apply below_alloc | apply pw_below_drewN | apply below_drew1 | refine below_set ?_ (IsS63.ge HI162.out) | refine below_set ?_ GE164.out) | exact HB.out)⟩⟩
                                · rw [if_neg c27] at H
                                  have c27b0 : (t167 == 0) = false := beq_eq_false_iff_ne.mpr c27
                                  have c27b1 : (t167 != 0) = true := bne_iff_ne.mpr c27
                                  (first | rw [c27b0] | (simp only [i64_w, i32_w]; rw [c27b0]) | skip)
                                  have H' := Aside0.mk H
                                  clear H
                                  go_wp2
                                  go_meet
                                  case rel => exact ⟨_, (false), (by first | rfl | (simp; done) | (simp [*]; done)), H', ⟨by have := HJ6.out; have := HJ12.out; have := HK3.out; first | omega | exact Nat.le_refl _⟩, ⟨by (with_reducible repeat (first | refine blk_drewN ?_ _ | refine blk_drew ?_ | refine blk_alloc ?_ _)); exact BK164.out⟩, ⟨by repeat (first | (with_reducible first | exact HI162.out | apply IsS63.alloc | apply IsS63.drewN | apply IsS63.drew | apply IsS63.set_0 | apply IsS63.set_1 | apply IsS63.set_2 | apply IsS63.set_3 | apply IsS63.set_4 | refine IsS63.far ?_ NB162_164.out _) | exact HI162.out)⟩, ⟨by repeat (first | (with_reducible first | exact HB.out | apply below_alloc | apply pw_below_drewN | apply below_drew1 | refine below_set ?_ (IsS63.ge HI162.out) | refine below_set ?_ GE164.out) | exact HB.out)⟩⟩
                              case rest =>
                                clear HC25
                                try clear c1
                                try clear p1
                                try clear q1
                                try clear hx1
                                try clear c2
                                try clear p2
                                try clear c5
                                try clear c6
                                try clear c10
                                try clear c10b0
                                try clear c11
                                try clear c12
                                try clear c12b0
                                try clear c12b1
                                try clear c14
                                try clear c14b0
                                try clear c14b1
                                try clear c15
                                try clear c16
                                try clear p16
                                try clear q16
                                try clear hx16
                                try clear c17
                                try clear c18
                                try clear c19
                                try clear c19b0
                                try clear c20
                                try clear c20b0
                                try clear c21
                                try clear c21b0
                                try clear c23
                                try clear c23b0
                                try clear c27
                                try clear c27b0
                                try clear c27b1
                                try clear c28
                                try clear c29
                                try clear hcz18_0
                                try clear hcz18_1
                                try clear hcz18_2
                                try clear hcz30_0
                                try clear hcz30_1
                                try clear hcz30_2
                                try clear hfz18_0
                                try clear hfz18_1
                                try clear hfz18_2
                                try clear hfz30_0
                                try clear hfz30_1
                                try clear hfz30_2
                                try clear hx165_0
                                try clear hx166_0
                                try clear hx166_1
                                try clear p165
                                try clear p166
                                try clear p2
                                try clear q165
                                try clear q166
                                obtain ⟨kq, x72_24, rfl, HA, HJ24, BK164, HI162, HB⟩ := hcut
                                cases kq with
                                | zero => exact absurd HA.out (by simp [ephemerislaw2_OscillPlays.j3])
                                | succ kj24 =>
                                  have H := HA.out
                                  clear HA
                                  simp only [ephemerislaw2_OscillPlays.j3] at H
                                  have HC31 := Aside0.mk H
                                  clear H
                                  go_upto_if 72 with (fail)
                                  go_cut [13] (fun v13 wc => ∃ (kq : Nat) (x13_30 : Int), v13 = .int .i64 x13_30 ∧ Aside0 (ephemerislaw2_OscillPlays.j4 kq a0 l2 x9_3 x46_3 (rd l1 x46_3) x13_30 l1 (l1.length : Int) x46_3 x163000_3 x163001_3 x163002_3 x163003_3 x163004_3 x165000_3 x165001_3 x165002_3 = some r) ∧ Aside0 (kq ≤ kj24) ∧ Aside0 (wc.heap[gb164]? = some (.cells #[.int .i64 x165000_3, .int .i64 x165001_3, .int .i64 x165002_3] 49 (0, 0))) ∧ Aside0 (IsS63 w wc g162 x163000_3 x163001_3 x163002_3 x163003_3 x163004_3) ∧ Aside0 (Below w.heap.size w wc))
                                  case first =>
                                    have H := HC31.out
                                    clear HC31
                                    by_cases c32 : x72_24 = true
                                    · subst c32
                                      have H1 : (ephemerislaw2_OscillPlays.j4 kj24 a0 l2 x9_3 x46_3 (rd l1 x46_3) 9 l1 (l1.length : Int) x46_3 x163000_3 x163001_3 x163002_3 x163003_3 x163004_3 x165000_3 x165001_3 x165002_3) = some r := by rw [if_pos rfl] at H; exact H
                                      clear H
                                      have H := H1
                                      clear H1
                                      have H' := Aside0.mk H
                                      clear H
                                      go_wp2
                                      go_meet
                                      case rel => exact ⟨_, (9), (by first | rfl | (simp; done) | (simp [*]; done)), H', ⟨by have := HJ6.out; have := HJ12.out; have := HK3.out; have := HJ24.out; first | omega | exact Nat.le_refl _⟩, ⟨by (with_reducible repeat (first | refine blk_drewN ?_ _ | refine blk_drew ?_ | refine blk_alloc ?_ _)); exact BK164.out⟩, ⟨by repeat (first | (with_reducible first | exact HI162.out | apply IsS63.alloc | apply IsS63.drewN | apply IsS63.drew | apply IsS63.set_0 | apply IsS63.set_1 | apply IsS63.set_2 | apply IsS63.set_3 | apply IsS63.set_4 | refine IsS63.far ?_ NB162_164.out _) | exact HI162.out)⟩, ⟨by repeat (first | (with_reducible first | exact HB.out | apply below_alloc | apply pw_below_drewN | apply below_drew1 | refine below_set ?_ (IsS63.ge HI162.out) | refine below_set ?_ GE164.out) | exact HB.out)⟩⟩
                                    · replace c32 := Bool.eq_false_iff.mpr c32
                                      subst c32
                                      have H1 : (ephemerislaw2_OscillPlays.j4 kj24 a0 l2 x9_3 x46_3 (rd l1 x46_3) t167 l1 (l1.length : Int) x46_3 x163000_3 x163001_3 x163002_3 x163003_3 x163004_3 x165000_3 x165001_3 x165002_3) = some r := by rw [if_neg (show ¬ (false = true) by decide)] at H; exact H
                                      clear H
                                      have H := H1
                                      clear H1
                                      have H' := Aside0.mk H
                                      clear H
                                      go_wp2
                                      go_meet
                                      case rel => exact ⟨_, (t167), (by first | rfl | (simp; done) | (simp [*]; done)), H', ⟨by have := HJ6.out; have := HJ12.out; have := HK3.out; have := HJ24.out; first | omega | exact Nat.le_refl _⟩, ⟨by (with_reducible repeat (first | refine blk_drewN ?_ _ | refine blk_drew ?_ | refine blk_alloc ?_ _)); exact BK164.out⟩, ⟨by repeat (first | (with_reducible first | exact HI162.out | apply IsS63.alloc | apply IsS63.drewN | apply IsS63.drew | apply IsS63.set_0 | apply IsS63.set_1 | apply IsS63.set_2 | apply IsS63.set_3 | apply IsS63.set_4 | refine IsS63.far ?_ NB162_164.out _) | exact HI162.out)⟩, ⟨by repeat (first | (with_reducible first | exact HB.out | apply below_alloc | apply pw_below_drewN | apply below_drew1 | refine below_set ?_ (IsS63.ge HI162.out) | refine below_set ?_ GE164.out) | exact HB.out)⟩⟩
                                  case rest =>
                                    clear HC31
                                    try clear c1
                                    try clear p1
                                    try clear q1
                                    try clear hx1
                                    try clear c2
                                    try clear p2
                                    try clear c3
                                    try clear c5
                                    try clear c6
                                    try clear c10
                                    try clear c10b0
                                    try clear c11
                                    try clear c12
                                    try clear c12b0
                                    try clear c12b1
                                    try clear c14
                                    try clear c14b0
                                    try clear c14b1
                                    try clear c15
                                    try clear c16
                                    try clear p16
                                    try clear q16
                                    try clear hx16
                                    try clear c17
                                    try clear c18
                                    try clear c19
                                    try clear c19b0
                                    try clear c20
                                    try clear c20b0
                                    try clear c21
                                    try clear c21b0
                                    try clear c23
                                    try clear c23b0
                                    try clear c27
                                    try clear c27b0
                                    try clear c27b1
                                    try clear c28
                                    try clear c29
                                    try clear c32
                                    try clear hcz18_0
                                    try clear hcz18_1
                                    try clear hcz18_2
                                    try clear hcz30_0
                                    try clear hcz30_1
                                    try clear hcz30_2
                                    try clear hfz18_0
                                    try clear hfz18_1
                                    try clear hfz18_2
                                    try clear hfz30_0
                                    try clear hfz30_1
                                    try clear hfz30_2
                                    try clear hx165_0
                                    try clear hx166_0
                                    try clear hx166_1
                                    try clear p1
                                    try clear p16
                                    try clear p165
                                    try clear p166
                                    try clear p2
                                    try clear q1
                                    try clear q16
                                    try clear q165
                                    try clear q166
                                    obtain ⟨kq, x13_30, rfl, HA, HJ30, BK164, HI162, HB⟩ := hcut
                                    cases kq with
                                    | zero => exact absurd HA.out (by simp [ephemerislaw2_OscillPlays.j4])
                                    | succ kj30 =>
                                      have H := HA.out
                                      clear HA
                                      simp only [ephemerislaw2_OscillPlays.j4] at H
                                      by_cases c33 : 0 ≤ x46_3
                                      · rw [if_pos c33] at H
                                        have c33b0 : decide (0 ≤ x46_3) = true := decide_eq_true c33
                                        clear c33
                                        by_cases c34 : x46_3 < (l2.length : Int)
                                        · rw [if_pos c34] at H
                                          have c34b0 : decide (x46_3 < (l2.length : Int)) = true := decide_eq_true c34
                                          clear c34
                                          replace H := Option.bind_eq_some_iff.mp H
                                          obtain ⟨⟨t169, t170, t171, t172, t173, t174⟩, A350, H⟩ := H
                                          replace H : (if t169 = x13_30 then (if x13_30 = 0 then (ephemerislaw2_OscillPlays.j5 kj30 a0 l2 true (rd l1 x46_3) l1 (l1.length : Int) x46_3 t170 t171 t172 t173 t174 (rd l1 x46_3) ((rd_T41 l2 x46_3).f0) ((rd_T41 l2 x46_3).f1)) else (ephemerislaw2_OscillPlays.j5 kj30 a0 l2 x9_3 (rd l1 x46_3) l1 (l1.length : Int) x46_3 t170 t171 t172 t173 t174 x165000_3 x165001_3 x165002_3)) else (some false)) = some r := H
                                          have A35 := Aside0.mk A350
                                          clear A350
                                          by_cases c36 : t169 = x13_30
                                          · rw [if_pos c36] at H
                                            have c36b0 : (t169 == x13_30) = true := beq_iff_eq.mpr c36
                                            have c36b1 : (t169 != x13_30) = false := bne_eq_false_iff_eq.mpr c36
                                            clear c36
                                            by_cases c37 : x13_30 = 0
                                            · rw [if_pos c37] at H
                                              have c37b0 : (x13_30 == 0) = true := beq_iff_eq.mpr c37
                                              have c37b1 : (x13_30 != 0) = false := bne_eq_false_iff_eq.mpr c37
                                              clear c37
                                              have H' := Aside0.mk H
                                              clear H
                                              have p168 : 0 ≤ (x46_3 : Int) := of_decide_eq_true (by first | (with_reducible assumption) | assumption)
                                              have q168 : x46_3 < (l2.length : Int) := of_decide_eq_true (by first | (with_reducible assumption) | assumption)
                                              obtain ⟨ad168, e168, hx168_0, hx168_1⟩ := at_T41 HR2.out x46_3 p168 q168
                                              obtain rfl : ad166 = ad168 := (by injection e168)
                                              replace hx168_0 := (HB.out.cell (World.block_lt_of_cell? w _ hx168_0)).trans hx168_0
                                              replace hx168_1 := (HB.out.cell (World.block_lt_of_cell? w _ hx168_1)).trans hx168_1
                                              replace p168 := eq_true p168
                                              replace q168 := eq_true q168
                                              try go_wp2_with (first | ((with_reducible refine gate_callee (f := 19) rfl ?_); refine goesL_ (some 79) rfl rfl Try.func19 (by kernel_rfl) rfl #[.pointer (some ⟨g162, 0, none⟩), .int .i64 (rd l1 x46_3), .agg #[.int .i64 ((rd_T41 l2 x46_3).f0), .int .i64 ((rd_T41 l2 x46_3).f1)]] rfl (by (try simp only [List.map_toArray, List.map_cons, List.map_nil]); first | done | rfl | (simp only [List.length_drop, List.length_take]; rfl)) ?_; (with_reducible refine (oscill_Clock_Set.calls kj30 g162 x163000_3 x163001_3 x163002_3 x163003_3 x163004_3 (rd l1 x46_3) ((rd_T41 l2 x46_3).f0) ((rd_T41 l2 x46_3).f1) t169 t170 t171 t172 t173 t174 w _ ?side1 ?side2 A35.out).mono ?_); (case side1 => repeat (first | (with_reducible first | exact HI162.out | apply IsS63.alloc | apply IsS63.drewN | apply IsS63.drew | apply IsS63.set_0 | apply IsS63.set_1 | apply IsS63.set_2 | apply IsS63.set_3 | apply IsS63.set_4 | refine IsS63.far ?_ NB162_164.out _) | exact HI162.out)); (case side2 => repeat (first | (with_reducible first | exact HB.out | apply below_alloc | apply pw_below_drewN | apply below_drew1 | refine below_set ?_ (IsS63.ge HI162.out) | refine below_set ?_ GE164.out) | exact HB.out)); rintro e w38 ⟨rfl, hi, hb, hk⟩; refine ⟨_, rfl, ?_⟩; have n0_ := Aside0.mk (KeepBut.blk hk (g' := gb164) (o := .cells #[.int .i64 x165000_3, .int .i64 x165001_3, .int .i64 x165002_3] 49 (0, 0)) (by (with_reducible repeat (first | refine blk_drewN ?_ _ | refine blk_drew ?_ | refine blk_alloc ?_ _)); exact BK164.out) NB164_162.out (by simp)); have n1_ := Aside0.mk (hb); have n2_ := Aside0.mk (hi); clear BK164; clear HB; clear HI162; have BK164 := n0_; have HB := n1_; have HI162 := n2_; clear n0_ n1_ n2_; (try clear hb); (try clear hb2); (try clear hk); (try clear hi)))
                                              have n0_ := Aside0.mk (blk_drew BK164.out)
                                              have n1_ := Aside0.mk (IsS63.drew HI162.out)
                                              have n2_ := Aside0.mk (below_drew1 HB.out)
                                              clear BK164
                                              clear HI162
                                              clear HB
                                              have BK164 := n0_
                                              have HI162 := n1_
                                              have HB := n2_
                                              clear n0_ n1_ n2_
                                              have p175 : 0 ≤ (x46_3 : Int) := of_decide_eq_true (by first | (with_reducible assumption) | assumption)
                                              have q175 : x46_3 < (l2.length : Int) := of_decide_eq_true (by first | (with_reducible assumption) | assumption)
                                              obtain ⟨ad175, e175, hx175_0, hx175_1⟩ := at_T41 HR2.out x46_3 p175 q175
                                              have hw175_1 := hx175_1
                                              have hw175_0 := hx175_0
                                              obtain rfl : ad166 = ad175 := (by injection e175)
                                              replace hx175_0 := (HB.out.cell (World.block_lt_of_cell? w _ hx175_0)).trans hx175_0
                                              replace hx175_1 := (HB.out.cell (World.block_lt_of_cell? w _ hx175_1)).trans hx175_1
                                              replace p175 := eq_true p175
                                              replace q175 := eq_true q175
                                              refine start_ (n := 8) (S := fun w' => w'.cell? (ad166.add ((x46_3).toNat * 2)) = some (.int .i64 ((rd_T41 l2 x46_3).f0)) ∧ w'.cell? ⟨(ad166.add ((x46_3).toNat * 2)).block, (ad166.add ((x46_3).toNat * 2)).off + 1, none⟩ = some (.int .i64 ((rd_T41 l2 x46_3).f1))) (ds := []) #[false, false, false, false, false, false, false, false] (by kernel_rfl) rfl rfl ⟨((HB.out.cell (World.block_lt_of_cell? w _ hw175_0)).trans hw175_0), ((HB.out.cell (World.block_lt_of_cell? w _ hw175_1)).trans hw175_1)⟩ (fun hHeld => ?_); refine with_tabW ephemerislaw2_OscillPlays.tab19 ephemerislaw2_OscillPlays.bits19 (fun HT_ HW_ => ?_)
                                              generalize w38.drew = w39 at BK164 HI162 HB hx175_0 hx175_1 hHeld ⊢
                                              refine pure_ (i := 0) (N := some 84) (v := ?_) (a' := ?_) #[true, false, false, false, false, false, false, false] rfl rfl (any_of HT_.out (by kernel_rfl)) (fun _ _ _ h => h) (Or.inl ⟨by rfl, ?_⟩) ?_ ?_
                                              rotate_left
                                              · intro w'
                                                go_simp
                                                with_reducible rfl
                                              rotate_left
                                              · simp only [Act.put, List.setIfInBounds_toArray, List.set_cons_zero, List.set_cons_succ, i64_w, i32_w]
                                                rfl
                                              refine pure_ (i := 1) (N := some 85) (v := ?_) (a' := ?_) #[true, true, false, false, false, false, false, false] rfl rfl (any_of HT_.out (by kernel_rfl)) (fun _ _ _ h => h) (Or.inl ⟨by rfl, ?_⟩) ?_ ?_
                                              rotate_left
                                              · intro w'
                                                go_simp
                                                with_reducible rfl
                                              rotate_left
                                              · simp only [Act.put, List.setIfInBounds_toArray, List.set_cons_zero, List.set_cons_succ, i64_w, i32_w]
                                                rfl
                                              refine pure_ (i := 2) (N := some 86) (v := ?_) (a' := ?_) #[true, true, true, false, false, false, false, false] rfl rfl (any_of HT_.out (by kernel_rfl)) (fun _ _ _ h => h) (Or.inl ⟨by rfl, ?_⟩) ?_ ?_
                                              rotate_left
                                              · intro w'
                                                go_simp
                                                with_reducible rfl
                                              rotate_left
                                              · simp only [Act.put, List.setIfInBounds_toArray, List.set_cons_zero, List.set_cons_succ, i64_w, i32_w]
                                                rfl
                                              refine pure_ (i := 3) (N := some 87) (v := ?_) (a' := ?_) #[true, true, true, true, false, false, false, false] rfl rfl (any_of HT_.out (by kernel_rfl)) (fun _ _ _ h => h) (Or.inl ⟨by rfl, ?_⟩) ?_ ?_
                                              rotate_left
                                              · intro w'
                                                go_simp
                                                with_reducible rfl
                                              rotate_left
                                              · simp only [Act.put, List.setIfInBounds_toArray, List.set_cons_zero, List.set_cons_succ, i64_w, i32_w]
                                                rfl
                                              refine pure_ (i := 6) (N := some 9) (v := ?_) (a' := ?_) #[true, true, true, true, false, false, true, false] rfl rfl (any_of HT_.out (by kernel_rfl)) (fun _ _ _ h => h) (Or.inl ⟨by rfl, ?_⟩) ?_ ?_
                                              rotate_left
                                              · intro w'
                                                go_simp
                                                with_reducible rfl
                                              rotate_left
                                              · simp only [Act.put, List.setIfInBounds_toArray, List.set_cons_zero, List.set_cons_succ, i64_w, i32_w]
                                                rfl
                                              refine take_ (i := 4) (N := some 88) (v := ?_) (a' := ?_) #[true, true, true, true, true, false, true, false] rfl rfl (take_ofW HT_.out HW_.out (by kernel_rfl)) (fun _ _ _ h => h) (Or.inl ⟨by rfl, ?_⟩) hHeld ?_ ?_
                                              rotate_left
                                              · rintro w' ⟨s0, s1⟩
                                                go_simp
                                                with_reducible rfl
                                              rotate_left
                                              · simp only [Act.put, List.setIfInBounds_toArray, List.set_cons_zero, List.set_cons_succ, i64_w, i32_w]
                                                rfl
                                              refine pure_ (i := 5) (N := some 89) (v := ?_) (a' := ?_) #[true, true, true, true, true, true, true, false] rfl rfl (any_of HT_.out (by kernel_rfl)) (fun _ _ _ h => h) (Or.inl ⟨by rfl, ?_⟩) ?_ ?_
                                              rotate_left
                                              · intro w'
                                                go_simp
                                                with_reducible rfl
                                              rotate_left
                                              · simp only [Act.put, List.setIfInBounds_toArray, List.set_cons_zero, List.set_cons_succ, i64_w, i32_w]
                                                rfl
                                              refine one_ (i := 7) (N := none) #[true, true, true, true, true, true, true, true] rfl rfl (one_of HT_.out (by kernel_rfl)) (by decide) (fun K hK => ?_)
                                              have hs40 : w39.cell? ⟨gb164, 0, none⟩ = some (.int .i64 x165000_3) := (blk_cell BK164.out 0).trans rfl
                                              have hfs40 := blk_frozen BK164.out 0
                                              have hs41 : w39.cell? ⟨gb164, 1, none⟩ = some (.int .i64 x165001_3) := (blk_cell BK164.out 1).trans rfl
                                              have hfs41 := blk_frozen BK164.out 1
                                              have hs42 : w39.cell? ⟨gb164, 2, none⟩ = some (.int .i64 x165002_3) := (blk_cell BK164.out 2).trans rfl
                                              have hfs42 := blk_frozen BK164.out 2
                                              refine skip_ (w1 := ?_) (by rfl) rfl ?_ ?_
                                              rotate_left
                                              · go_simp
                                                rfl
                                              refine hK.out _ _ ⟨((cell_far (p := ⟨gb164, _, none⟩) (by first | exact Nat.ne_of_lt (Nat.lt_of_lt_of_le (by have := World.block_lt_of_cell? _ _ hw175_0; first | rwa [add_block] at this | exact this) GW164.out) | (rw [add_block]; exact Nat.ne_of_lt (Nat.lt_of_lt_of_le (by have := World.block_lt_of_cell? _ _ hw175_0; first | rwa [add_block] at this | exact this) GW164.out)) | (show (Addr.add _ _).block ≠ _; rw [add_block]; exact Nat.ne_of_lt (Nat.lt_of_lt_of_le (by have := World.block_lt_of_cell? _ _ hw175_0; first | rwa [add_block] at this | exact this) GW164.out)) | (dsimp only; exact Nat.ne_of_lt (Nat.lt_of_lt_of_le (by have := World.block_lt_of_cell? _ _ hw175_0; first | rwa [add_block] at this | exact this) GW164.out))) _).trans (((cell_far (p := ⟨gb164, _, none⟩) (by first | exact Nat.ne_of_lt (Nat.lt_of_lt_of_le (by have := World.block_lt_of_cell? _ _ hw175_0; first | rwa [add_block] at this | exact this) GW164.out) | (rw [add_block]; exact Nat.ne_of_lt (Nat.lt_of_lt_of_le (by have := World.block_lt_of_cell? _ _ hw175_0; first | rwa [add_block] at this | exact this) GW164.out)) | (show (Addr.add _ _).block ≠ _; rw [add_block]; exact Nat.ne_of_lt (Nat.lt_of_lt_of_le (by have := World.block_lt_of_cell? _ _ hw175_0; first | rwa [add_block] at this | exact this) GW164.out)) | (dsimp only; exact Nat.ne_of_lt (Nat.lt_of_lt_of_le (by have := World.block_lt_of_cell? _ _ hw175_0; first | rwa [add_block] at this | exact this) GW164.out))) _).trans (((cell_far (p := ⟨gb164, _, none⟩) (by first | exact Nat.ne_of_lt (Nat.lt_of_lt_of_le (by have := World.block_lt_of_cell? _ _ hw175_0; first | rwa [add_block] at this | exact this) GW164.out) | (rw [add_block]; exact Nat.ne_of_lt (Nat.lt_of_lt_of_le (by have := World.block_lt_of_cell? _ _ hw175_0; first | rwa [add_block] at this | exact this) GW164.out)) | (show (Addr.add _ _).block ≠ _; rw [add_block]; exact Nat.ne_of_lt (Nat.lt_of_lt_of_le (by have := World.block_lt_of_cell? _ _ hw175_0; first | rwa [add_block] at this | exact this) GW164.out)) | (dsimp only; exact Nat.ne_of_lt (Nat.lt_of_lt_of_le (by have := World.block_lt_of_cell? _ _ hw175_0; first | rwa [add_block] at this | exact this) GW164.out))) _).trans (hHeld.1)))))), ((cell_far (p := ⟨gb164, _, none⟩) (by first | exact Nat.ne_of_lt (Nat.lt_of_lt_of_le (by have := World.block_lt_of_cell? _ _ hw175_1; first | rwa [add_block] at this | exact this) GW164.out) | (rw [add_block]; exact Nat.ne_of_lt (Nat.lt_of_lt_of_le (by have := World.block_lt_of_cell? _ _ hw175_1; first | rwa [add_block] at this | exact this) GW164.out)) | (show (Addr.add _ _).block ≠ _; rw [add_block]; exact Nat.ne_of_lt (Nat.lt_of_lt_of_le (by have := World.block_lt_of_cell? _ _ hw175_1; first | rwa [add_block] at this | exact this) GW164.out)) | (dsimp only; exact Nat.ne_of_lt (Nat.lt_of_lt_of_le (by have := World.block_lt_of_cell? _ _ hw175_1; first | rwa [add_block] at this | exact this) GW164.out))) _).trans (((cell_far (p := ⟨gb164, _, none⟩) (by first | exact Nat.ne_of_lt (Nat.lt_of_lt_of_le (by have := World.block_lt_of_cell? _ _ hw175_1; first | rwa [add_block] at this | exact this) GW164.out) | (rw [add_block]; exact Nat.ne_of_lt (Nat.lt_of_lt_of_le (by have := World.block_lt_of_cell? _ _ hw175_1; first | rwa [add_block] at this | exact this) GW164.out)) | (show (Addr.add _ _).block ≠ _; rw [add_block]; exact Nat.ne_of_lt (Nat.lt_of_lt_of_le (by have := World.block_lt_of_cell? _ _ hw175_1; first | rwa [add_block] at this | exact this) GW164.out)) | (dsimp only; exact Nat.ne_of_lt (Nat.lt_of_lt_of_le (by have := World.block_lt_of_cell? _ _ hw175_1; first | rwa [add_block] at this | exact this) GW164.out))) _).trans (((cell_far (p := ⟨gb164, _, none⟩) (by first | exact Nat.ne_of_lt (Nat.lt_of_lt_of_le (by have := World.block_lt_of_cell? _ _ hw175_1; first | rwa [add_block] at this | exact this) GW164.out) | (rw [add_block]; exact Nat.ne_of_lt (Nat.lt_of_lt_of_le (by have := World.block_lt_of_cell? _ _ hw175_1; first | rwa [add_block] at this | exact this) GW164.out)) | (show (Addr.add _ _).block ≠ _; rw [add_block]; exact Nat.ne_of_lt (Nat.lt_of_lt_of_le (by have := World.block_lt_of_cell? _ _ hw175_1; first | rwa [add_block] at this | exact this) GW164.out)) | (dsimp only; exact Nat.ne_of_lt (Nat.lt_of_lt_of_le (by have := World.block_lt_of_cell? _ _ hw175_1; first | rwa [add_block] at this | exact this) GW164.out))) _).trans (hHeld.2))))))⟩ (fun hHeld => ?_)
                                              clear hK K
                                              refine done_ (done_of HT_.out (by kernel_rfl)) ?_
                                              try go_wp2
                                              go_meet
                                              case rel => exact ⟨_, (true), (t170), (t171), (t172), (t173), (t174), ((rd l1 x46_3)), ((rd_T41 l2 x46_3).f0), ((rd_T41 l2 x46_3).f1), (by first | rfl | (simp; done) | (simp [*]; done)), H', ⟨by have := HJ6.out; have := HJ12.out; have := HK3.out; have := HJ24.out; have := HJ30.out; first | omega | exact Nat.le_refl _⟩, ⟨by (with_reducible repeat (first | refine blk_drewN ?_ _ | refine blk_drew ?_ | refine blk_alloc ?_ _)); refine blk_put (cs := #[.int .i64 (rd l1 x46_3), .int .i64 ((rd_T41 l2 x46_3).f0), .int .i64 x165002_3]) ?_ 2 _ rfl; (with_reducible repeat (first | refine blk_drewN ?_ _ | refine blk_drew ?_ | refine blk_alloc ?_ _)); refine blk_put (cs := #[.int .i64 (rd l1 x46_3), .int .i64 x165001_3, .int .i64 x165002_3]) ?_ 1 _ rfl; (with_reducible repeat (first | refine blk_drewN ?_ _ | refine blk_drew ?_ | refine blk_alloc ?_ _)); refine blk_put (cs := #[.int .i64 x165000_3, .int .i64 x165001_3, .int .i64 x165002_3]) ?_ 0 _ rfl; (with_reducible repeat (first | refine blk_drewN ?_ _ | refine blk_drew ?_ | refine blk_alloc ?_ _)); exact BK164.out⟩, ⟨by repeat (first | (with_reducible first | exact HI162.out | apply IsS63.alloc | apply IsS63.drewN | apply IsS63.drew | apply IsS63.set_0 | apply IsS63.set_1 | apply IsS63.set_2 | apply IsS63.set_3 | apply IsS63.set_4 | refine IsS63.far ?_ NB162_164.out _) | exact HI162.out)⟩, ⟨by repeat (first | (with_reducible first | exact HB.out | apply below_alloc | apply pw_below_drewN | apply below_drew1 | refine below_set ?_ (IsS63.ge HI162.out) | refine below_set ?_ GE164.out) | exact HB.out)⟩⟩
                                            · rw [if_neg c37] at H
                                              have c37b0 : (x13_30 == 0) = false := beq_eq_false_iff_ne.mpr c37
                                              have c37b1 : (x13_30 != 0) = true := bne_iff_ne.mpr c37
                                              have H' := Aside0.mk H
                                              clear H
                                              have p168 : 0 ≤ (x46_3 : Int) := of_decide_eq_true (by first | (with_reducible assumption) | assumption)
                                              have q168 : x46_3 < (l2.length : Int) := of_decide_eq_true (by first | (with_reducible assumption) | assumption)
                                              obtain ⟨ad168, e168, hx168_0, hx168_1⟩ := at_T41 HR2.out x46_3 p168 q168
                                              obtain rfl : ad166 = ad168 := (by injection e168)
                                              replace hx168_0 := (HB.out.cell (World.block_lt_of_cell? w _ hx168_0)).trans hx168_0
                                              replace hx168_1 := (HB.out.cell (World.block_lt_of_cell? w _ hx168_1)).trans hx168_1
                                              replace p168 := eq_true p168
                                              replace q168 := eq_true q168
                                              go_wp2_with (first | ((with_reducible refine gate_callee (f := 19) rfl ?_); refine goesL_ (some 79) rfl rfl Try.func19 (by kernel_rfl) rfl #[.pointer (some ⟨g162, 0, none⟩), .int .i64 (rd l1 x46_3), .agg #[.int .i64 ((rd_T41 l2 x46_3).f0), .int .i64 ((rd_T41 l2 x46_3).f1)]] rfl (by (try simp only [List.map_toArray, List.map_cons, List.map_nil]); first | done | rfl | (simp only [List.length_drop, List.length_take]; rfl)) ?_; (with_reducible refine (oscill_Clock_Set.calls kj30 g162 x163000_3 x163001_3 x163002_3 x163003_3 x163004_3 (rd l1 x46_3) ((rd_T41 l2 x46_3).f0) ((rd_T41 l2 x46_3).f1) t169 t170 t171 t172 t173 t174 w _ ?side1 ?side2 A35.out).mono ?_); (case side1 => repeat (first | (with_reducible first | exact HI162.out | apply IsS63.alloc | apply IsS63.drewN | apply IsS63.drew | apply IsS63.set_0 | apply IsS63.set_1 | apply IsS63.set_2 | apply IsS63.set_3 | apply IsS63.set_4 | refine IsS63.far ?_ NB162_164.out _) | exact HI162.out)); (case side2 => repeat (first | (with_reducible first | exact HB.out | apply below_alloc | apply pw_below_drewN | apply below_drew1 | refine below_set ?_ (IsS63.ge HI162.out) | refine below_set ?_ GE164.out) | exact HB.out)); rintro e w43 ⟨rfl, hi, hb, hk⟩; refine ⟨_, rfl, ?_⟩; have n0_ := Aside0.mk (KeepBut.blk hk (g' := gb164) (o := .cells #[.int .i64 x165000_3, .int .i64 x165001_3, .int .i64 x165002_3] 49 (0, 0)) (by (with_reducible repeat (first | refine blk_drewN ?_ _ | refine blk_drew ?_ | refine blk_alloc ?_ _)); exact BK164.out) NB164_162.out (by simp)); have n1_ := Aside0.mk (hb); have n2_ := Aside0.mk (hi); clear BK164; clear HB; clear HI162; have BK164 := n0_; have HB := n1_; have HI162 := n2_; clear n0_ n1_ n2_; (try clear hb); (try clear hb2); (try clear hk); (try clear hi)))
                                              go_meet
                                              case rel => exact ⟨_, (x9_3), (t170), (t171), (t172), (t173), (t174), (x165000_3), (x165001_3), (x165002_3), (by first | rfl | (simp; done) | (simp [*]; done)), H', ⟨by have := HJ6.out; have := HJ12.out; have := HK3.out; have := HJ24.out; have := HJ30.out; first | omega | exact Nat.le_refl _⟩, ⟨by (with_reducible repeat (first | refine blk_drewN ?_ _ | refine blk_drew ?_ | refine blk_alloc ?_ _)); exact BK164.out⟩, ⟨by repeat (first | (with_reducible first | exact HI162.out | apply IsS63.alloc | apply IsS63.drewN | apply IsS63.drew | apply IsS63.set_0 | apply IsS63.set_1 | apply IsS63.set_2 | apply IsS63.set_3 | apply IsS63.set_4 | refine IsS63.far ?_ NB162_164.out _) | exact HI162.out)⟩, ⟨by repeat (first | (with_reducible first | exact HB.out | apply below_alloc | apply pw_below_drewN | apply below_drew1 | refine below_set ?_ (IsS63.ge HI162.out) | refine below_set ?_ GE164.out) | exact HB.out)⟩⟩
                                          · rw [if_neg c36] at H
                                            have c36b0 : (t169 == x13_30) = false := beq_eq_false_iff_ne.mpr c36
                                            have c36b1 : (t169 != x13_30) = true := bne_iff_ne.mpr c36
                                            obtain rfl := Option.some.inj H
                                            exact absurd hT (by decide)
                                        · rw [if_neg c34] at H
                                          exact absurd H (by simp)
                                      · rw [if_neg c33] at H
                                        exact absurd H (by simp)
                            · rw [if_neg c23] at H
                              have c23b0 : decide (x46_3 < (l2.length : Int)) = false := decide_eq_false c23
                              clear c23
                              (first | rw [c23b0] | (simp only [i64_w, i32_w]; rw [c23b0]) | skip)
                              have H' := Aside0.mk H
                              clear H
                              go_wp2
                              go_meet
                              case rel => exact ⟨_, (x9_3), (x163000_3), (x163001_3), (x163002_3), (x163003_3), (x163004_3), (x165000_3), (x165001_3), (x165002_3), (by first | rfl | (simp; done) | (simp [*]; done)), H', ⟨by have := HJ6.out; have := HJ12.out; have := HK3.out; first | omega | exact Nat.le_refl _⟩, ⟨by (with_reducible repeat (first | refine blk_drewN ?_ _ | refine blk_drew ?_ | refine blk_alloc ?_ _)); exact BK164.out⟩, ⟨by repeat (first | (with_reducible first | exact HI162.out | apply IsS63.alloc | apply IsS63.drewN | apply IsS63.drew | apply IsS63.set_0 | apply IsS63.set_1 | apply IsS63.set_2 | apply IsS63.set_3 | apply IsS63.set_4 | refine IsS63.far ?_ NB162_164.out _) | exact HI162.out)⟩, ⟨by repeat (first | (with_reducible first | exact HB.out | apply below_alloc | apply pw_below_drewN | apply below_drew1 | refine below_set ?_ (IsS63.ge HI162.out) | refine below_set ?_ GE164.out) | exact HB.out)⟩⟩
                          case rest =>
                            clear HC22
                            try clear c1
                            try clear p1
                            try clear q1
                            try clear hx1
                            try clear c2
                            try clear p2
                            try clear c3
                            try clear c5
                            try clear c6
                            try clear c10
                            try clear c10b0
                            try clear c11
                            try clear c12
                            try clear c12b0
                            try clear c12b1
                            try clear c14
                            try clear c14b0
                            try clear c14b1
                            try clear c15
                            try clear c16
                            try clear p16
                            try clear q16
                            try clear hx16
                            try clear c17
                            try clear p17
                            try clear q17
                            try clear hx17
                            try clear c18
                            try clear c19
                            try clear c19b0
                            try clear c20
                            try clear c20b0
                            try clear c21
                            try clear c21b0
                            try clear c23
                            try clear c23b0
                            try clear c27
                            try clear c27b0
                            try clear c27b1
                            try clear c28
                            try clear c29
                            try clear c32
                            try clear c33
                            try clear c33b0
                            try clear c34
                            try clear c34b0
                            try clear c36
                            try clear c36b0
                            try clear c36b1
                            try clear c37
                            try clear c37b0
                            try clear c37b1
                            try clear hcz18_0
                            try clear hcz18_1
                            try clear hcz18_2
                            try clear hcz30_0
                            try clear hcz30_1
                            try clear hcz30_2
                            try clear hfz18_0
                            try clear hfz18_1
                            try clear hfz18_2
                            try clear hfz30_0
                            try clear hfz30_1
                            try clear hfz30_2
                            try clear hx165_0
                            try clear hx166_0
                            try clear hx166_1
                            try clear hx168_0
                            try clear hx168_1
                            try clear hx175_0
                            try clear hx175_1
                            try clear p1
                            try clear p16
                            try clear p165
                            try clear p166
                            try clear p168
                            try clear p175
                            try clear p2
                            try clear q1
                            try clear q16
                            try clear q165
                            try clear q166
                            try clear q168
                            try clear q175
                            obtain ⟨kq, x9_21, x163000_21, x163001_21, x163002_21, x163003_21, x163004_21, x165000_21, x165001_21, x165002_21, rfl, HA, HJ21, BK164, HI162, HB⟩ := hcut
                            cases kq with
                            | zero => exact absurd HA.out (by simp [ephemerislaw2_OscillPlays.j5])
                            | succ kj21 =>
                              have H := HA.out
                              clear HA
                              simp only [ephemerislaw2_OscillPlays.j5] at H
                              replace H := Option.bind_eq_some_iff.mp H
                              obtain ⟨⟨t176, t177, t178, t179, t180, t181, t182, t183⟩, A440, H⟩ := H
                              replace H : (if (rd l1 x46_3) < 0 then (ephemerislaw2_OscillPlays.j6 kj21 a0 l2 x9_21 (rd l1 x46_3) t178 l1 (l1.length : Int) x46_3 true t179 t180 t181 t182 t183 x165000_21 x165001_21 x165002_21 t176 t177) else (ephemerislaw2_OscillPlays.j6 kj21 a0 l2 x9_21 (rd l1 x46_3) t178 l1 (l1.length : Int) x46_3 (decide ((rd l1 x46_3) > 1000000000000)) t179 t180 t181 t182 t183 x165000_21 x165001_21 x165002_21 t176 t177)) = some r := H
                              have A44 := Aside0.mk A440
                              clear A440
                              have HC45 := Aside0.mk H
                              clear H
                              go_upto_region 24 with (first | ((with_reducible refine gate_callee (f := 20) rfl ?_); refine goesL_ (some 93) rfl rfl Try.func20 (by kernel_rfl) rfl #[.pointer (some ⟨g162, 0, none⟩), .int .i64 (rd l1 x46_3)] rfl (by (try simp only [List.map_toArray, List.map_cons, List.map_nil]); first | done | rfl | (simp only [List.length_drop, List.length_take]; rfl)) ?_; (with_reducible refine (oscill_Clock_At.calls kj21 g162 x163000_21 x163001_21 x163002_21 x163003_21 x163004_21 (rd l1 x46_3) t176 t177 t178 t179 t180 t181 t182 t183 w _ ?side1 ?side2 A44.out).mono ?_); (case side1 => repeat (first | (with_reducible first | exact HI162.out | apply IsS63.alloc | apply IsS63.drewN | apply IsS63.drew | apply IsS63.set_0 | apply IsS63.set_1 | apply IsS63.set_2 | apply IsS63.set_3 | apply IsS63.set_4 | refine IsS63.far ?_ NB162_164.out _) | exact HI162.out)); (case side2 => repeat (first | (with_reducible first | exact HB.out | apply below_alloc | apply pw_below_drewN | apply below_drew1 | refine below_set ?_ (IsS63.ge HI162.out) | refine below_set ?_ GE164.out) | exact HB.out)); rintro e w46 ⟨rfl, hi, hb, hk⟩; refine ⟨_, rfl, ?_⟩; have n0_ := Aside0.mk (KeepBut.blk hk (g' := gb164) (o := .cells #[.int .i64 x165000_21, .int .i64 x165001_21, .int .i64 x165002_21] 49 (0, 0)) (by (with_reducible repeat (first | refine blk_drewN ?_ _ | refine blk_drew ?_ | refine blk_alloc ?_ _)); exact BK164.out) NB164_162.out (by simp)); have n1_ := Aside0.mk (hb); have n2_ := Aside0.mk (hi); clear BK164; clear HB; clear HI162; have BK164 := n0_; have HB := n1_; have HI162 := n2_; clear n0_ n1_ n2_; (try clear hb); (try clear hb2); (try clear hk); (try clear hi)) | ((with_reducible refine gate_dst (N := 14) rfl ?_); refine box_event ?hg (N := 14) ?hd (cs := #[.int .i64 0, .int .i64 0]) (t := 41) ?hr ?_; (case hd => rfl); (case hg => rfl); (case hr => first | (go_simp; done) | (go_simp; rfl)); intro gb184 hg w47 hbox hb; have n0_ := Aside0.mk (blk_below (g := gb164) (o := .cells #[.int .i64 x165000_21, .int .i64 x165001_21, .int .i64 x165002_21] 49 (0, 0)) (by (with_reducible repeat (first | refine blk_drewN ?_ _ | refine blk_drew ?_ | refine blk_alloc ?_ _)); exact BK164.out) hb); have n1_ := Aside0.mk (IsS63.below (by repeat (first | (with_reducible first | exact HI162.out | apply IsS63.alloc | apply IsS63.drewN | apply IsS63.drew | apply IsS63.set_0 | apply IsS63.set_1 | apply IsS63.set_2 | apply IsS63.set_3 | apply IsS63.set_4 | refine IsS63.far ?_ NB162_164.out _) | exact HI162.out)) hb); have n2_ := Aside0.mk (below_step (by repeat (first | (with_reducible first | exact HB.out | apply below_alloc | apply pw_below_drewN | apply below_drew1 | refine below_set ?_ (IsS63.ge HI162.out) | refine below_set ?_ GE164.out) | exact HB.out)) hb); have n3_ := Aside0.mk (hbox); have n4_ := Aside0.mk ((by rw [hg]; exact (below_size (by repeat (first | (with_reducible first | exact HB.out | apply below_alloc | apply pw_below_drewN | apply below_drew1 | refine below_set ?_ (IsS63.ge HI162.out) | refine below_set ?_ GE164.out) | exact HB.out))) : w.heap.size ≤ gb184)); have n5_ := Aside0.mk ((by rw [hg]; exact (below_size (by repeat (first | (with_reducible first | exact HB.out | apply below_alloc | apply pw_below_drewN | apply below_drew1 | refine below_set ?_ (IsS63.ge HI162.out) | refine below_set ?_ GE164.out) | exact HB.out))) : w.heap.size ≤ gb184)); have n6_ := Aside0.mk ((by rw [hg]; exact Nat.ne_of_lt (blk_lt (g := gb164) (o := .cells #[.int .i64 x165000_21, .int .i64 x165001_21, .int .i64 x165002_21] 49 (0, 0)) (by (with_reducible repeat (first | refine blk_drewN ?_ _ | refine blk_drew ?_ | refine blk_alloc ?_ _)); exact BK164.out)) : gb164 ≠ gb184)); have n7_ := Aside0.mk ((by rw [hg]; exact Nat.ne_of_gt (blk_lt (g := gb164) (o := .cells #[.int .i64 x165000_21, .int .i64 x165001_21, .int .i64 x165002_21] 49 (0, 0)) (by (with_reducible repeat (first | refine blk_drewN ?_ _ | refine blk_drew ?_ | refine blk_alloc ?_ _)); exact BK164.out)) : gb184 ≠ gb164)); have n8_ := Aside0.mk ((by rw [hg]; exact Nat.ne_of_lt (IsS63.lt (show IsS63 w _ g162 t179 t180 t181 t182 t183 from by repeat (first | (with_reducible first | exact HI162.out | apply IsS63.alloc | apply IsS63.drewN | apply IsS63.drew | apply IsS63.set_0 | apply IsS63.set_1 | apply IsS63.set_2 | apply IsS63.set_3 | apply IsS63.set_4 | refine IsS63.far ?_ NB162_164.out _) | exact HI162.out))) : g162 ≠ gb184)); have n9_ := Aside0.mk ((by rw [hg]; exact Nat.ne_of_gt (IsS63.lt (show IsS63 w _ g162 t179 t180 t181 t182 t183 from by repeat (first | (with_reducible first | exact HI162.out | apply IsS63.alloc | apply IsS63.drewN | apply IsS63.drew | apply IsS63.set_0 | apply IsS63.set_1 | apply IsS63.set_2 | apply IsS63.set_3 | apply IsS63.set_4 | refine IsS63.far ?_ NB162_164.out _) | exact HI162.out))) : gb184 ≠ g162)); clear BK164; clear HI162; clear HB; have BK164 := n0_; have HI162 := n1_; have HB := n2_; have BK184 := n3_; have GW184 := n4_; have GE184 := n5_; have NB164_184 := n6_; have NB184_164 := n7_; have NB162_184 := n8_; have NB184_162 := n9_; clear n0_ n1_ n2_ n3_ n4_ n5_ n6_ n7_ n8_ n9_; clear hb hbox hg; have hnb48 := NB184_164.out; have hnc48 := NB164_184.out; have hnb49 := NB184_162.out; have hnc49 := NB162_184.out; have hcz50_0 : w47.cell? ⟨gb184, 0, none⟩ = some (.int .i64 0) := (blk_cell BK184.out 0).trans rfl; have hcz50_1 : w47.cell? ⟨gb184, 1, none⟩ = some (.int .i64 0) := (blk_cell BK184.out 1).trans rfl; have hfz50_0 := blk_frozen BK184.out 0; have hfz50_1 := blk_frozen BK184.out 1))
                              (try simp only [Act.put, List.setIfInBounds_toArray, List.set_cons_zero, List.set_cons_succ])
                              go_cut [111] (fun v111 wc => ∃ (kq : Nat) (x111_44 : Bool), v111 = .bool x111_44 ∧ Aside0 (ephemerislaw2_OscillPlays.j6 kq a0 l2 x9_21 (rd l1 x46_3) t178 l1 (l1.length : Int) x46_3 x111_44 t179 t180 t181 t182 t183 x165000_21 x165001_21 x165002_21 t176 t177 = some r) ∧ Aside0 (kq ≤ kj21) ∧ Aside0 (wc.heap[gb164]? = some (.cells #[.int .i64 x165000_21, .int .i64 x165001_21, .int .i64 x165002_21] 49 (0, 0))) ∧ Aside0 (wc.heap[gb184]? = some (.cells #[.int .i64 t176, .int .i64 t177] 41 (0, 0))) ∧ Aside0 (IsS63 w wc g162 t179 t180 t181 t182 t183) ∧ Aside0 (Below w.heap.size w wc))
                              case first =>
                                have H := HC45.out
                                clear HC45
                                by_cases c51 : (rd l1 x46_3) < 0
                                · rw [if_pos c51] at H
                                  have c51b0 : decide ((rd l1 x46_3) < 0) = true := decide_eq_true c51
                                  clear c51
                                  (first | rw [c51b0] | (simp only [i64_w, i32_w]; rw [c51b0]) | skip)
                                  have H' := Aside0.mk H
                                  clear H
                                  go_wp2
                                  go_meet
                                  case rel => exact ⟨_, (true), (by first | rfl | (simp; done) | (simp [*]; done)), H', ⟨by have := HJ6.out; have := HJ12.out; have := HK3.out; have := HJ21.out; first | omega | exact Nat.le_refl _⟩, ⟨by (with_reducible repeat (first | refine blk_drewN ?_ _ | refine blk_drew ?_ | refine blk_alloc ?_ _)); refine blk_far ?_ NB164_184.out _; (with_reducible repeat (first | refine blk_drewN ?_ _ | refine blk_drew ?_ | refine blk_alloc ?_ _)); refine blk_far ?_ NB164_184.out _; (with_reducible repeat (first | refine blk_drewN ?_ _ | refine blk_drew ?_ | refine blk_alloc ?_ _)); exact BK164.out⟩, ⟨by (with_reducible repeat (first | refine blk_drewN ?_ _ | refine blk_drew ?_ | refine blk_alloc ?_ _)); refine blk_put (cs := #[.int .i64 t176, .int .i64 0]) ?_ 1 _ rfl; (with_reducible repeat (first | refine blk_drewN ?_ _ | refine blk_drew ?_ | refine blk_alloc ?_ _)); refine blk_put (cs := #[.int .i64 0, .int .i64 0]) ?_ 0 _ rfl; (with_reducible repeat (first | refine blk_drewN ?_ _ | refine blk_drew ?_ | refine blk_alloc ?_ _)); exact BK184.out⟩, ⟨by repeat (first | (with_reducible first | exact HI162.out | apply IsS63.alloc | apply IsS63.drewN | apply IsS63.drew | apply IsS63.set_0 | apply IsS63.set_1 | apply IsS63.set_2 | apply IsS63.set_3 | apply IsS63.set_4 | refine IsS63.far ?_ NB162_164.out _ | refine IsS63.far ?_ NB162_184.out _) | exact HI162.out)⟩, ⟨by repeat (first | (with_reducible first | exact HB.out | apply below_alloc | apply pw_below_drewN | apply below_drew1 | refine below_set ?_ (IsS63.ge HI162.out) | refine below_set ?_ GE164.out | refine below_set ?_ GE184.out) | exact HB.out)⟩⟩
                                · rw [if_neg c51] at H
                                  have c51b0 : decide ((rd l1 x46_3) < 0) = false := decide_eq_false c51
                                  clear c51
                                  (first | rw [c51b0] | (simp only [i64_w, i32_w]; rw [c51b0]) | skip)
                                  have H' := Aside0.mk H
                                  clear H
                                  go_wp2
                                  go_meet
                                  case rel => exact ⟨_, (decide ((rd l1 x46_3) > 1000000000000)), (by first | rfl | (simp; done) | (simp [*]; done)), H', ⟨by have := HJ6.out; have := HJ12.out; have := HK3.out; have := HJ21.out; first | omega | exact Nat.le_refl _⟩, ⟨by (with_reducible repeat (first | refine blk_drewN ?_ _ | refine blk_drew ?_ | refine blk_alloc ?_ _)); refine blk_far ?_ NB164_184.out _; (with_reducible repeat (first | refine blk_drewN ?_ _ | refine blk_drew ?_ | refine blk_alloc ?_ _)); refine blk_far ?_ NB164_184.out _; (with_reducible repeat (first | refine blk_drewN ?_ _ | refine blk_drew ?_ | refine blk_alloc ?_ _)); exact BK164.out⟩, ⟨by (with_reducible repeat (first | refine blk_drewN ?_ _ | refine blk_drew ?_ | refine blk_alloc ?_ _)); refine blk_put (cs := #[.int .i64 t176, .int .i64 0]) ?_ 1 _ rfl; (with_reducible repeat (first | refine blk_drewN ?_ _ | refine blk_drew ?_ | refine blk_alloc ?_ _)); refine blk_put (cs := #[.int .i64 0, .int .i64 0]) ?_ 0 _ rfl; (with_reducible repeat (first | refine blk_drewN ?_ _ | refine blk_drew ?_ | refine blk_alloc ?_ _)); exact BK184.out⟩, ⟨by repeat (first | (with_reducible first | exact HI162.out | apply IsS63.alloc | apply IsS63.drewN | apply IsS63.drew | apply IsS63.set_0 | apply IsS63.set_1 | apply IsS63.set_2 | apply IsS63.set_3 | apply IsS63.set_4 | refine IsS63.far ?_ NB162_164.out _ | refine IsS63.far ?_ NB162_184.out _) | exact HI162.out)⟩, ⟨by repeat (first | (with_reducible first | exact HB.out | apply below_alloc | apply pw_below_drewN | apply below_drew1 | refine below_set ?_ (IsS63.ge HI162.out) | refine below_set ?_ GE164.out | refine below_set ?_ GE184.out) | exact HB.out)⟩⟩
                              case rest =>
                                clear HC45
                                try clear c1
                                try clear p1
                                try clear q1
                                try clear hx1
                                try clear c2
                                try clear p2
                                try clear c3
                                try clear c4
                                try clear c5
                                try clear c6
                                try clear c10
                                try clear c10b0
                                try clear c11
                                try clear c12
                                try clear c12b0
                                try clear c12b1
                                try clear c14
                                try clear c14b0
                                try clear c14b1
                                try clear c15
                                try clear c16
                                try clear p16
                                try clear q16
                                try clear hx16
                                try clear c17
                                try clear p17
                                try clear q17
                                try clear hx17
                                try clear c18
                                try clear c19
                                try clear c19b0
                                try clear c20
                                try clear c20b0
                                try clear c21
                                try clear c21b0
                                try clear c23
                                try clear c23b0
                                try clear c27
                                try clear c27b0
                                try clear c27b1
                                try clear c28
                                try clear c29
                                try clear c32
                                try clear c33
                                try clear c33b0
                                try clear c34
                                try clear c34b0
                                try clear c36
                                try clear c36b0
                                try clear c36b1
                                try clear c37
                                try clear c37b0
                                try clear c37b1
                                try clear c48
                                try clear c49
                                try clear c51
                                try clear c51b0
                                try clear hcz18_0
                                try clear hcz18_1
                                try clear hcz18_2
                                try clear hcz30_0
                                try clear hcz30_1
                                try clear hcz30_2
                                try clear hcz50_0
                                try clear hcz50_1
                                try clear hfz18_0
                                try clear hfz18_1
                                try clear hfz18_2
                                try clear hfz30_0
                                try clear hfz30_1
                                try clear hfz30_2
                                try clear hfz50_0
                                try clear hfz50_1
                                try clear hx165_0
                                try clear hx166_0
                                try clear hx166_1
                                try clear hx168_0
                                try clear hx168_1
                                try clear hx175_0
                                try clear hx175_1
                                try clear p1
                                try clear p16
                                try clear p165
                                try clear p166
                                try clear p168
                                try clear p17
                                try clear p175
                                try clear p2
                                try clear q1
                                try clear q16
                                try clear q165
                                try clear q166
                                try clear q168
                                try clear q17
                                try clear q175
                                obtain ⟨kq, x111_44, rfl, HA, HJ44, BK164, BK184, HI162, HB⟩ := hcut
                                cases kq with
                                | zero => exact absurd HA.out (by simp [ephemerislaw2_OscillPlays.j6])
                                | succ kj44 =>
                                  have H := HA.out
                                  clear HA
                                  simp only [ephemerislaw2_OscillPlays.j6] at H
                                  by_cases c52 : x111_44 = true
                                  · subst c52
                                    have H1 : ((ephemerislaw2_none.f t176 t177 t178 3).bind fun t185 => (if t185 = true then (ephemerislaw2_OscillPlays.l0 kj44 a0 l2 x9_21 l1 (l1.length : Int) (wrap64 (x46_3 + 1)) t179 t180 t181 t182 t183 x165000_21 x165001_21 x165002_21) else (some false))) = some r := by rw [if_pos rfl] at H; exact H
                                    clear H
                                    have H := H1
                                    clear H1
                                    replace H := Option.bind_eq_some_iff.mp H
                                    obtain ⟨t185, A530, H⟩ := H
                                    replace H : (if t185 = true then (ephemerislaw2_OscillPlays.l0 kj44 a0 l2 x9_21 l1 (l1.length : Int) (wrap64 (x46_3 + 1)) t179 t180 t181 t182 t183 x165000_21 x165001_21 x165002_21) else (some false)) = some r := H
                                    have A53 := Aside0.mk A530
                                    clear A530
                                    by_cases c54 : t185 = true
                                    · subst c54
                                      have H1 : (ephemerislaw2_OscillPlays.l0 kj44 a0 l2 x9_21 l1 (l1.length : Int) (wrap64 (x46_3 + 1)) t179 t180 t181 t182 t183 x165000_21 x165001_21 x165002_21) = some r := by rw [if_pos rfl] at H; exact H
                                      clear H
                                      have H := H1
                                      clear H1
                                      have H' := Aside0.mk H
                                      clear H
                                      have hnb55 := NB184_164.out
                                      have hnc55 := NB164_184.out
                                      have hnb56 := NB184_162.out
                                      have hnc56 := NB162_184.out
                                      have hcz57_0 : wc.cell? ⟨gb184, 0, none⟩ = some (.int .i64 t176) := (blk_cell BK184.out 0).trans rfl
                                      have hcz57_1 : wc.cell? ⟨gb184, 1, none⟩ = some (.int .i64 t177) := (blk_cell BK184.out 1).trans rfl
                                      have hfz57_0 := blk_frozen BK184.out 0
                                      have hfz57_1 := blk_frozen BK184.out 1
                                      go_wp2_with (first | ((with_reducible refine gate_callee (f := 21) rfl ?_); refine goesL_ (some 120) rfl rfl Try.func21 (by kernel_rfl) rfl #[.agg #[.int .i64 t176, .int .i64 t177], .int .i64 t178, .int .i64 3] rfl (by (try simp only [List.map_toArray, List.map_cons, List.map_nil]); first | done | rfl | (simp only [List.length_drop, List.length_take]; rfl)) ?_; (with_reducible refine (ephemerislaw2_none.calls t176 t177 t178 3 true _ A53.out).mono ?_); rintro e w58 ⟨rfl, hb⟩; refine ⟨_, rfl, ?_⟩; have n0_ := Aside0.mk (blk_below (g := gb164) (o := .cells #[.int .i64 x165000_21, .int .i64 x165001_21, .int .i64 x165002_21] 49 (0, 0)) (by (with_reducible repeat (first | refine blk_drewN ?_ _ | refine blk_drew ?_ | refine blk_alloc ?_ _)); exact BK164.out) hb); have n1_ := Aside0.mk (blk_below (g := gb184) (o := .cells #[.int .i64 t176, .int .i64 t177] 41 (0, 0)) (by (with_reducible repeat (first | refine blk_drewN ?_ _ | refine blk_drew ?_ | refine blk_alloc ?_ _)); exact BK184.out) hb); have n2_ := Aside0.mk (IsS63.below (by repeat (first | (with_reducible first | exact HI162.out | apply IsS63.alloc | apply IsS63.drewN | apply IsS63.drew | apply IsS63.set_0 | apply IsS63.set_1 | apply IsS63.set_2 | apply IsS63.set_3 | apply IsS63.set_4 | refine IsS63.far ?_ NB162_164.out _ | refine IsS63.far ?_ NB162_184.out _) | exact HI162.out)) hb); have n3_ := Aside0.mk (below_step (by repeat (first | (with_reducible first | exact HB.out | apply below_alloc | apply pw_below_drewN | apply below_drew1 | refine below_set ?_ (IsS63.ge HI162.out) | refine below_set ?_ GE164.out | refine below_set ?_ GE184.out) | exact HB.out)) hb); clear BK164; clear BK184; clear HI162; clear HB; have BK164 := n0_; have BK184 := n1_; have HI162 := n2_; have HB := n3_; clear n0_ n1_ n2_ n3_; (try clear hb); (try clear hb2); (try clear hk); (try clear hi)))
                                      go_roundg kj44
                                      case measure => have := HJ6.out; have := HJ12.out; have := HK3.out; have := HJ21.out; have := HJ44.out; omega
                                      case rel => exact ⟨(x9_21), (wrap64 (x46_3 + 1)), (t179), (t180), (t181), (t182), (t183), (x165000_21), (x165001_21), (x165002_21), (by first | rfl | (simp; done) | (simp [*]; done)), (by first | rfl | (simp; done) | (simp [*]; done)), H', ⟨by have := HJ6.out; have := HJ12.out; have := HK3.out; have := HJ21.out; have := HJ44.out; omega⟩, ⟨by (with_reducible repeat (first | refine blk_drewN ?_ _ | refine blk_drew ?_ | refine blk_alloc ?_ _)); exact BK164.out⟩, ⟨by repeat (first | (with_reducible first | exact HI162.out | apply IsS63.alloc | apply IsS63.drewN | apply IsS63.drew | apply IsS63.set_0 | apply IsS63.set_1 | apply IsS63.set_2 | apply IsS63.set_3 | apply IsS63.set_4 | refine IsS63.far ?_ NB162_164.out _ | refine IsS63.far ?_ NB162_184.out _) | exact HI162.out)⟩, ⟨by repeat (first | (with_reducible first | exact HB.out | apply below_alloc | apply pw_below_drewN | apply below_drew1 | refine below_set ?_ (IsS63.ge HI162.out) | refine below_set ?_ GE164.out | refine below_set ?_ GE184.out) | exact HB.out)⟩⟩
                                    · replace c54 := Bool.eq_false_iff.mpr c54
                                      subst c54
                                      have H1 : (some false) = some r := by rw [if_neg (show ¬ (false = true) by decide)] at H; exact H
                                      clear H
                                      have H := H1
                                      clear H1
                                      obtain rfl := Option.some.inj H
                                      exact absurd hT (by decide)
                                  · replace c52 := Bool.eq_false_iff.mpr c52
                                    subst c52
                                    have H1 : (if x9_21 = true then ((ephemerisref2_Moved.f kj44 a0 x165000_21 x165001_21 x165002_21 (rd l1 x46_3)).bind fun bt186 => (if (!(t176 == bt186.1) || (!(t177 == bt186.2.1))) = true then (some false) else (if t178 = bt186.2.2 then (ephemerislaw2_OscillPlays.l0 kj44 a0 l2 x9_21 l1 (l1.length : Int) (wrap64 (x46_3 + 1)) t179 t180 t181 t182 t183 x165000_21 x165001_21 x165002_21) else (some false)))) else ((ephemerislaw2_none.f t176 t177 t178 10).bind fun t190 => (if t190 = true then (ephemerislaw2_OscillPlays.l0 kj44 a0 l2 x9_21 l1 (l1.length : Int) (wrap64 (x46_3 + 1)) t179 t180 t181 t182 t183 x165000_21 x165001_21 x165002_21) else (some false)))) = some r := by rw [if_neg (show ¬ (false = true) by decide)] at H; exact H
                                    clear H
                                    have H := H1
                                    clear H1
                                    by_cases c59 : x9_21 = true
                                    · subst c59
                                      have H1 : ((ephemerisref2_Moved.f kj44 a0 x165000_21 x165001_21 x165002_21 (rd l1 x46_3)).bind fun bt186 => (if (!(t176 == bt186.1) || (!(t177 == bt186.2.1))) = true then (some false) else (if t178 = bt186.2.2 then (ephemerislaw2_OscillPlays.l0 kj44 a0 l2 true l1 (l1.length : Int) (wrap64 (x46_3 + 1)) t179 t180 t181 t182 t183 x165000_21 x165001_21 x165002_21) else (some false)))) = some r := by rw [if_pos rfl] at H; exact H
                                      clear H
                                      have H := H1
                                      clear H1
                                      replace H := Option.bind_eq_some_iff.mp H
                                      obtain ⟨⟨t186, t187, t188⟩, A600, H⟩ := H
                                      replace H : (if (!(t176 == t186) || (!(t177 == t187))) = true then (some false) else (if t178 = t188 then (ephemerislaw2_OscillPlays.l0 kj44 a0 l2 true l1 (l1.length : Int) (wrap64 (x46_3 + 1)) t179 t180 t181 t182 t183 x165000_21 x165001_21 x165002_21) else (some false))) = some r := H
                                      have A60 := Aside0.mk A600
                                      clear A600
                                      by_cases c61 : (!(t176 == t186) || (!(t177 == t187))) = true
                                      · rw [if_pos c61] at H
                                        have c61b0 : (!(t176 == t186) || (!(t177 == t187))) = true := c61
                                        clear c61
                                        obtain rfl := Option.some.inj H
                                        exact absurd hT (by decide)
                                      · rw [if_neg c61] at H
                                        have c61b0 : (!(t176 == t186) || (!(t177 == t187))) = false := by simpa using c61
                                        clear c61
                                        by_cases c62 : t178 = t188
                                        · rw [if_pos c62] at H
                                          have c62b0 : (t178 == t188) = true := beq_iff_eq.mpr c62
                                          have c62b1 : (t178 != t188) = false := bne_eq_false_iff_eq.mpr c62
                                          clear c62
                                          have H' := Aside0.mk H
                                          clear H
                                          have hnb63 := NB164_184.out
                                          have hnc63 := NB184_164.out
                                          have hnb64 := NB164_162.out
                                          have hnc64 := NB162_164.out
                                          have hcz65_0 : wc.cell? ⟨gb164, 0, none⟩ = some (.int .i64 x165000_21) := (blk_cell BK164.out 0).trans rfl
                                          have hcz65_1 : wc.cell? ⟨gb164, 1, none⟩ = some (.int .i64 x165001_21) := (blk_cell BK164.out 1).trans rfl
                                          have hcz65_2 : wc.cell? ⟨gb164, 2, none⟩ = some (.int .i64 x165002_21) := (blk_cell BK164.out 2).trans rfl
                                          have hfz65_0 := blk_frozen BK164.out 0
                                          have hfz65_1 := blk_frozen BK164.out 1
                                          have hfz65_2 := blk_frozen BK164.out 2
                                          go_wp2_with (first | ((with_reducible refine gate_callee (f := 22) rfl ?_); refine goesL_ (some 100) rfl rfl Try.func22 (by kernel_rfl) rfl #[.int .i64 a0, .agg #[.int .i64 x165000_21, .int .i64 x165001_21, .int .i64 x165002_21], .int .i64 (rd l1 x46_3)] rfl (by (try simp only [List.map_toArray, List.map_cons, List.map_nil]); first | done | rfl | (simp only [List.length_drop, List.length_take]; rfl)) ?_; (with_reducible refine (ephemerisref2_Moved.calls kj44 a0 x165000_21 x165001_21 x165002_21 (rd l1 x46_3) t186 t187 t188 _ A60.out).mono ?_); rintro e w66 ⟨rfl, hb⟩; refine ⟨_, rfl, ?_⟩; have n0_ := Aside0.mk (blk_below (g := gb164) (o := .cells #[.int .i64 x165000_21, .int .i64 x165001_21, .int .i64 x165002_21] 49 (0, 0)) (by (with_reducible repeat (first | refine blk_drewN ?_ _ | refine blk_drew ?_ | refine blk_alloc ?_ _)); exact BK164.out) hb); have n1_ := Aside0.mk (blk_below (g := gb184) (o := .cells #[.int .i64 t176, .int .i64 t177] 41 (0, 0)) (by (with_reducible repeat (first | refine blk_drewN ?_ _ | refine blk_drew ?_ | refine blk_alloc ?_ _)); exact BK184.out) hb); have n2_ := Aside0.mk (IsS63.below (by repeat (first | (with_reducible first | exact HI162.out | apply IsS63.alloc | apply IsS63.drewN | apply IsS63.drew | apply IsS63.set_0 | apply IsS63.set_1 | apply IsS63.set_2 | apply IsS63.set_3 | apply IsS63.set_4 | refine IsS63.far ?_ NB162_164.out _ | refine IsS63.far ?_ NB162_184.out _) | exact HI162.out)) hb); have n3_ := Aside0.mk (below_step (by repeat (first | (with_reducible first | exact HB.out | apply below_alloc | apply pw_below_drewN | apply below_drew1 | refine below_set ?_ (IsS63.ge HI162.out) | refine below_set ?_ GE164.out | refine below_set ?_ GE184.out) | exact HB.out)) hb); clear BK164; clear BK184; clear HI162; clear HB; have BK164 := n0_; have BK184 := n1_; have HI162 := n2_; have HB := n3_; clear n0_ n1_ n2_ n3_; (try clear hb); (try clear hb2); (try clear hk); (try clear hi)) | ((with_reducible refine gate_dst (N := 16) rfl ?_); refine box_event ?hg (N := 16) ?hd (cs := #[.int .i64 0, .int .i64 0]) (t := 41) ?hr ?_; (case hd => rfl); (case hg => rfl); (case hr => first | (go_simp; done) | (go_simp; rfl)); intro gb189 hg w67 hbox hb; have n0_ := Aside0.mk (blk_below (g := gb164) (o := .cells #[.int .i64 x165000_21, .int .i64 x165001_21, .int .i64 x165002_21] 49 (0, 0)) (by (with_reducible repeat (first | refine blk_drewN ?_ _ | refine blk_drew ?_ | refine blk_alloc ?_ _)); exact BK164.out) hb); have n1_ := Aside0.mk (blk_below (g := gb184) (o := .cells #[.int .i64 t176, .int .i64 t177] 41 (0, 0)) (by (with_reducible repeat (first | refine blk_drewN ?_ _ | refine blk_drew ?_ | refine blk_alloc ?_ _)); exact BK184.out) hb); have n2_ := Aside0.mk (IsS63.below (by repeat (first | (with_reducible first | exact HI162.out | apply IsS63.alloc | apply IsS63.drewN | apply IsS63.drew | apply IsS63.set_0 | apply IsS63.set_1 | apply IsS63.set_2 | apply IsS63.set_3 | apply IsS63.set_4 | refine IsS63.far ?_ NB162_164.out _ | refine IsS63.far ?_ NB162_184.out _) | exact HI162.out)) hb); have n3_ := Aside0.mk (below_step (by repeat (first | (with_reducible first | exact HB.out | apply below_alloc | apply pw_below_drewN | apply below_drew1 | refine below_set ?_ (IsS63.ge HI162.out) | refine below_set ?_ GE164.out | refine below_set ?_ GE184.out) | exact HB.out)) hb); have n4_ := Aside0.mk (hbox); have n5_ := Aside0.mk ((by rw [hg]; exact (below_size (by repeat (first | (with_reducible first | exact HB.out | apply below_alloc | apply pw_below_drewN | apply below_drew1 | refine below_set ?_ (IsS63.ge HI162.out) | refine below_set ?_ GE164.out | refine below_set ?_ GE184.out) | exact HB.out))) : w.heap.size ≤ gb189)); have n6_ := Aside0.mk ((by rw [hg]; exact (below_size (by repeat (first | (with_reducible first | exact HB.out | apply below_alloc | apply pw_below_drewN | apply below_drew1 | refine below_set ?_ (IsS63.ge HI162.out) | refine below_set ?_ GE164.out | refine below_set ?_ GE184.out) | exact HB.out))) : w.heap.size ≤ gb189)); have n7_ := Aside0.mk ((by rw [hg]; exact Nat.ne_of_lt (blk_lt (g := gb164) (o := .cells #[.int .i64 x165000_21, .int .i64 x165001_21, .int .i64 x165002_21] 49 (0, 0)) (by (with_reducible repeat (first | refine blk_drewN ?_ _ | refine blk_drew ?_ | refine blk_alloc ?_ _)); exact BK164.out)) : gb164 ≠ gb189)); have n8_ := Aside0.mk ((by rw [hg]; exact Nat.ne_of_gt (blk_lt (g := gb164) (o := .cells #[.int .i64 x165000_21, .int .i64 x165001_21, .int .i64 x165002_21] 49 (0, 0)) (by (with_reducible repeat (first | refine blk_drewN ?_ _ | refine blk_drew ?_ | refine blk_alloc ?_ _)); exact BK164.out)) : gb189 ≠ gb164)); have n9_ := Aside0.mk ((by rw [hg]; exact Nat.ne_of_lt (blk_lt (g := gb184) (o := .cells #[.int .i64 t176, .int .i64 t177] 41 (0, 0)) (by (with_reducible repeat (first | refine blk_drewN ?_ _ | refine blk_drew ?_ | refine blk_alloc ?_ _)); exact BK184.out)) : gb184 ≠ gb189)); have n10_ := Aside0.mk ((by rw [hg]; exact Nat.ne_of_gt (blk_lt (g := gb184) (o := .cells #[.int .i64 t176, .int .i64 t177] 41 (0, 0)) (by (with_reducible repeat (first | refine blk_drewN ?_ _ | refine blk_drew ?_ | refine blk_alloc ?_ _)); exact BK184.out)) : gb189 ≠ gb184)); have n11_ := Aside0.mk ((by rw [hg]; exact Nat.ne_of_lt (IsS63.lt (show IsS63 w _ g162 t179 t180 t181 t182 t183 from by repeat (first | (with_reducible first | exact HI162.out | apply IsS63.alloc | apply IsS63.drewN | apply IsS63.drew | apply IsS63.set_0 | apply IsS63.set_1 | apply IsS63.set_2 | apply IsS63.set_3 | apply IsS63.set_4 | refine IsS63.far ?_ NB162_164.out _ | refine IsS63.far ?_ NB162_184.out _) | exact HI162.out))) : g162 ≠ gb189)); have n12_ := Aside0.mk ((by rw [hg]; exact Nat.ne_of_gt (IsS63.lt (show IsS63 w _ g162 t179 t180 t181 t182 t183 from by repeat (first | (with_reducible first | exact HI162.out | apply IsS63.alloc | apply IsS63.drewN | apply IsS63.drew | apply IsS63.set_0 | apply IsS63.set_1 | apply IsS63.set_2 | apply IsS63.set_3 | apply IsS63.set_4 | refine IsS63.far ?_ NB162_164.out _ | refine IsS63.far ?_ NB162_184.out _) | exact HI162.out))) : gb189 ≠ g162)); clear BK164; clear BK184; clear HI162; clear HB; have BK164 := n0_; have BK184 := n1_; have HI162 := n2_; have HB := n3_; have BK189 := n4_; have GW189 := n5_; have GE189 := n6_; have NB164_189 := n7_; have NB189_164 := n8_; have NB184_189 := n9_; have NB189_184 := n10_; have NB162_189 := n11_; have NB189_162 := n12_; clear n0_ n1_ n2_ n3_ n4_ n5_ n6_ n7_ n8_ n9_ n10_ n11_ n12_; clear hb hbox hg; have hnb68 := NB189_164.out; have hnc68 := NB164_189.out; have hnb69 := NB189_184.out; have hnc69 := NB184_189.out; have hnb70 := NB189_162.out; have hnc70 := NB162_189.out; have hcz71_0 : w67.cell? ⟨gb189, 0, none⟩ = some (.int .i64 0) := (blk_cell BK189.out 0).trans rfl; have hcz71_1 : w67.cell? ⟨gb189, 1, none⟩ = some (.int .i64 0) := (blk_cell BK189.out 1).trans rfl; have hfz71_0 := blk_frozen BK189.out 0; have hfz71_1 := blk_frozen BK189.out 1; have hnb72 := NB184_162.out; have hnc72 := NB162_184.out; have hcz73_0 : w67.cell? ⟨gb184, 0, none⟩ = some (.int .i64 t176) := (blk_cell BK184.out 0).trans rfl; have hcz73_1 : w67.cell? ⟨gb184, 1, none⟩ = some (.int .i64 t177) := (blk_cell BK184.out 1).trans rfl; have hfz73_0 := blk_frozen BK184.out 0; have hfz73_1 := blk_frozen BK184.out 1))
                                          go_roundg kj44
                                          case measure => have := HJ6.out; have := HJ12.out; have := HK3.out; have := HJ21.out; have := HJ44.out; omega
                                          case rel => exact ⟨(true), (wrap64 (x46_3 + 1)), (t179), (t180), (t181), (t182), (t183), (x165000_21), (x165001_21), (x165002_21), (by first | rfl | (simp; done) | (simp [*]; done)), (by first | rfl | (simp; done) | (simp [*]; done)), H', ⟨by have := HJ6.out; have := HJ12.out; have := HK3.out; have := HJ21.out; have := HJ44.out; omega⟩, ⟨by (with_reducible repeat (first | refine blk_drewN ?_ _ | refine blk_drew ?_ | refine blk_alloc ?_ _)); refine blk_far ?_ NB164_189.out _; (with_reducible repeat (first | refine blk_drewN ?_ _ | refine blk_drew ?_ | refine blk_alloc ?_ _)); refine blk_far ?_ NB164_189.out _; (with_reducible repeat (first | refine blk_drewN ?_ _ | refine blk_drew ?_ | refine blk_alloc ?_ _)); exact BK164.out⟩, ⟨by repeat (first | (with_reducible first | exact HI162.out | apply IsS63.alloc | apply IsS63.drewN | apply IsS63.drew | apply IsS63.set_0 | apply IsS63.set_1 | apply IsS63.set_2 | apply IsS63.set_3 | apply IsS63.set_4 | refine IsS63.far ?_ NB162_164.out _ | refine IsS63.far ?_ NB162_184.out _ | refine IsS63.far ?_ NB162_189.out _) | exact HI162.out)⟩, ⟨by repeat (first | (with_reducible first | exact HB.out | apply below_alloc | apply pw_below_drewN | apply below_drew1 | refine below_set ?_ (IsS63.ge HI162.out) | refine below_set ?_ GE164.out | refine below_set ?_ GE184.out | refine below_set ?_ GE189.out) | exact HB.out)⟩⟩
                                        · rw [if_neg c62] at H
                                          have c62b0 : (t178 == t188) = false := beq_eq_false_iff_ne.mpr c62
                                          have c62b1 : (t178 != t188) = true := bne_iff_ne.mpr c62
                                          obtain rfl := Option.some.inj H
                                          exact absurd hT (by decide)
                                    · replace c59 := Bool.eq_false_iff.mpr c59
                                      subst c59
                                      have H1 : ((ephemerislaw2_none.f t176 t177 t178 10).bind fun t190 => (if t190 = true then (ephemerislaw2_OscillPlays.l0 kj44 a0 l2 false l1 (l1.length : Int) (wrap64 (x46_3 + 1)) t179 t180 t181 t182 t183 x165000_21 x165001_21 x165002_21) else (some false))) = some r := by rw [if_neg (show ¬ (false = true) by decide)] at H; exact H
                                      clear H
                                      have H := H1
                                      clear H1
                                      replace H := Option.bind_eq_some_iff.mp H
                                      obtain ⟨t190, A740, H⟩ := H
                                      replace H : (if t190 = true then (ephemerislaw2_OscillPlays.l0 kj44 a0 l2 false l1 (l1.length : Int) (wrap64 (x46_3 + 1)) t179 t180 t181 t182 t183 x165000_21 x165001_21 x165002_21) else (some false)) = some r := H
                                      have A74 := Aside0.mk A740
                                      clear A740
                                      by_cases c75 : t190 = true
                                      · subst c75
                                        have H1 : (ephemerislaw2_OscillPlays.l0 kj44 a0 l2 false l1 (l1.length : Int) (wrap64 (x46_3 + 1)) t179 t180 t181 t182 t183 x165000_21 x165001_21 x165002_21) = some r := by rw [if_pos rfl] at H; exact H
                                        clear H
                                        have H := H1
                                        clear H1
                                        have H' := Aside0.mk H
                                        clear H
                                        have hnb76 := NB184_164.out
                                        have hnc76 := NB164_184.out
                                        have hnb77 := NB184_162.out
                                        have hnc77 := NB162_184.out
                                        have hcz78_0 : wc.cell? ⟨gb184, 0, none⟩ = some (.int .i64 t176) := (blk_cell BK184.out 0).trans rfl
                                        have hcz78_1 : wc.cell? ⟨gb184, 1, none⟩ = some (.int .i64 t177) := (blk_cell BK184.out 1).trans rfl
                                        have hfz78_0 := blk_frozen BK184.out 0
                                        have hfz78_1 := blk_frozen BK184.out 1
                                        go_wp2_with (first | ((with_reducible refine gate_callee (f := 21) rfl ?_); refine goesL_ (some 127) rfl rfl Try.func21 (by kernel_rfl) rfl #[.agg #[.int .i64 t176, .int .i64 t177], .int .i64 t178, .int .i64 10] rfl (by (try simp only [List.map_toArray, List.map_cons, List.map_nil]); first | done | rfl | (simp only [List.length_drop, List.length_take]; rfl)) ?_; (with_reducible refine (ephemerislaw2_none.calls t176 t177 t178 10 true _ A74.out).mono ?_); rintro e w79 ⟨rfl, hb⟩; refine ⟨_, rfl, ?_⟩; have n0_ := Aside0.mk (blk_below (g := gb164) (o := .cells #[.int .i64 x165000_21, .int .i64 x165001_21, .int .i64 x165002_21] 49 (0, 0)) (by (with_reducible repeat (first | refine blk_drewN ?_ _ | refine blk_drew ?_ | refine blk_alloc ?_ _)); exact BK164.out) hb); have n1_ := Aside0.mk (blk_below (g := gb184) (o := .cells #[.int .i64 t176, .int .i64 t177] 41 (0, 0)) (by (with_reducible repeat (first | refine blk_drewN ?_ _ | refine blk_drew ?_ | refine blk_alloc ?_ _)); exact BK184.out) hb); have n2_ := Aside0.mk (IsS63.below (by repeat (first | (with_reducible first | exact HI162.out | apply IsS63.alloc | apply IsS63.drewN | apply IsS63.drew | apply IsS63.set_0 | apply IsS63.set_1 | apply IsS63.set_2 | apply IsS63.set_3 | apply IsS63.set_4 | refine IsS63.far ?_ NB162_164.out _ | refine IsS63.far ?_ NB162_184.out _) | exact HI162.out)) hb); have n3_ := Aside0.mk (below_step (by repeat (first | (with_reducible first | exact HB.out | apply below_alloc | apply pw_below_drewN | apply below_drew1 | refine below_set ?_ (IsS63.ge HI162.out) | refine below_set ?_ GE164.out | refine below_set ?_ GE184.out) | exact HB.out)) hb); clear BK164; clear BK184; clear HI162; clear HB; have BK164 := n0_; have BK184 := n1_; have HI162 := n2_; have HB := n3_; clear n0_ n1_ n2_ n3_; (try clear hb); (try clear hb2); (try clear hk); (try clear hi)))
                                        go_roundg kj44
                                        case measure => have := HJ6.out; have := HJ12.out; have := HK3.out; have := HJ21.out; have := HJ44.out; omega
                                        case rel => exact ⟨(false), (wrap64 (x46_3 + 1)), (t179), (t180), (t181), (t182), (t183), (x165000_21), (x165001_21), (x165002_21), (by first | rfl | (simp; done) | (simp [*]; done)), (by first | rfl | (simp; done) | (simp [*]; done)), H', ⟨by have := HJ6.out; have := HJ12.out; have := HK3.out; have := HJ21.out; have := HJ44.out; omega⟩, ⟨by (with_reducible repeat (first | refine blk_drewN ?_ _ | refine blk_drew ?_ | refine blk_alloc ?_ _)); exact BK164.out⟩, ⟨by repeat (first | (with_reducible first | exact HI162.out | apply IsS63.alloc | apply IsS63.drewN | apply IsS63.drew | apply IsS63.set_0 | apply IsS63.set_1 | apply IsS63.set_2 | apply IsS63.set_3 | apply IsS63.set_4 | refine IsS63.far ?_ NB162_164.out _ | refine IsS63.far ?_ NB162_184.out _) | exact HI162.out)⟩, ⟨by repeat (first | (with_reducible first | exact HB.out | apply below_alloc | apply pw_below_drewN | apply below_drew1 | refine below_set ?_ (IsS63.ge HI162.out) | refine below_set ?_ GE164.out | refine below_set ?_ GE184.out) | exact HB.out)⟩⟩
                                      · replace c75 := Bool.eq_false_iff.mpr c75
                                        subst c75
                                        have H1 : (some false) = some r := by rw [if_neg (show ¬ (false = true) by decide)] at H; exact H
                                        clear H
                                        have H := H1
                                        clear H1
                                        obtain rfl := Option.some.inj H
                                        exact absurd hT (by decide)
                        · rw [if_neg c21] at H
                          exact absurd H (by simp)
                      · rw [if_neg c20] at H
                        exact absurd H (by simp)
                    · rw [if_neg c19] at H
                      have c19b0 : decide (x46_3 < (l1.length : Int)) = false := decide_eq_false c19
                      clear c19
                      obtain rfl := Option.some.inj H
                      simp only [Option.some.injEq, Prod.mk.injEq] at H
                      obtain ⟨rfl⟩ := H
                      go_wp2
                      go_ret
                      exact ⟨by first | rfl | (simp [errW_none, errW_some] <;> rfl) | (simp [*, errW_none, errW_some] <;> rfl), by repeat (first | (with_reducible first | exact HB.out | apply below_alloc | apply pw_below_drewN | apply below_drew1 | refine below_set ?_ (IsS63.ge HI162.out) | refine below_set ?_ GE164.out) | exact HB.out)⟩
  · replace c5 := Bool.eq_false_iff.mpr c5
    subst c5
    have H1 : (some false) = some r := by rw [if_neg (show ¬ (false = true) by decide)] at H; exact H
    clear H
    have H := H1
    clear H1
    obtain rfl := Option.some.inj H
    exact absurd hT (by decide)
end Go.Proofs.Ytblidfmhlhhmkaa.PAll
