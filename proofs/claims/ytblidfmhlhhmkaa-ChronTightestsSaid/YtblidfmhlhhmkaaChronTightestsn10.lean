/- Written by a program of this session: what one law needs. -/
import Derived.Test.YtblidfmhlhhmkaaChronTightestsn3
import Derived.Test.YtblidfmhlhhmkaaChronTightestsn9
import Derived.Test.YtblidfmhlhhmkaaChronTightestsn5
import Derived.Test.YtblidfmhlhhmkaaChronTightestsn6
import Derived.Test.YtblidfmhlhhmkaaChronTightestsn7
section
namespace Go.Proofs.Ytblidfmhlhhmkaa.PAll
open Go.RowKit Go.Proofs.YtblidfmhlhhmkaaW.PrintWords Go.Proofs.YtblidfmhlhhmkaaW.PrintLast Go.Proofs.YtblidfmhlhhmkaaW.PrintMore Go.Proofs.Ytblidfmhlhhmkaa.More2
attribute [local go_sem] max2_int min2_int max_two min_two max_three min_three max_four min_four tdiv2e18_ tdiv1e18_ cellSS_  -- for this text's walks alone
set_option linter.unusedVariables false
set_option linter.unusedSimpArgs false
def ephemerisref2_Solvable.l0 : Nat → Int → List (S31) → Int → Int → Option (Bool)
  | 0, _, _, _, _ => none
  | k + 1, x0, x1, x8, x9 => if x9 < x8 then ((ephemerisref2_Longest.f k x0 x1 x9).bind fun bt236 => (if bt236.2 = true then (ephemerisref2_Solvable.l0 k x0 x1 x8 (wrap64 (x9 + 1))) else (some false))) else (some true)
def ephemerisref2_Solvable.f (k : Nat) (a0 : Int) (l1 : List (S31)) : Option (Bool) := ephemerisref2_Solvable.l0 k a0 l1 a0 0
set_option maxHeartbeats 8000000 in
set_option maxRecDepth 100000 in
theorem ephemerisref2_Solvable.calls (k : Nat) (a0 : Int) (A1 : Option Addr) (c1 : Nat) (l1 : List (S31)) (r : Bool) (w : World) (hr1 : Kd.C k31 w A1 l1.length l1) (hc1 : l1.length ≤ c1) (h : ephemerisref2_Solvable.f k a0 l1 = some r) :
    Calls Try.prog 13 #[.int .i64 a0, .slice A1 l1.length c1] w fun e w' => e = .returned (.bool r) ∧ Below w.heap.size w w' := by
  have HR1 := Aside0.mk hr1
  have HC1 := Aside0.mk hc1
  clear hr1 hc1
  have HB := Aside0.mk (Below.refl w.heap.size w)
  have H : (ephemerisref2_Solvable.l0 k a0 l1 a0 0) = some r := h
  clear h
  have H' := Aside0.mk H
  clear H
  go_enter Try.func13, Try.ntmps13
  go_wp2
  go_loopg [9] k (fun kq v9 w' => ∃ (x9_1 : Int), v9 = .int .i64 x9_1 ∧ Aside0 (ephemerisref2_Solvable.l0 kq a0 l1 a0 x9_1 = some r) ∧ Aside0 (kq ≤ k) ∧ Aside0 (Below w.heap.size w w'))
  case atStart => exact ⟨(0), (by first | rfl | (simp; done) | (simp [*]; done)), H', ⟨Nat.le_refl _⟩, ⟨by repeat (first | (with_reducible first | exact HB.out | apply below_alloc | apply pw_below_drewN | apply below_drew1) | exact HB.out)⟩⟩
  case round =>
    clear H'
    try clear c1
    try clear p2
    obtain ⟨x9_1, rfl, HA, HK1, HB⟩ := hrel
    cases gk with
    | zero => exact absurd HA.out (by simp [ephemerisref2_Solvable.l0])
    | succ k1 =>
      have H := HA.out
      clear HA
      simp only [ephemerisref2_Solvable.l0] at H
      by_cases c3 : x9_1 < a0
      · rw [if_pos c3] at H
        have c3b0 : decide (x9_1 < a0) = true := decide_eq_true c3
        clear c3
        replace H := Option.bind_eq_some_iff.mp H
        obtain ⟨⟨t236, t237⟩, A40, H⟩ := H
        replace H : (if t237 = true then (ephemerisref2_Solvable.l0 k1 a0 l1 a0 (wrap64 (x9_1 + 1))) else (some false)) = some r := H
        have A4 := Aside0.mk A40
        clear A40
        by_cases c5 : t237 = true
        · subst c5
          have H1 : (ephemerisref2_Solvable.l0 k1 a0 l1 a0 (wrap64 (x9_1 + 1))) = some r := by rw [if_pos rfl] at H; exact H
          clear H
          have H := H1
          clear H1
          have H' := Aside0.mk H
          clear H
          go_wp2_with (first | ((with_reducible refine gate_callee (f := 14) rfl ?_); refine goesL_ (some 16) rfl rfl Try.func14 (by kernel_rfl) rfl #[.int .i64 a0, .slice A1 l1.length c1, .int .i64 x9_1] rfl (by (try simp only [List.map_toArray, List.map_cons, List.map_nil]); first | done | rfl | (simp only [List.length_drop, List.length_take]; rfl)) ?_; (with_reducible refine (ephemerisref2_Longest.calls k1 a0 _ _ l1 x9_1 t236 true _ ?side1 ?side2 A4.out).mono ?_); (case side1 => repeat (first | exact (Kd.C_below HR1.out HB.out) | (with_reducible refine Kd.C_alloc ?_ _) | (with_reducible refine Kd.C_drewN ?_ _) | (with_reducible refine Kd.C_drew ?_))); (case side2 => exact HC1.out); rintro e w6 ⟨v238, rfl, ho0, hb⟩; refine ⟨_, rfl, ?_⟩; have n0_ := Aside0.mk (Kd.R_lower ho0 (below_size (by repeat (first | (with_reducible first | exact HB.out | apply below_alloc | apply pw_below_drewN | apply below_drew1) | exact HB.out)))); have n1_ := Aside0.mk (below_step (by repeat (first | (with_reducible first | exact HB.out | apply below_alloc | apply pw_below_drewN | apply below_drew1) | exact HB.out)) hb); clear HB; have HO239 := n0_; have HB := n1_; clear n0_ n1_; (try clear hb); (try clear hb2); (try clear hk); (try clear hi); (try clear ho0)))
          go_roundg k1
          case measure => have := HK1.out; omega
          case rel => exact ⟨(wrap64 (x9_1 + 1)), (by first | rfl | (simp; done) | (simp [*]; done)), H', ⟨by have := HK1.out; omega⟩, ⟨by repeat (first | (with_reducible first | exact HB.out | apply below_alloc | apply pw_below_drewN | apply below_drew1) | exact HB.out)⟩⟩
        · replace c5 := Bool.eq_false_iff.mpr c5
          subst c5
          have H1 : (some false) = some r := by rw [if_neg (show ¬ (false = true) by decide)] at H; exact H
          clear H
          have H := H1
          clear H1
          obtain rfl := Option.some.inj H
          simp only [Option.some.injEq, Prod.mk.injEq] at H
          obtain ⟨rfl⟩ := H
          go_wp2_with (first | ((with_reducible refine gate_callee (f := 14) rfl ?_); refine goesL_ (some 16) rfl rfl Try.func14 (by kernel_rfl) rfl #[.int .i64 a0, .slice A1 l1.length c1, .int .i64 x9_1] rfl (by (try simp only [List.map_toArray, List.map_cons, List.map_nil]); first | done | rfl | (simp only [List.length_drop, List.length_take]; rfl)) ?_; (with_reducible refine (ephemerisref2_Longest.calls k1 a0 _ _ l1 x9_1 t236 false _ ?side1 ?side2 A4.out).mono ?_); (case side1 => repeat (first | exact (Kd.C_below HR1.out HB.out) | (with_reducible refine Kd.C_alloc ?_ _) | (with_reducible refine Kd.C_drewN ?_ _) | (with_reducible refine Kd.C_drew ?_))); (case side2 => exact HC1.out); rintro e w7 ⟨v238, rfl, ho0, hb⟩; refine ⟨_, rfl, ?_⟩; have n0_ := Aside0.mk (Kd.R_lower ho0 (below_size (by repeat (first | (with_reducible first | exact HB.out | apply below_alloc | apply pw_below_drewN | apply below_drew1) | exact HB.out)))); have n1_ := Aside0.mk (below_step (by repeat (first | (with_reducible first | exact HB.out | apply below_alloc | apply pw_below_drewN | apply below_drew1) | exact HB.out)) hb); clear HB; have HO239 := n0_; have HB := n1_; clear n0_ n1_; (try clear hb); (try clear hb2); (try clear hk); (try clear hi); (try clear ho0)))
          go_ret
          exact ⟨by first | rfl | (simp [errW_none, errW_some] <;> rfl) | (simp [*, errW_none, errW_some] <;> rfl), by repeat (first | (with_reducible first | exact HB.out | apply below_alloc | apply pw_below_drewN | apply below_drew1) | exact HB.out)⟩
      · rw [if_neg c3] at H
        have c3b0 : decide (x9_1 < a0) = false := decide_eq_false c3
        clear c3
        obtain rfl := Option.some.inj H
        simp only [Option.some.injEq, Prod.mk.injEq] at H
        obtain ⟨rfl⟩ := H
        go_wp2
        go_ret
        exact ⟨by first | rfl | (simp [errW_none, errW_some] <;> rfl) | (simp [*, errW_none, errW_some] <;> rfl), by repeat (first | (with_reducible first | exact HB.out | apply below_alloc | apply pw_below_drewN | apply below_drew1) | exact HB.out)⟩
end Go.Proofs.Ytblidfmhlhhmkaa.PAll
end
section
namespace Go.Proofs.Ytblidfmhlhhmkaa.PAll
open Go.RowKit Go.Proofs.YtblidfmhlhhmkaaW.PrintWords Go.Proofs.YtblidfmhlhhmkaaW.PrintLast Go.Proofs.YtblidfmhlhhmkaaW.PrintMore Go.Proofs.Ytblidfmhlhhmkaa.More2
attribute [local go_sem] max2_int min2_int max_two min_two max_three min_three max_four min_four tdiv2e18_ tdiv1e18_ cellSS_  -- for this text's walks alone
set_option linter.unusedVariables false
set_option linter.unusedSimpArgs false
mutual
def ephemerislaw2_ChronTightests.j0 : Nat → Int → List (S31) → List (List (S41)) → Int → Int → Bool → Option (Bool)
  | 0, _, _, _, _, _, _ => none
  | k + 1, x0, x1, x5, x6, x7, x35 => if x35 = true then (ephemerislaw2_ChronTightests.j1 k x0 x1 x5 x6 10) else (ephemerislaw2_ChronTightests.j1 k x0 x1 x5 x6 x7)
def ephemerislaw2_ChronTightests.j1 : Nat → Int → List (S31) → List (List (S41)) → Int → Int → Option (Bool)
  | 0, _, _, _, _, _ => none
  | k + 1, x0, x1, x5, x6, x7 => if x7 = 0 then (if x6 = 0 then (ephemerislaw2_ChronTightests.j2 k x0 x1 x5 x6 x7 ((x5.length : Int) != x0)) else (ephemerislaw2_ChronTightests.j2 k x0 x1 x5 x6 x7 true)) else (ephemerislaw2_ChronTightests.j2 k x0 x1 x5 x6 x7 true)
def ephemerislaw2_ChronTightests.j2 : Nat → Int → List (S31) → List (List (S41)) → Int → Int → Bool → Option (Bool)
  | 0, _, _, _, _, _, _ => none
  | k + 1, x0, x1, x5, x6, x7, x47 => if x47 = true then (if x6 = x7 then (if (x5.length : Int) = 0 then (some (x7 != 0)) else (some false)) else (some false)) else (ephemerislaw2_ChronTightests.l0 k x0 x1 x5 x0 0)
def ephemerislaw2_ChronTightests.l0 : Nat → Int → List (S31) → List (List (S41)) → Int → Int → Option (Bool)
  | 0, _, _, _, _, _ => none
  | k + 1, x0, x1, x5, x60, x61 => if x61 < x60 then ((ephemerisref2_Longest.f k x0 x1 x61).bind fun bt248 => (if 0 ≤ x61 then (if x61 < (x5.length : Int) then (if ((rd_L4 x5 x61).length : Int) = x0 then (ephemerislaw2_ChronTightests.l1 k x0 x1 x5 x61 bt248.1 x60 x61 x0 0) else (some false)) else (none)) else (none))) else (some true)
def ephemerislaw2_ChronTightests.l1 : Nat → Int → List (S31) → List (List (S41)) → Int → List Int → Int → Int → Int → Int → Option (Bool)
  | 0, _, _, _, _, _, _, _, _, _ => none
  | k + 1, x0, x1, x5, x8, x9, x60, x61, x78, x79 => if x79 < x78 then (if 0 ≤ x79 then (if x79 < (x5.length : Int) then (if ((rd_L4 x5 x79).length : Int) = x0 then (if 0 ≤ x8 then (if x8 < (x5.length : Int) then (if x79 < ((rd_L4 x5 x8).length : Int) then (if x79 < (x9.length : Int) then (if ((rd_T41 (rd_L4 x5 x8) x79).f1) = (rd x9 x79) then (if x8 < ((rd_L4 x5 x79).length : Int) then (if ((rd_T41 (rd_L4 x5 x79) x8).f0) = (wrap64 (-(rd x9 x79))) then (ephemerislaw2_ChronTightests.l1 k x0 x1 x5 x8 x9 x60 x61 x78 (wrap64 (x79 + 1))) else (some false)) else (none)) else (some false)) else (none)) else (none)) else (none)) else (none)) else (some false)) else (none)) else (none)) else (ephemerislaw2_ChronTightests.l0 k x0 x1 x5 x60 (wrap64 (x61 + 1)))
end
def ephemerislaw2_ChronTightests.f (k : Nat) (a0 : Int) (l1 : List (S31)) : Option (Bool) := (ephemerislaw2_chronWorks.f k).bind fun t240 => (if t240 = true then ((chron_Tightest.f k a0 l1).bind fun bt241 => ((ephemerisref2_ChronErr.f k a0 l1).bind fun t245 => ((chron_Check.f k a0 l1).bind fun t246 => (if t246 = t245 then (if t245 = 0 then ((ephemerisref2_Solvable.f k a0 l1).bind fun t247 => (ephemerislaw2_ChronTightests.j0 k a0 l1 bt241.1 bt241.2 t245 (!t247))) else (ephemerislaw2_ChronTightests.j0 k a0 l1 bt241.1 bt241.2 t245 false)) else (some false))))) else (some false))
set_option maxHeartbeats 8000000 in
set_option maxRecDepth 100000 in
theorem ephemerislaw2_ChronTightests.calls (k : Nat) (a0 : Int) (A1 : Option Addr) (c1 : Nat) (l1 : List (S31)) (r : Bool) (w : World) (hr1 : Kd.C k31 w A1 l1.length l1) (hc1 : l1.length ≤ c1) (h : ephemerislaw2_ChronTightests.f k a0 l1 = some r) (hT : r = true) :
    Calls Try.prog 4 #[.int .i64 a0, .slice A1 l1.length c1] w fun e w' => e = .returned (.bool r) ∧ Below w.heap.size w w' := by
  have HR1 := Aside0.mk hr1
  have HC1 := Aside0.mk hc1
  clear hr1 hc1
  have HB := Aside0.mk (Below.refl w.heap.size w)
  have H : ((ephemerislaw2_chronWorks.f k).bind fun t240 => (if t240 = true then ((chron_Tightest.f k a0 l1).bind fun bt241 => ((ephemerisref2_ChronErr.f k a0 l1).bind fun t245 => ((chron_Check.f k a0 l1).bind fun t246 => (if t246 = t245 then (if t245 = 0 then ((ephemerisref2_Solvable.f k a0 l1).bind fun t247 => (ephemerislaw2_ChronTightests.j0 k a0 l1 bt241.1 bt241.2 t245 (!t247))) else (ephemerislaw2_ChronTightests.j0 k a0 l1 bt241.1 bt241.2 t245 false)) else (some false))))) else (some false))) = some r := h
  clear h
  replace H := Option.bind_eq_some_iff.mp H
  obtain ⟨t240, A30, H⟩ := H
  replace H : (if t240 = true then ((chron_Tightest.f k a0 l1).bind fun bt241 => ((ephemerisref2_ChronErr.f k a0 l1).bind fun t245 => ((chron_Check.f k a0 l1).bind fun t246 => (if t246 = t245 then (if t245 = 0 then ((ephemerisref2_Solvable.f k a0 l1).bind fun t247 => (ephemerislaw2_ChronTightests.j0 k a0 l1 bt241.1 bt241.2 t245 (!t247))) else (ephemerislaw2_ChronTightests.j0 k a0 l1 bt241.1 bt241.2 t245 false)) else (some false))))) else (some false)) = some r := H
  have A3 := Aside0.mk A30
  clear A30
  by_cases c4 : t240 = true
  · subst c4
    have H1 : ((chron_Tightest.f k a0 l1).bind fun bt241 => ((ephemerisref2_ChronErr.f k a0 l1).bind fun t245 => ((chron_Check.f k a0 l1).bind fun t246 => (if t246 = t245 then (if t245 = 0 then ((ephemerisref2_Solvable.f k a0 l1).bind fun t247 => (ephemerislaw2_ChronTightests.j0 k a0 l1 bt241.1 bt241.2 t245 (!t247))) else (ephemerislaw2_ChronTightests.j0 k a0 l1 bt241.1 bt241.2 t245 false)) else (some false))))) = some r := by rw [if_pos rfl] at H; exact H
    clear H
    have H := H1
    clear H1
    replace H := Option.bind_eq_some_iff.mp H
    obtain ⟨⟨t241, t242⟩, A50, H⟩ := H
    replace H : ((ephemerisref2_ChronErr.f k a0 l1).bind fun t245 => ((chron_Check.f k a0 l1).bind fun t246 => (if t246 = t245 then (if t245 = 0 then ((ephemerisref2_Solvable.f k a0 l1).bind fun t247 => (ephemerislaw2_ChronTightests.j0 k a0 l1 t241 t242 t245 (!t247))) else (ephemerislaw2_ChronTightests.j0 k a0 l1 t241 t242 t245 false)) else (some false)))) = some r := H
    have A5 := Aside0.mk A50
    clear A50
    replace H := Option.bind_eq_some_iff.mp H
    obtain ⟨t245, A60, H⟩ := H
    replace H : ((chron_Check.f k a0 l1).bind fun t246 => (if t246 = t245 then (if t245 = 0 then ((ephemerisref2_Solvable.f k a0 l1).bind fun t247 => (ephemerislaw2_ChronTightests.j0 k a0 l1 t241 t242 t245 (!t247))) else (ephemerislaw2_ChronTightests.j0 k a0 l1 t241 t242 t245 false)) else (some false))) = some r := H
    have A6 := Aside0.mk A60
    clear A60
    replace H := Option.bind_eq_some_iff.mp H
    obtain ⟨t246, A70, H⟩ := H
    replace H : (if t246 = t245 then (if t245 = 0 then ((ephemerisref2_Solvable.f k a0 l1).bind fun t247 => (ephemerislaw2_ChronTightests.j0 k a0 l1 t241 t242 t245 (!t247))) else (ephemerislaw2_ChronTightests.j0 k a0 l1 t241 t242 t245 false)) else (some false)) = some r := H
    have A7 := Aside0.mk A70
    clear A70
    by_cases c8 : t246 = t245
    · rw [if_pos c8] at H
      have c8b0 : (t246 == t245) = true := beq_iff_eq.mpr c8
      have c8b1 : (t246 != t245) = false := bne_eq_false_iff_eq.mpr c8
      clear c8
      have HC9 := Aside0.mk H
      clear H
      go_enter Try.func4, Try.ntmps4
      go_upto_region 7 with (first | (go_at_call 7; (with_reducible refine (ephemerislaw2_chronWorks.calls k  true _ A3.out rfl).mono ?_); rintro e w10 ⟨rfl, hb⟩; have n0_ := Aside0.mk (below_step (by repeat (first | (with_reducible first | exact HB.out | apply below_alloc | apply pw_below_drewN | apply below_drew1) | exact HB.out)) hb); clear HB; have HB := n0_; clear n0_; (try clear hb); (try clear hb2); (try clear hk); (try clear hi)) | (go_at_call 11; (with_reducible refine (chron_Tightest.calls k a0 _ _ l1 t241 t242 _ ?side1 ?side2 A5.out).mono ?_); (case side1 => repeat (first | exact (Kd.C_below HR1.out HB.out) | (with_reducible refine Kd.C_alloc ?_ _) | (with_reducible refine Kd.C_drewN ?_ _) | (with_reducible refine Kd.C_drew ?_))); (case side2 => exact HC1.out); rintro e w11 ⟨v243, rfl, ho0, hb⟩; have n0_ := Aside0.mk (Kd.S_lower ho0 (below_size (by repeat (first | (with_reducible first | exact HB.out | apply below_alloc | apply pw_below_drewN | apply below_drew1) | exact HB.out)))); have n1_ := Aside0.mk (below_step (by repeat (first | (with_reducible first | exact HB.out | apply below_alloc | apply pw_below_drewN | apply below_drew1) | exact HB.out)) hb); clear HB; have HO244 := n0_; have HB := n1_; clear n0_ n1_; (try clear hb); (try clear hb2); (try clear hk); (try clear hi); (try clear ho0)) | (go_at_call 9; (with_reducible refine (ephemerisref2_ChronErr.calls k a0 _ _ l1 t245 _ ?side1 ?side2 A6.out).mono ?_); (case side1 => repeat (first | exact (Kd.C_below HR1.out HB.out) | (with_reducible refine Kd.C_alloc ?_ _) | (with_reducible refine Kd.C_drewN ?_ _) | (with_reducible refine Kd.C_drew ?_))); (case side2 => exact HC1.out); rintro e w12 ⟨rfl, hb⟩; have n0_ := Aside0.mk (Kd.S_below (by (with_reducible repeat (first | apply Kd.S_alloc | apply Kd.S_drewN | apply Kd.S_drew)); exact HO244.out) hb); have n1_ := Aside0.mk (below_step (by repeat (first | (with_reducible first | exact HB.out | apply below_alloc | apply pw_below_drewN | apply below_drew1) | exact HB.out)) hb); clear HO244; clear HB; have HO244 := n0_; have HB := n1_; clear n0_ n1_; (try clear hb); (try clear hb2); (try clear hk); (try clear hi)) | (go_at_call 12; (with_reducible refine (chron_Check.calls k a0 _ _ l1 t246 _ ?side1 ?side2 A7.out).mono ?_); (case side1 => repeat (first | exact (Kd.C_below HR1.out HB.out) | (with_reducible refine Kd.C_alloc ?_ _) | (with_reducible refine Kd.C_drewN ?_ _) | (with_reducible refine Kd.C_drew ?_))); (case side2 => exact HC1.out); rintro e w13 ⟨rfl, hb⟩; have n0_ := Aside0.mk (Kd.S_below (by (with_reducible repeat (first | apply Kd.S_alloc | apply Kd.S_drewN | apply Kd.S_drew)); exact HO244.out) hb); have n1_ := Aside0.mk (below_step (by repeat (first | (with_reducible first | exact HB.out | apply below_alloc | apply pw_below_drewN | apply below_drew1) | exact HB.out)) hb); clear HO244; clear HB; have HO244 := n0_; have HB := n1_; clear n0_ n1_; (try clear hb); (try clear hb2); (try clear hk); (try clear hi)))
      repeat (go_quiet (first | (go_at_call 7; (with_reducible refine (ephemerislaw2_chronWorks.calls k  true _ A3.out rfl).mono ?_); rintro e w10 ⟨rfl, hb⟩; have n0_ := Aside0.mk (below_step (by repeat (first | (with_reducible first | exact HB.out | apply below_alloc | apply pw_below_drewN | apply below_drew1) | exact HB.out)) hb); clear HB; have HB := n0_; clear n0_; (try clear hb); (try clear hb2); (try clear hk); (try clear hi)) | (go_at_call 11; (with_reducible refine (chron_Tightest.calls k a0 _ _ l1 t241 t242 _ ?side1 ?side2 A5.out).mono ?_); (case side1 => repeat (first | exact (Kd.C_below HR1.out HB.out) | (with_reducible refine Kd.C_alloc ?_ _) | (with_reducible refine Kd.C_drewN ?_ _) | (with_reducible refine Kd.C_drew ?_))); (case side2 => exact HC1.out); rintro e w11 ⟨v243, rfl, ho0, hb⟩; have n0_ := Aside0.mk (Kd.S_lower ho0 (below_size (by repeat (first | (with_reducible first | exact HB.out | apply below_alloc | apply pw_below_drewN | apply below_drew1) | exact HB.out)))); have n1_ := Aside0.mk (below_step (by repeat (first | (with_reducible first | exact HB.out | apply below_alloc | apply pw_below_drewN | apply below_drew1) | exact HB.out)) hb); clear HB; have HO244 := n0_; have HB := n1_; clear n0_ n1_; (try clear hb); (try clear hb2); (try clear hk); (try clear hi); (try clear ho0)) | (go_at_call 9; (with_reducible refine (ephemerisref2_ChronErr.calls k a0 _ _ l1 t245 _ ?side1 ?side2 A6.out).mono ?_); (case side1 => repeat (first | exact (Kd.C_below HR1.out HB.out) | (with_reducible refine Kd.C_alloc ?_ _) | (with_reducible refine Kd.C_drewN ?_ _) | (with_reducible refine Kd.C_drew ?_))); (case side2 => exact HC1.out); rintro e w12 ⟨rfl, hb⟩; have n0_ := Aside0.mk (Kd.S_below (by (with_reducible repeat (first | apply Kd.S_alloc | apply Kd.S_drewN | apply Kd.S_drew)); exact HO244.out) hb); have n1_ := Aside0.mk (below_step (by repeat (first | (with_reducible first | exact HB.out | apply below_alloc | apply pw_below_drewN | apply below_drew1) | exact HB.out)) hb); clear HO244; clear HB; have HO244 := n0_; have HB := n1_; clear n0_ n1_; (try clear hb); (try clear hb2); (try clear hk); (try clear hi)) | (go_at_call 12; (with_reducible refine (chron_Check.calls k a0 _ _ l1 t246 _ ?side1 ?side2 A7.out).mono ?_); (case side1 => repeat (first | exact (Kd.C_below HR1.out HB.out) | (with_reducible refine Kd.C_alloc ?_ _) | (with_reducible refine Kd.C_drewN ?_ _) | (with_reducible refine Kd.C_drew ?_))); (case side2 => exact HC1.out); rintro e w13 ⟨rfl, hb⟩; have n0_ := Aside0.mk (Kd.S_below (by (with_reducible repeat (first | apply Kd.S_alloc | apply Kd.S_drewN | apply Kd.S_drew)); exact HO244.out) hb); have n1_ := Aside0.mk (below_step (by repeat (first | (with_reducible first | exact HB.out | apply below_alloc | apply pw_below_drewN | apply below_drew1) | exact HB.out)) hb); clear HO244; clear HB; have HO244 := n0_; have HB := n1_; clear n0_ n1_; (try clear hb); (try clear hb2); (try clear hk); (try clear hi))); go_upto_region 7 with (first | (go_at_call 7; (with_reducible refine (ephemerislaw2_chronWorks.calls k  true _ A3.out rfl).mono ?_); rintro e w10 ⟨rfl, hb⟩; have n0_ := Aside0.mk (below_step (by repeat (first | (with_reducible first | exact HB.out | apply below_alloc | apply pw_below_drewN | apply below_drew1) | exact HB.out)) hb); clear HB; have HB := n0_; clear n0_; (try clear hb); (try clear hb2); (try clear hk); (try clear hi)) | (go_at_call 11; (with_reducible refine (chron_Tightest.calls k a0 _ _ l1 t241 t242 _ ?side1 ?side2 A5.out).mono ?_); (case side1 => repeat (first | exact (Kd.C_below HR1.out HB.out) | (with_reducible refine Kd.C_alloc ?_ _) | (with_reducible refine Kd.C_drewN ?_ _) | (with_reducible refine Kd.C_drew ?_))); (case side2 => exact HC1.out); rintro e w11 ⟨v243, rfl, ho0, hb⟩; have n0_ := Aside0.mk (Kd.S_lower ho0 (below_size (by repeat (first | (with_reducible first | exact HB.out | apply below_alloc | apply pw_below_drewN | apply below_drew1) | exact HB.out)))); have n1_ := Aside0.mk (below_step (by repeat (first | (with_reducible first | exact HB.out | apply below_alloc | apply pw_below_drewN | apply below_drew1) | exact HB.out)) hb); clear HB; have HO244 := n0_; have HB := n1_; clear n0_ n1_; (try clear hb); (try clear hb2); (try clear hk); (try clear hi); (try clear ho0)) | (go_at_call 9; (with_reducible refine (ephemerisref2_ChronErr.calls k a0 _ _ l1 t245 _ ?side1 ?side2 A6.out).mono ?_); (case side1 => repeat (first | exact (Kd.C_below HR1.out HB.out) | (with_reducible refine Kd.C_alloc ?_ _) | (with_reducible refine Kd.C_drewN ?_ _) | (with_reducible refine Kd.C_drew ?_))); (case side2 => exact HC1.out); rintro e w12 ⟨rfl, hb⟩; have n0_ := Aside0.mk (Kd.S_below (by (with_reducible repeat (first | apply Kd.S_alloc | apply Kd.S_drewN | apply Kd.S_drew)); exact HO244.out) hb); have n1_ := Aside0.mk (below_step (by repeat (first | (with_reducible first | exact HB.out | apply below_alloc | apply pw_below_drewN | apply below_drew1) | exact HB.out)) hb); clear HO244; clear HB; have HO244 := n0_; have HB := n1_; clear n0_ n1_; (try clear hb); (try clear hb2); (try clear hk); (try clear hi)) | (go_at_call 12; (with_reducible refine (chron_Check.calls k a0 _ _ l1 t246 _ ?side1 ?side2 A7.out).mono ?_); (case side1 => repeat (first | exact (Kd.C_below HR1.out HB.out) | (with_reducible refine Kd.C_alloc ?_ _) | (with_reducible refine Kd.C_drewN ?_ _) | (with_reducible refine Kd.C_drew ?_))); (case side2 => exact HC1.out); rintro e w13 ⟨rfl, hb⟩; have n0_ := Aside0.mk (Kd.S_below (by (with_reducible repeat (first | apply Kd.S_alloc | apply Kd.S_drewN | apply Kd.S_drew)); exact HO244.out) hb); have n1_ := Aside0.mk (below_step (by repeat (first | (with_reducible first | exact HB.out | apply below_alloc | apply pw_below_drewN | apply below_drew1) | exact HB.out)) hb); clear HO244; clear HB; have HO244 := n0_; have HB := n1_; clear n0_ n1_; (try clear hb); (try clear hb2); (try clear hk); (try clear hi))))
      (try simp only [Act.put, List.setIfInBounds_toArray, List.set_cons_zero, List.set_cons_succ])
      go_cut [35] (fun v35 wc => ∃ (kq : Nat) (x35_8 : Bool), v35 = .bool x35_8 ∧ Aside0 (ephemerislaw2_ChronTightests.j0 kq a0 l1 t241 t242 t245 x35_8 = some r) ∧ Aside0 (kq ≤ k) ∧ Aside0 (Kd.S (Kd.slice 41 k41) 39 wc w.heap.size (fun _ => True) v243 t241) ∧ Aside0 (Below w.heap.size w wc))
      case first =>
        have H := HC9.out
        clear HC9
        by_cases c14 : t245 = 0
        · rw [if_pos c14] at H
          have c14b0 : (t245 == 0) = true := beq_iff_eq.mpr c14
          have c14b1 : (t245 != 0) = false := bne_eq_false_iff_eq.mpr c14
          clear c14
          (first | rw [c14b0] | (simp only [i64_w, i32_w]; rw [c14b0]) | skip)
          replace H := Option.bind_eq_some_iff.mp H
          obtain ⟨t247, A150, H⟩ := H
          replace H : (ephemerislaw2_ChronTightests.j0 k a0 l1 t241 t242 t245 (!t247)) = some r := H
          have A15 := Aside0.mk A150
          clear A150
          have H' := Aside0.mk H
          clear H
          go_wp2_with (first | (go_at_call 13; (with_reducible refine (ephemerisref2_Solvable.calls k a0 _ _ l1 t247 _ ?side1 ?side2 A15.out).mono ?_); (case side1 => repeat (first | exact (Kd.C_below HR1.out HB.out) | (with_reducible refine Kd.C_alloc ?_ _) | (with_reducible refine Kd.C_drewN ?_ _) | (with_reducible refine Kd.C_drew ?_))); (case side2 => exact HC1.out); rintro e w16 ⟨rfl, hb⟩; have n0_ := Aside0.mk (Kd.S_below (by (with_reducible repeat (first | apply Kd.S_alloc | apply Kd.S_drewN | apply Kd.S_drew)); exact HO244.out) hb); have n1_ := Aside0.mk (below_step (by repeat (first | (with_reducible first | exact HB.out | apply below_alloc | apply pw_below_drewN | apply below_drew1) | exact HB.out)) hb); clear HO244; clear HB; have HO244 := n0_; have HB := n1_; clear n0_ n1_; (try clear hb); (try clear hb2); (try clear hk); (try clear hi)))
          repeat (go_quiet (first | (go_at_call 13; (with_reducible refine (ephemerisref2_Solvable.calls k a0 _ _ l1 t247 _ ?side1 ?side2 A15.out).mono ?_); (case side1 => repeat (first | exact (Kd.C_below HR1.out HB.out) | (with_reducible refine Kd.C_alloc ?_ _) | (with_reducible refine Kd.C_drewN ?_ _) | (with_reducible refine Kd.C_drew ?_))); (case side2 => exact HC1.out); rintro e w16 ⟨rfl, hb⟩; have n0_ := Aside0.mk (Kd.S_below (by (with_reducible repeat (first | apply Kd.S_alloc | apply Kd.S_drewN | apply Kd.S_drew)); exact HO244.out) hb); have n1_ := Aside0.mk (below_step (by repeat (first | (with_reducible first | exact HB.out | apply below_alloc | apply pw_below_drewN | apply below_drew1) | exact HB.out)) hb); clear HO244; clear HB; have HO244 := n0_; have HB := n1_; clear n0_ n1_; (try clear hb); (try clear hb2); (try clear hk); (try clear hi))); try go_wp2_with (first | (go_at_call 13; (with_reducible refine (ephemerisref2_Solvable.calls k a0 _ _ l1 t247 _ ?side1 ?side2 A15.out).mono ?_); (case side1 => repeat (first | exact (Kd.C_below HR1.out HB.out) | (with_reducible refine Kd.C_alloc ?_ _) | (with_reducible refine Kd.C_drewN ?_ _) | (with_reducible refine Kd.C_drew ?_))); (case side2 => exact HC1.out); rintro e w16 ⟨rfl, hb⟩; have n0_ := Aside0.mk (Kd.S_below (by (with_reducible repeat (first | apply Kd.S_alloc | apply Kd.S_drewN | apply Kd.S_drew)); exact HO244.out) hb); have n1_ := Aside0.mk (below_step (by repeat (first | (with_reducible first | exact HB.out | apply below_alloc | apply pw_below_drewN | apply below_drew1) | exact HB.out)) hb); clear HO244; clear HB; have HO244 := n0_; have HB := n1_; clear n0_ n1_; (try clear hb); (try clear hb2); (try clear hk); (try clear hi))))
          go_meet
          case rel => exact ⟨_, (!t247), (by first | rfl | (simp; done) | (simp [*]; done)), H', ⟨by first | omega | exact Nat.le_refl _⟩, ⟨by (with_reducible repeat (first | apply Kd.S_alloc | apply Kd.S_drewN | apply Kd.S_drew)); exact HO244.out⟩, ⟨by repeat (first | (with_reducible first | exact HB.out | apply below_alloc | apply pw_below_drewN | apply below_drew1) | exact HB.out)⟩⟩
        · rw [if_neg c14] at H
          have c14b0 : (t245 == 0) = false := beq_eq_false_iff_ne.mpr c14
          have c14b1 : (t245 != 0) = true := bne_iff_ne.mpr c14
          (first | rw [c14b0] | (simp only [i64_w, i32_w]; rw [c14b0]) | skip)
          have H' := Aside0.mk H
          clear H
          go_wp2
          repeat (go_quiet (fail); try go_wp2)
          go_meet
          case rel => exact ⟨_, (false), (by first | rfl | (simp; done) | (simp [*]; done)), H', ⟨by first | omega | exact Nat.le_refl _⟩, ⟨by (with_reducible repeat (first | apply Kd.S_alloc | apply Kd.S_drewN | apply Kd.S_drew)); exact HO244.out⟩, ⟨by repeat (first | (with_reducible first | exact HB.out | apply below_alloc | apply pw_below_drewN | apply below_drew1) | exact HB.out)⟩⟩
      case rest =>
        clear HC9
        try clear c1
        try clear p2
        try clear c4
        try clear c8
        try clear c8b0
        try clear c8b1
        try clear c14
        try clear c14b0
        try clear c14b1
        obtain ⟨kq, x35_8, rfl, HA, HJ8, HO_5, HB⟩ := hcut
        cases kq with
        | zero => exact absurd HA.out (by simp [ephemerislaw2_ChronTightests.j0])
        | succ kj8 =>
          have H := HA.out
          clear HA
          simp only [ephemerislaw2_ChronTightests.j0] at H
          have HC17 := Aside0.mk H
          clear H
          go_upto_if 35 with (fail)
          repeat (go_quiet (fail); go_upto_if 35 with (fail))
          go_cut [7] (fun v7 wc => ∃ (kq : Nat) (x7_16 : Int), v7 = .int .i64 x7_16 ∧ Aside0 (ephemerislaw2_ChronTightests.j1 kq a0 l1 t241 t242 x7_16 = some r) ∧ Aside0 (kq ≤ kj8) ∧ Aside0 (Kd.S (Kd.slice 41 k41) 39 wc w.heap.size (fun _ => True) v243 t241) ∧ Aside0 (Below w.heap.size w wc))
          case first =>
            have H := HC17.out
            clear HC17
            by_cases c18 : x35_8 = true
            · subst c18
              have H1 : (ephemerislaw2_ChronTightests.j1 kj8 a0 l1 t241 t242 10) = some r := by rw [if_pos rfl] at H; exact H
              clear H
              have H := H1
              clear H1
              have H' := Aside0.mk H
              clear H
              go_wp2
              repeat (go_quiet (fail); try go_wp2)
              go_meet
              case rel => exact ⟨_, (10), (by first | rfl | (simp; done) | (simp [*]; done)), H', ⟨by have := HJ8.out; first | omega | exact Nat.le_refl _⟩, ⟨by (with_reducible repeat (first | apply Kd.S_alloc | apply Kd.S_drewN | apply Kd.S_drew)); exact HO_5.out⟩, ⟨by repeat (first | (with_reducible first | exact HB.out | apply below_alloc | apply pw_below_drewN | apply below_drew1) | exact HB.out)⟩⟩
            · replace c18 := Bool.eq_false_iff.mpr c18
              subst c18
              have H1 : (ephemerislaw2_ChronTightests.j1 kj8 a0 l1 t241 t242 t245) = some r := by rw [if_neg (show ¬ (false = true) by decide)] at H; exact H
              clear H
              have H := H1
              clear H1
              have H' := Aside0.mk H
              clear H
              go_wp2
              repeat (go_quiet (fail); try go_wp2)
              go_meet
              case rel => exact ⟨_, (t245), (by first | rfl | (simp; done) | (simp [*]; done)), H', ⟨by have := HJ8.out; first | omega | exact Nat.le_refl _⟩, ⟨by (with_reducible repeat (first | apply Kd.S_alloc | apply Kd.S_drewN | apply Kd.S_drew)); exact HO_5.out⟩, ⟨by repeat (first | (with_reducible first | exact HB.out | apply below_alloc | apply pw_below_drewN | apply below_drew1) | exact HB.out)⟩⟩
          case rest =>
            clear HC17
            try clear c1
            try clear p2
            try clear c4
            try clear c8
            try clear c8b0
            try clear c8b1
            try clear c14
            try clear c14b0
            try clear c14b1
            try clear c18
            try clear p2
            obtain ⟨kq, x7_16, rfl, HA, HJ16, HO_5, HB⟩ := hcut
            cases kq with
            | zero => exact absurd HA.out (by simp [ephemerislaw2_ChronTightests.j1])
            | succ kj16 =>
              have H := HA.out
              clear HA
              simp only [ephemerislaw2_ChronTightests.j1] at H
              have HC19 := Aside0.mk H
              clear H
              go_upto_region 9 with (fail)
              repeat (go_quiet (fail); go_upto_region 9 with (fail))
              go_cut [47] (fun v47 wc => ∃ (kq : Nat) (x47_18 : Bool), v47 = .bool x47_18 ∧ Aside0 (ephemerislaw2_ChronTightests.j2 kq a0 l1 t241 t242 x7_16 x47_18 = some r) ∧ Aside0 (kq ≤ kj16) ∧ Aside0 (Kd.S (Kd.slice 41 k41) 39 wc w.heap.size (fun _ => True) v243 t241) ∧ Aside0 (Below w.heap.size w wc))
              case first =>
                have H := HC19.out
                clear HC19
                by_cases c20 : x7_16 = 0
                · rw [if_pos c20] at H
                  have c20b0 : (x7_16 == 0) = true := beq_iff_eq.mpr c20
                  have c20b1 : (x7_16 != 0) = false := bne_eq_false_iff_eq.mpr c20
                  clear c20
                  (first | rw [c20b0] | (simp only [i64_w, i32_w]; rw [c20b0]) | skip)
                  by_cases c21 : t242 = 0
                  · rw [if_pos c21] at H
                    have c21b0 : (t242 == 0) = true := beq_iff_eq.mpr c21
                    have c21b1 : (t242 != 0) = false := bne_eq_false_iff_eq.mpr c21
                    clear c21
                    have H' := Aside0.mk H
                    clear H
                    obtain ⟨Ao22, co22, eo22⟩ := Kd.S_slice HO_5.out
                    subst eo22
                    go_wp2
                    repeat (go_quiet (fail); try go_wp2)
                    go_meet
                    case rel => exact ⟨_, (((t241.length : Int) != a0)), (by first | rfl | (simp; done) | (simp [*]; done)), H', ⟨by have := HJ8.out; have := HJ16.out; first | omega | exact Nat.le_refl _⟩, ⟨by (with_reducible repeat (first | apply Kd.S_alloc | apply Kd.S_drewN | apply Kd.S_drew)); exact HO_5.out⟩, ⟨by repeat (first | (with_reducible first | exact HB.out | apply below_alloc | apply pw_below_drewN | apply below_drew1) | exact HB.out)⟩⟩
                  · rw [if_neg c21] at H
                    have c21b0 : (t242 == 0) = false := beq_eq_false_iff_ne.mpr c21
                    have c21b1 : (t242 != 0) = true := bne_iff_ne.mpr c21
                    have H' := Aside0.mk H
                    clear H
                    go_wp2
                    repeat (go_quiet (fail); try go_wp2)
                    go_meet
                    case rel => exact ⟨_, (true), (by first | rfl | (simp; done) | (simp [*]; done)), H', ⟨by have := HJ8.out; have := HJ16.out; first | omega | exact Nat.le_refl _⟩, ⟨by (with_reducible repeat (first | apply Kd.S_alloc | apply Kd.S_drewN | apply Kd.S_drew)); exact HO_5.out⟩, ⟨by repeat (first | (with_reducible first | exact HB.out | apply below_alloc | apply pw_below_drewN | apply below_drew1) | exact HB.out)⟩⟩
                · rw [if_neg c20] at H
                  have c20b0 : (x7_16 == 0) = false := beq_eq_false_iff_ne.mpr c20
                  have c20b1 : (x7_16 != 0) = true := bne_iff_ne.mpr c20
                  (first | rw [c20b0] | (simp only [i64_w, i32_w]; rw [c20b0]) | skip)
                  have H' := Aside0.mk H
                  clear H
                  go_wp2
                  repeat (go_quiet (fail); try go_wp2)
                  go_meet
                  case rel => exact ⟨_, (true), (by first | rfl | (simp; done) | (simp [*]; done)), H', ⟨by have := HJ8.out; have := HJ16.out; first | omega | exact Nat.le_refl _⟩, ⟨by (with_reducible repeat (first | apply Kd.S_alloc | apply Kd.S_drewN | apply Kd.S_drew)); exact HO_5.out⟩, ⟨by repeat (first | (with_reducible first | exact HB.out | apply below_alloc | apply pw_below_drewN | apply below_drew1) | exact HB.out)⟩⟩
              case rest =>
                clear HC19
                try clear c1
                try clear c2
                try clear p2
                try clear c4
                try clear c8
                try clear c8b0
                try clear c8b1
                try clear c14
                try clear c14b0
                try clear c14b1
                try clear c18
                try clear c20
                try clear c20b0
                try clear c20b1
                try clear c21
                try clear c21b0
                try clear c21b1
                try clear p2
                obtain ⟨kq, x47_18, rfl, HA, HJ18, HO_5, HB⟩ := hcut
                cases kq with
                | zero => exact absurd HA.out (by simp [ephemerislaw2_ChronTightests.j2])
                | succ kj18 =>
                  have H := HA.out
                  clear HA
                  simp only [ephemerislaw2_ChronTightests.j2] at H
                  by_cases c23 : x47_18 = true
                  · subst c23
                    have H1 : (if t242 = x7_16 then (if (t241.length : Int) = 0 then (some (x7_16 != 0)) else (some false)) else (some false)) = some r := by rw [if_pos rfl] at H; exact H
                    clear H
                    have H := H1
                    clear H1
                    by_cases c24 : t242 = x7_16
                    · rw [if_pos c24] at H
                      have c24b0 : (t242 == x7_16) = true := beq_iff_eq.mpr c24
                      have c24b1 : (t242 != x7_16) = false := bne_eq_false_iff_eq.mpr c24
                      clear c24
                      by_cases c25 : (t241.length : Int) = 0
                      · rw [if_pos c25] at H
                        have c25b0 : ((t241.length : Int) == 0) = true := beq_iff_eq.mpr c25
                        have c25b1 : ((t241.length : Int) != 0) = false := bne_eq_false_iff_eq.mpr c25
                        clear c25
                        obtain rfl := Option.some.inj H
                        simp only [Option.some.injEq, Prod.mk.injEq] at H
                        obtain ⟨rfl⟩ := H
                        obtain ⟨Ao26, co26, eo26⟩ := Kd.S_slice HO_5.out
                        subst eo26
                        go_wp2
                        repeat (go_quiet (fail); try go_wp2)
                        go_ret
                        exact ⟨by first | rfl | (simp [errW_none, errW_some] <;> rfl) | (simp [*, errW_none, errW_some] <;> rfl), by repeat (first | (with_reducible first | exact HB.out | apply below_alloc | apply pw_below_drewN | apply below_drew1) | exact HB.out)⟩
                      · rw [if_neg c25] at H
                        have c25b0 : ((t241.length : Int) == 0) = false := beq_eq_false_iff_ne.mpr c25
                        have c25b1 : ((t241.length : Int) != 0) = true := bne_iff_ne.mpr c25
                        have c25b2 : ¬ (t241 = []) := fun h_ => c25 (by rw [h_]; rfl)
                        obtain rfl := Option.some.inj H
                        exact absurd hT (by decide)
                    · rw [if_neg c24] at H
                      have c24b0 : (t242 == x7_16) = false := beq_eq_false_iff_ne.mpr c24
                      have c24b1 : (t242 != x7_16) = true := bne_iff_ne.mpr c24
                      obtain rfl := Option.some.inj H
                      exact absurd hT (by decide)
                  · replace c23 := Bool.eq_false_iff.mpr c23
                    subst c23
                    have H1 : (ephemerislaw2_ChronTightests.l0 kj18 a0 l1 t241 a0 0) = some r := by rw [if_neg (show ¬ (false = true) by decide)] at H; exact H
                    clear H
                    have H := H1
                    clear H1
                    have H' := Aside0.mk H
                    clear H
                    go_wp2
                    repeat (go_quiet (fail); try go_wp2)
                    go_loopg [61] kj18 (fun kq v61 w' => ∃ (x61_4 : Int), v61 = .int .i64 x61_4 ∧ Aside0 (ephemerislaw2_ChronTightests.l0 kq a0 l1 t241 a0 x61_4 = some r) ∧ Aside0 (kq ≤ kj18) ∧ Aside0 (Kd.S (Kd.slice 41 k41) 39 w' w.heap.size (fun _ => True) v243 t241) ∧ Aside0 (Below w.heap.size w w'))
                    case atStart => exact ⟨(0), (by first | rfl | (simp; done) | (simp [*]; done)), H', ⟨Nat.le_refl _⟩, ⟨by (with_reducible repeat (first | apply Kd.S_alloc | apply Kd.S_drewN | apply Kd.S_drew)); exact HO_5.out⟩, ⟨by repeat (first | (with_reducible first | exact HB.out | apply below_alloc | apply pw_below_drewN | apply below_drew1) | exact HB.out)⟩⟩
                    case round =>
                      clear H'
                      try clear c1
                      try clear c2
                      try clear p2
                      try clear c4
                      try clear c8
                      try clear c8b0
                      try clear c8b1
                      try clear c14
                      try clear c14b0
                      try clear c14b1
                      try clear c18
                      try clear c20
                      try clear c20b0
                      try clear c20b1
                      try clear c21
                      try clear c21b0
                      try clear c21b1
                      try clear c23
                      try clear c24
                      try clear c24b0
                      try clear c24b1
                      try clear c25
                      try clear c25b0
                      try clear c25b1
                      try clear c25b2
                      try clear p2
                      obtain ⟨x61_4, rfl, HA, HK4, HO_5, HB⟩ := hrel
                      cases gk with
                      | zero => exact absurd HA.out (by simp [ephemerislaw2_ChronTightests.l0])
                      | succ k4 =>
                        have H := HA.out
                        clear HA
                        simp only [ephemerislaw2_ChronTightests.l0] at H
                        by_cases c27 : x61_4 < a0
                        · rw [if_pos c27] at H
                          have c27b0 : decide (x61_4 < a0) = true := decide_eq_true c27
                          clear c27
                          replace H := Option.bind_eq_some_iff.mp H
                          obtain ⟨⟨t248, t249⟩, A280, H⟩ := H
                          replace H : (if 0 ≤ x61_4 then (if x61_4 < (t241.length : Int) then (if ((rd_L4 t241 x61_4).length : Int) = a0 then (ephemerislaw2_ChronTightests.l1 k4 a0 l1 t241 x61_4 t248 a0 x61_4 a0 0) else (some false)) else (none)) else (none)) = some r := H
                          have A28 := Aside0.mk A280
                          clear A280
                          by_cases c29 : 0 ≤ x61_4
                          · rw [if_pos c29] at H
                            have c29b0 : decide (0 ≤ x61_4) = true := decide_eq_true c29
                            clear c29
                            by_cases c30 : x61_4 < (t241.length : Int)
                            · rw [if_pos c30] at H
                              have c30b0 : decide (x61_4 < (t241.length : Int)) = true := decide_eq_true c30
                              clear c30
                              by_cases c31 : ((rd_L4 t241 x61_4).length : Int) = a0
                              · rw [if_pos c31] at H
                                have c31b0 : (((rd_L4 t241 x61_4).length : Int) == a0) = true := beq_iff_eq.mpr c31
                                have c31b1 : (((rd_L4 t241 x61_4).length : Int) != a0) = false := bne_eq_false_iff_eq.mpr c31
                                clear c31
                                have H' := Aside0.mk H
                                clear H
                                go_wp2_with (first | (go_at_call 14; (with_reducible refine (ephemerisref2_Longest.calls k4 a0 _ _ l1 x61_4 t248 t249 _ ?side1 ?side2 A28.out).mono ?_); (case side1 => repeat (first | exact (Kd.C_below HR1.out HB.out) | (with_reducible refine Kd.C_alloc ?_ _) | (with_reducible refine Kd.C_drewN ?_ _) | (with_reducible refine Kd.C_drew ?_))); (case side2 => exact HC1.out); rintro e w32 ⟨v250, rfl, ho0, hb⟩; have n0_ := Aside0.mk (Kd.S_below (by (with_reducible repeat (first | apply Kd.S_alloc | apply Kd.S_drewN | apply Kd.S_drew)); exact HO_5.out) hb); have n1_ := Aside0.mk (Kd.R_lower ho0 (below_size (by repeat (first | (with_reducible first | exact HB.out | apply below_alloc | apply pw_below_drewN | apply below_drew1) | exact HB.out)))); have n2_ := Aside0.mk (below_step (by repeat (first | (with_reducible first | exact HB.out | apply below_alloc | apply pw_below_drewN | apply below_drew1) | exact HB.out)) hb); clear HO_5; clear HB; have HO_5 := n0_; have HO251 := n1_; have HB := n2_; clear n0_ n1_ n2_; (try clear hb); (try clear hb2); (try clear hk); (try clear hi); (try clear ho0); obtain ⟨Ao33, co33, eo33⟩ := Kd.S_slice HO_5.out; subst eo33; have p252 : 0 ≤ (x61_4 : Int) := of_decide_eq_true (by first | (with_reducible assumption) | assumption); have q252 : x61_4 < (t241.length : Int) := of_decide_eq_true (by first | (with_reducible assumption) | assumption); obtain ⟨ad252, A252_0, c252_0, e252, hx252_0, hl252_0, hi252_0⟩ := at_L4 (Kd.S_reads' HO_5.out).2.2 x61_4 p252 q252; cases e252; obtain ⟨ce252, hce252, hMe252, hcc252⟩ := Kd.S_get HO_5.out [] x61_4 p252 (by first | exact q252 | exact of_decide_eq_true (by first | (with_reducible assumption) | assumption) | (have e_ := (Kd.S_reads' HO_5.out).1; omega)); obtain ⟨ve252_0, rfl, ge252_0⟩ := hMe252; have hv252_0 := hcc252 0 _ rfl; rw [Nat.add_zero, show ((Kd.slice 41 k41)).sz = 1 from rfl, Nat.mul_one] at hv252_0; replace hv252_0 := Option.some.inj (hv252_0.symm.trans hx252_0); rw [hv252_0] at ge252_0; have HL252_0 := Aside0.mk (show Kd.R k41 41 _ _ _ _ (rd_L4 t241 x61_4) from ge252_0); clear hv252_0 ge252_0; clear hcc252 hce252; have HR252_0 := Aside0.mk hi252_0; have HC252_0 := Aside0.mk hl252_0; clear hi252_0 hl252_0; replace p252 := eq_true p252; replace q252 := eq_true q252))
                                repeat (go_quiet (first | (go_at_call 14; (with_reducible refine (ephemerisref2_Longest.calls k4 a0 _ _ l1 x61_4 t248 t249 _ ?side1 ?side2 A28.out).mono ?_); (case side1 => repeat (first | exact (Kd.C_below HR1.out HB.out) | (with_reducible refine Kd.C_alloc ?_ _) | (with_reducible refine Kd.C_drewN ?_ _) | (with_reducible refine Kd.C_drew ?_))); (case side2 => exact HC1.out); rintro e w32 ⟨v250, rfl, ho0, hb⟩; have n0_ := Aside0.mk (Kd.S_below (by (with_reducible repeat (first | apply Kd.S_alloc | apply Kd.S_drewN | apply Kd.S_drew)); exact HO_5.out) hb); have n1_ := Aside0.mk (Kd.R_lower ho0 (below_size (by repeat (first | (with_reducible first | exact HB.out | apply below_alloc | apply pw_below_drewN | apply below_drew1) | exact HB.out)))); have n2_ := Aside0.mk (below_step (by repeat (first | (with_reducible first | exact HB.out | apply below_alloc | apply pw_below_drewN | apply below_drew1) | exact HB.out)) hb); clear HO_5; clear HB; have HO_5 := n0_; have HO251 := n1_; have HB := n2_; clear n0_ n1_ n2_; (try clear hb); (try clear hb2); (try clear hk); (try clear hi); (try clear ho0); obtain ⟨Ao33, co33, eo33⟩ := Kd.S_slice HO_5.out; subst eo33; have p252 : 0 ≤ (x61_4 : Int) := of_decide_eq_true (by first | (with_reducible assumption) | assumption); have q252 : x61_4 < (t241.length : Int) := of_decide_eq_true (by first | (with_reducible assumption) | assumption); obtain ⟨ad252, A252_0, c252_0, e252, hx252_0, hl252_0, hi252_0⟩ := at_L4 (Kd.S_reads' HO_5.out).2.2 x61_4 p252 q252; cases e252; obtain ⟨ce252, hce252, hMe252, hcc252⟩ := Kd.S_get HO_5.out [] x61_4 p252 (by first | exact q252 | exact of_decide_eq_true (by first | (with_reducible assumption) | assumption) | (have e_ := (Kd.S_reads' HO_5.out).1; omega)); obtain ⟨ve252_0, rfl, ge252_0⟩ := hMe252; have hv252_0 := hcc252 0 _ rfl; rw [Nat.add_zero, show ((Kd.slice 41 k41)).sz = 1 from rfl, Nat.mul_one] at hv252_0; replace hv252_0 := Option.some.inj (hv252_0.symm.trans hx252_0); rw [hv252_0] at ge252_0; have HL252_0 := Aside0.mk (show Kd.R k41 41 _ _ _ _ (rd_L4 t241 x61_4) from ge252_0); clear hv252_0 ge252_0; clear hcc252 hce252; have HR252_0 := Aside0.mk hi252_0; have HC252_0 := Aside0.mk hl252_0; clear hi252_0 hl252_0; replace p252 := eq_true p252; replace q252 := eq_true q252)); try go_wp2_with (first | (go_at_call 14; (with_reducible refine (ephemerisref2_Longest.calls k4 a0 _ _ l1 x61_4 t248 t249 _ ?side1 ?side2 A28.out).mono ?_); (case side1 => repeat (first | exact (Kd.C_below HR1.out HB.out) | (with_reducible refine Kd.C_alloc ?_ _) | (with_reducible refine Kd.C_drewN ?_ _) | (with_reducible refine Kd.C_drew ?_))); (case side2 => exact HC1.out); rintro e w32 ⟨v250, rfl, ho0, hb⟩; have n0_ := Aside0.mk (Kd.S_below (by (with_reducible repeat (first | apply Kd.S_alloc | apply Kd.S_drewN | apply Kd.S_drew)); exact HO_5.out) hb); have n1_ := Aside0.mk (Kd.R_lower ho0 (below_size (by repeat (first | (with_reducible first | exact HB.out | apply below_alloc | apply pw_below_drewN | apply below_drew1) | exact HB.out)))); have n2_ := Aside0.mk (below_step (by repeat (first | (with_reducible first | exact HB.out | apply below_alloc | apply pw_below_drewN | apply below_drew1) | exact HB.out)) hb); clear HO_5; clear HB; have HO_5 := n0_; have HO251 := n1_; have HB := n2_; clear n0_ n1_ n2_; (try clear hb); (try clear hb2); (try clear hk); (try clear hi); (try clear ho0); obtain ⟨Ao33, co33, eo33⟩ := Kd.S_slice HO_5.out; subst eo33; have p252 : 0 ≤ (x61_4 : Int) := of_decide_eq_true (by first | (with_reducible assumption) | assumption); have q252 : x61_4 < (t241.length : Int) := of_decide_eq_true (by first | (with_reducible assumption) | assumption); obtain ⟨ad252, A252_0, c252_0, e252, hx252_0, hl252_0, hi252_0⟩ := at_L4 (Kd.S_reads' HO_5.out).2.2 x61_4 p252 q252; cases e252; obtain ⟨ce252, hce252, hMe252, hcc252⟩ := Kd.S_get HO_5.out [] x61_4 p252 (by first | exact q252 | exact of_decide_eq_true (by first | (with_reducible assumption) | assumption) | (have e_ := (Kd.S_reads' HO_5.out).1; omega)); obtain ⟨ve252_0, rfl, ge252_0⟩ := hMe252; have hv252_0 := hcc252 0 _ rfl; rw [Nat.add_zero, show ((Kd.slice 41 k41)).sz = 1 from rfl, Nat.mul_one] at hv252_0; replace hv252_0 := Option.some.inj (hv252_0.symm.trans hx252_0); rw [hv252_0] at ge252_0; have HL252_0 := Aside0.mk (show Kd.R k41 41 _ _ _ _ (rd_L4 t241 x61_4) from ge252_0); clear hv252_0 ge252_0; clear hcc252 hce252; have HR252_0 := Aside0.mk hi252_0; have HC252_0 := Aside0.mk hl252_0; clear hi252_0 hl252_0; replace p252 := eq_true p252; replace q252 := eq_true q252)))
                                go_loopg [79] k4 (fun kq v79 w' => ∃ (x79_5 : Int), v79 = .int .i64 x79_5 ∧ Aside0 (ephemerislaw2_ChronTightests.l1 kq a0 l1 t241 x61_4 t248 a0 x61_4 a0 x79_5 = some r) ∧ Aside0 (kq ≤ k4) ∧ Aside0 (Kd.S (Kd.slice 41 k41) 39 w' w.heap.size (fun _ => True) (.slice (some ad252) t241.length co33) t241) ∧ Aside0 (Kd.R (Kd.int .i64) 3 w' w.heap.size (fun _ => True) v250 t248) ∧ Aside0 (Kd.C k41 w' A252_0 (rd_L4 t241 x61_4).length (rd_L4 t241 x61_4)) ∧ Aside0 (Below w.heap.size w w'))
                                case atStart => exact ⟨(0), (by first | rfl | (simp; done) | (simp [*]; done)), H', ⟨Nat.le_refl _⟩, ⟨by (with_reducible repeat (first | apply Kd.S_alloc | apply Kd.S_drewN | apply Kd.S_drew)); exact HO_5.out⟩, ⟨by (with_reducible repeat (first | apply Kd.R_alloc | apply Kd.R_drewN | apply Kd.R_drew)); exact HO251.out⟩, ⟨by repeat (first | (with_reducible exact HR252_0.out) | (with_reducible refine Kd.C_alloc ?_ _) | (with_reducible refine Kd.C_drewN ?_ _) | (with_reducible refine Kd.C_drew ?_) | exact HR252_0.out)⟩, ⟨by repeat (first | (with_reducible first | exact HB.out | apply below_alloc | apply pw_below_drewN | apply below_drew1) | exact HB.out)⟩⟩
                                case round =>
                                  clear H'
                                  try clear c1
                                  try clear c2
                                  try clear p2
                                  try clear q2
                                  try clear hx2
                                  try clear c3
                                  try clear c4
                                  try clear c8
                                  try clear c8b0
                                  try clear c8b1
                                  try clear c14
                                  try clear c14b0
                                  try clear c14b1
                                  try clear c18
                                  try clear c20
                                  try clear c20b0
                                  try clear c20b1
                                  try clear c21
                                  try clear c21b0
                                  try clear c21b1
                                  try clear c23
                                  try clear c24
                                  try clear c24b0
                                  try clear c24b1
                                  try clear c25
                                  try clear c25b0
                                  try clear c25b1
                                  try clear c25b2
                                  try clear p25
                                  try clear q25
                                  try clear hx25
                                  try clear c27
                                  try clear c27b0
                                  try clear c29
                                  try clear c29b0
                                  try clear c30
                                  try clear c30b0
                                  try clear c31
                                  try clear c31b0
                                  try clear c31b1
                                  try clear hx252_0
                                  try clear p2
                                  try clear p252
                                  try clear q252
                                  obtain ⟨x79_5, rfl, HA, HK5, HO_5, HO_9, HR252_0, HB⟩ := hrel
                                  cases gk with
                                  | zero => exact absurd HA.out (by simp [ephemerislaw2_ChronTightests.l1])
                                  | succ k5 =>
                                    have H := HA.out
                                    clear HA
                                    simp only [ephemerislaw2_ChronTightests.l1] at H
                                    by_cases c34 : x79_5 < a0
                                    · rw [if_pos c34] at H
                                      have c34b0 : decide (x79_5 < a0) = true := decide_eq_true c34
                                      clear c34
                                      by_cases c35 : 0 ≤ x79_5
                                      · rw [if_pos c35] at H
                                        have c35b0 : decide (0 ≤ x79_5) = true := decide_eq_true c35
                                        clear c35
                                        by_cases c36 : x79_5 < (t241.length : Int)
                                        · rw [if_pos c36] at H
                                          have c36b0 : decide (x79_5 < (t241.length : Int)) = true := decide_eq_true c36
                                          clear c36
                                          by_cases c37 : ((rd_L4 t241 x79_5).length : Int) = a0
                                          · rw [if_pos c37] at H
                                            have c37b0 : (((rd_L4 t241 x79_5).length : Int) == a0) = true := beq_iff_eq.mpr c37
                                            have c37b1 : (((rd_L4 t241 x79_5).length : Int) != a0) = false := bne_eq_false_iff_eq.mpr c37
                                            clear c37
                                            by_cases c38 : 0 ≤ x61_4
                                            · rw [if_pos c38] at H
                                              have c38b0 : decide (0 ≤ x61_4) = true := decide_eq_true c38
                                              clear c38
                                              by_cases c39 : x61_4 < (t241.length : Int)
                                              · rw [if_pos c39] at H
                                                have c39b0 : decide (x61_4 < (t241.length : Int)) = true := decide_eq_true c39
                                                clear c39
                                                by_cases c40 : x79_5 < ((rd_L4 t241 x61_4).length : Int)
                                                · rw [if_pos c40] at H
                                                  have c40b0 : decide (x79_5 < ((rd_L4 t241 x61_4).length : Int)) = true := decide_eq_true c40
                                                  clear c40
                                                  by_cases c41 : x79_5 < (t248.length : Int)
                                                  · rw [if_pos c41] at H
                                                    have c41b0 : decide (x79_5 < (t248.length : Int)) = true := decide_eq_true c41
                                                    clear c41
                                                    by_cases c42 : ((rd_T41 (rd_L4 t241 x61_4) x79_5).f1) = (rd t248 x79_5)
                                                    · rw [if_pos c42] at H
                                                      have c42b0 : (((rd_T41 (rd_L4 t241 x61_4) x79_5).f1) == (rd t248 x79_5)) = true := beq_iff_eq.mpr c42
                                                      have c42b1 : (((rd_T41 (rd_L4 t241 x61_4) x79_5).f1) != (rd t248 x79_5)) = false := bne_eq_false_iff_eq.mpr c42
                                                      clear c42
                                                      by_cases c43 : x61_4 < ((rd_L4 t241 x79_5).length : Int)
                                                      · rw [if_pos c43] at H
                                                        have c43b0 : decide (x61_4 < ((rd_L4 t241 x79_5).length : Int)) = true := decide_eq_true c43
                                                        clear c43
                                                        by_cases c44 : ((rd_T41 (rd_L4 t241 x79_5) x61_4).f0) = (wrap64 (-(rd t248 x79_5)))
                                                        · rw [if_pos c44] at H
                                                          have c44b0 : (((rd_T41 (rd_L4 t241 x79_5) x61_4).f0) == (wrap64 (-(rd t248 x79_5)))) = true := beq_iff_eq.mpr c44
                                                          have c44b1 : (((rd_T41 (rd_L4 t241 x79_5) x61_4).f0) != (wrap64 (-(rd t248 x79_5)))) = false := bne_eq_false_iff_eq.mpr c44
                                                          clear c44
                                                          have H' := Aside0.mk H
                                                          clear H
                                                          have p253 : 0 ≤ (x79_5 : Int) := of_decide_eq_true (by first | (with_reducible assumption) | assumption)
                                                          have q253 : x79_5 < (t241.length : Int) := of_decide_eq_true (by first | (with_reducible assumption) | assumption)
                                                          obtain ⟨ad253, A253_0, c253_0, e253, hx253_0, hl253_0, hi253_0⟩ := at_L4 (Kd.S_reads' HO_5.out).2.2 x79_5 p253 q253
                                                          obtain rfl : ad252 = ad253 := (by injection e253)
                                                          obtain ⟨ce253, hce253, hMe253, hcc253⟩ := Kd.S_get HO_5.out [] x79_5 p253 (by first | exact q253 | exact of_decide_eq_true (by first | (with_reducible assumption) | assumption) | (have e_ := (Kd.S_reads' HO_5.out).1; omega))
                                                          obtain ⟨ve253_0, rfl, ge253_0⟩ := hMe253
                                                          have hv253_0 := hcc253 0 _ rfl
                                                          rw [Nat.add_zero, show ((Kd.slice 41 k41)).sz = 1 from rfl, Nat.mul_one] at hv253_0
                                                          replace hv253_0 := Option.some.inj (hv253_0.symm.trans hx253_0)
                                                          rw [hv253_0] at ge253_0
                                                          have HL253_0 := Aside0.mk (show Kd.R k41 41 _ _ _ _ (rd_L4 t241 x79_5) from ge253_0)
                                                          clear hv253_0 ge253_0
                                                          clear hcc253 hce253
                                                          have HR253_0 := Aside0.mk hi253_0
                                                          have HC253_0 := Aside0.mk hl253_0
                                                          clear hi253_0 hl253_0
                                                          replace p253 := eq_true p253
                                                          replace q253 := eq_true q253
                                                          have p254 : 0 ≤ (x61_4 : Int) := of_decide_eq_true (by first | (with_reducible assumption) | assumption)
                                                          have q254 : x61_4 < (t241.length : Int) := of_decide_eq_true (by first | (with_reducible assumption) | assumption)
                                                          obtain ⟨ad254, A254_0, c254_0, e254, hx254_0, hl254_0, hi254_0⟩ := at_L4 (Kd.S_reads' HO_5.out).2.2 x61_4 p254 q254
                                                          obtain rfl : ad252 = ad254 := (by injection e254)
                                                          obtain ⟨ce254, hce254, hMe254, hcc254⟩ := Kd.S_get HO_5.out [] x61_4 p254 (by first | exact q254 | exact of_decide_eq_true (by first | (with_reducible assumption) | assumption) | (have e_ := (Kd.S_reads' HO_5.out).1; omega))
                                                          obtain ⟨ve254_0, rfl, ge254_0⟩ := hMe254
                                                          have hv254_0 := hcc254 0 _ rfl
                                                          rw [Nat.add_zero, show ((Kd.slice 41 k41)).sz = 1 from rfl, Nat.mul_one] at hv254_0
                                                          replace hv254_0 := Option.some.inj (hv254_0.symm.trans hx254_0)
                                                          rw [hv254_0] at ge254_0
                                                          have HL254_0 := Aside0.mk (show Kd.R k41 41 _ _ _ _ (rd_L4 t241 x61_4) from ge254_0)
                                                          clear hv254_0 ge254_0
                                                          clear hcc254 hce254
                                                          have HR254_0 := Aside0.mk hi254_0
                                                          have HC254_0 := Aside0.mk hl254_0
                                                          clear hi254_0 hl254_0
                                                          replace p254 := eq_true p254
                                                          replace q254 := eq_true q254
                                                          have p255 : 0 ≤ (x79_5 : Int) := of_decide_eq_true (by first | (with_reducible assumption) | assumption)
                                                          have q255 : x79_5 < ((rd_L4 t241 x61_4).length : Int) := of_decide_eq_true (by first | (with_reducible assumption) | assumption)
                                                          obtain ⟨ad255, e255, hx255_0, hx255_1⟩ := at_T41 (by repeat (first | (with_reducible exact HR254_0.out) | (with_reducible refine Kd.C_alloc ?_ _) | (with_reducible refine Kd.C_drewN ?_ _) | (with_reducible refine Kd.C_drew ?_) | exact HR254_0.out)) x79_5 p255 q255
                                                          cases e255
                                                          replace p255 := eq_true p255
                                                          replace q255 := eq_true q255
                                                          obtain ⟨Ao45, co45, eo45⟩ := Kd.R_slice HO_9.out
                                                          subst eo45
                                                          have p256 : 0 ≤ (x79_5 : Int) := of_decide_eq_true (by first | (with_reducible assumption) | assumption)
                                                          have q256 : x79_5 < (t248.length : Int) := of_decide_eq_true (by first | (with_reducible assumption) | assumption)
                                                          obtain ⟨ad256, e256, hx256_0⟩ := Kd.at_int (Kd.R_reads' HO_9.out).2.2 x79_5 p256 q256
                                                          cases e256
                                                          replace p256 := eq_true p256
                                                          replace q256 := eq_true q256
                                                          have p257 : 0 ≤ (x79_5 : Int) := of_decide_eq_true (by first | (with_reducible assumption) | assumption)
                                                          have q257 : x79_5 < (t241.length : Int) := of_decide_eq_true (by first | (with_reducible assumption) | assumption)
                                                          obtain ⟨ad257, A257_0, c257_0, e257, hx257_0, hl257_0, hi257_0⟩ := at_L4 (Kd.S_reads' HO_5.out).2.2 x79_5 p257 q257
                                                          obtain rfl : ad252 = ad257 := (by injection e257)
                                                          obtain ⟨ce257, hce257, hMe257, hcc257⟩ := Kd.S_get HO_5.out [] x79_5 p257 (by first | exact q257 | exact of_decide_eq_true (by first | (with_reducible assumption) | assumption) | (have e_ := (Kd.S_reads' HO_5.out).1; omega))
                                                          obtain ⟨ve257_0, rfl, ge257_0⟩ := hMe257
                                                          have hv257_0 := hcc257 0 _ rfl
                                                          rw [Nat.add_zero, show ((Kd.slice 41 k41)).sz = 1 from rfl, Nat.mul_one] at hv257_0
                                                          replace hv257_0 := Option.some.inj (hv257_0.symm.trans hx257_0)
                                                          rw [hv257_0] at ge257_0
                                                          have HL257_0 := Aside0.mk (show Kd.R k41 41 _ _ _ _ (rd_L4 t241 x79_5) from ge257_0)
                                                          clear hv257_0 ge257_0
                                                          clear hcc257 hce257
                                                          have HR257_0 := Aside0.mk hi257_0
                                                          have HC257_0 := Aside0.mk hl257_0
                                                          clear hi257_0 hl257_0
                                                          replace p257 := eq_true p257
                                                          replace q257 := eq_true q257
                                                          have ea_ := Option.some.inj (hx253_0.symm.trans hx257_0)
                                                          injection ea_ with ea_ en_ ec_
                                                          subst ea_
                                                          subst ec_
                                                          clear en_
                                                          have p258 : 0 ≤ (x61_4 : Int) := of_decide_eq_true (by first | (with_reducible assumption) | assumption)
                                                          have q258 : x61_4 < ((rd_L4 t241 x79_5).length : Int) := of_decide_eq_true (by first | (with_reducible assumption) | assumption)
                                                          obtain ⟨ad258, e258, hx258_0, hx258_1⟩ := at_T41 (by repeat (first | (with_reducible exact HR257_0.out) | (with_reducible refine Kd.C_alloc ?_ _) | (with_reducible refine Kd.C_drewN ?_ _) | (with_reducible refine Kd.C_drew ?_) | exact HR257_0.out)) x61_4 p258 q258
                                                          cases e258
                                                          replace p258 := eq_true p258
                                                          replace q258 := eq_true q258
                                                          have p259 : 0 ≤ (x79_5 : Int) := of_decide_eq_true (by first | (with_reducible assumption) | assumption)
                                                          have q259 : x79_5 < (t248.length : Int) := of_decide_eq_true (by first | (with_reducible assumption) | assumption)
                                                          obtain ⟨ad259, e259, hx259_0⟩ := Kd.at_int (Kd.R_reads' HO_9.out).2.2 x79_5 p259 q259
                                                          obtain rfl : ad256 = ad259 := (by injection e259)
                                                          replace p259 := eq_true p259
                                                          replace q259 := eq_true q259
                                                          go_wp2
                                                          repeat (go_quiet (fail); try go_wp2)
                                                          go_roundg k5
                                                          case measure => have := HJ8.out; have := HJ16.out; have := HJ18.out; have := HK4.out; have := HK5.out; omega
                                                          case rel => exact ⟨(wrap64 (x79_5 + 1)), (by first | rfl | (simp; done) | (simp [*]; done)), H', ⟨by have := HJ8.out; have := HJ16.out; have := HJ18.out; have := HK4.out; have := HK5.out; omega⟩, ⟨by (with_reducible repeat (first | apply Kd.S_alloc | apply Kd.S_drewN | apply Kd.S_drew)); exact HO_5.out⟩, ⟨by (with_reducible repeat (first | apply Kd.R_alloc | apply Kd.R_drewN | apply Kd.R_drew)); exact HO_9.out⟩, ⟨by repeat (first | (with_reducible exact HR252_0.out) | (with_reducible refine Kd.C_alloc ?_ _) | (with_reducible refine Kd.C_drewN ?_ _) | (with_reducible refine Kd.C_drew ?_) | exact HR252_0.out)⟩, ⟨by repeat (first | (with_reducible first | exact HB.out | apply below_alloc | apply pw_below_drewN | apply below_drew1) | exact HB.out)⟩⟩
                                                        · rw [if_neg c44] at H
                                                          have c44b0 : (((rd_T41 (rd_L4 t241 x79_5) x61_4).f0) == (wrap64 (-(rd t248 x79_5)))) = false := beq_eq_false_iff_ne.mpr c44
                                                          have c44b1 : (((rd_T41 (rd_L4 t241 x79_5) x61_4).f0) != (wrap64 (-(rd t248 x79_5)))) = true := bne_iff_ne.mpr c44
                                                          obtain rfl := Option.some.inj H
                                                          exact absurd hT (by decide)
                                                      · rw [if_neg c43] at H
                                                        exact absurd H (by simp)
                                                    · rw [if_neg c42] at H
                                                      have c42b0 : (((rd_T41 (rd_L4 t241 x61_4) x79_5).f1) == (rd t248 x79_5)) = false := beq_eq_false_iff_ne.mpr c42
                                                      have c42b1 : (((rd_T41 (rd_L4 t241 x61_4) x79_5).f1) != (rd t248 x79_5)) = true := bne_iff_ne.mpr c42
                                                      obtain rfl := Option.some.inj H
                                                      exact absurd hT (by decide)
                                                  · rw [if_neg c41] at H
                                                    exact absurd H (by simp)
                                                · rw [if_neg c40] at H
                                                  exact absurd H (by simp)
                                              · rw [if_neg c39] at H
                                                exact absurd H (by simp)
                                            · rw [if_neg c38] at H
                                              exact absurd H (by simp)
                                          · rw [if_neg c37] at H
                                            have c37b0 : (((rd_L4 t241 x79_5).length : Int) == a0) = false := beq_eq_false_iff_ne.mpr c37
                                            have c37b1 : (((rd_L4 t241 x79_5).length : Int) != a0) = true := bne_iff_ne.mpr c37
                                            obtain rfl := Option.some.inj H
                                            exact absurd hT (by decide)
                                        · rw [if_neg c36] at H
                                          exact absurd H (by simp)
                                      · rw [if_neg c35] at H
                                        exact absurd H (by simp)
                                    · rw [if_neg c34] at H
                                      have c34b0 : decide (x79_5 < a0) = false := decide_eq_false c34
                                      clear c34
                                      have H' := Aside0.mk H
                                      clear H
                                      go_wp2
                                      repeat (go_quiet (fail); try go_wp2)
                                      go_roundg k5
                                      case measure => have := HJ8.out; have := HJ16.out; have := HJ18.out; have := HK4.out; have := HK5.out; omega
                                      case rel => exact ⟨(wrap64 (x61_4 + 1)), (by first | rfl | (simp; done) | (simp [*]; done)), H', ⟨by have := HJ8.out; have := HJ16.out; have := HJ18.out; have := HK4.out; have := HK5.out; omega⟩, ⟨by (with_reducible repeat (first | apply Kd.S_alloc | apply Kd.S_drewN | apply Kd.S_drew)); exact HO_5.out⟩, ⟨by repeat (first | (with_reducible first | exact HB.out | apply below_alloc | apply pw_below_drewN | apply below_drew1) | exact HB.out)⟩⟩
                              · rw [if_neg c31] at H
                                have c31b0 : (((rd_L4 t241 x61_4).length : Int) == a0) = false := beq_eq_false_iff_ne.mpr c31
                                have c31b1 : (((rd_L4 t241 x61_4).length : Int) != a0) = true := bne_iff_ne.mpr c31
                                obtain rfl := Option.some.inj H
                                exact absurd hT (by decide)
                            · rw [if_neg c30] at H
                              exact absurd H (by simp)
                          · rw [if_neg c29] at H
                            exact absurd H (by simp)
                        · rw [if_neg c27] at H
                          have c27b0 : decide (x61_4 < a0) = false := decide_eq_false c27
                          clear c27
                          obtain rfl := Option.some.inj H
                          simp only [Option.some.injEq, Prod.mk.injEq] at H
                          obtain ⟨rfl⟩ := H
                          go_wp2
                          repeat (go_quiet (fail); try go_wp2)
                          go_ret
                          exact ⟨by first | rfl | (simp [errW_none, errW_some] <;> rfl) | (simp [*, errW_none, errW_some] <;> rfl), by repeat (first | (with_reducible first | exact HB.out | apply below_alloc | apply pw_below_drewN | apply below_drew1) | exact HB.out)⟩
    · rw [if_neg c8] at H
      have c8b0 : (t246 == t245) = false := beq_eq_false_iff_ne.mpr c8
      have c8b1 : (t246 != t245) = true := bne_iff_ne.mpr c8
      obtain rfl := Option.some.inj H
      exact absurd hT (by decide)
  · replace c4 := Bool.eq_false_iff.mpr c4
    subst c4
    have H1 : (some false) = some r := by rw [if_neg (show ¬ (false = true) by decide)] at H; exact H
    clear H
    have H := H1
    clear H1
    obtain rfl := Option.some.inj H
    exact absurd hT (by decide)
end Go.Proofs.Ytblidfmhlhhmkaa.PAll
end
