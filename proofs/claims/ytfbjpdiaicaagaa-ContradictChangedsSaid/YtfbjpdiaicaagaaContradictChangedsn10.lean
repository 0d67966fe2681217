/- Written by a program of this session out of the translation. -/
import Derived.Test.YtfbjpdiaicaagaaContradictChangedsn3
import Derived.Test.YtfbjpdiaicaagaaContradictChangedsn5
import Derived.Test.YtfbjpdiaicaagaaContradictChangedsn8
import Derived.Test.YtfbjpdiaicaagaaContradictChangedsn9
namespace Go.Proofs.Ytfbjpdiaicaagaa.PAll
open Go.RowKit Go.Proofs.YtfbjpdiaicaagaaW.PrintWords Go.Proofs.YtfbjpdiaicaagaaW.PrintLast Go.Proofs.YtfbjpdiaicaagaaW.PrintMore Go.Proofs.Ytfbjpdiaicaagaa.More2
attribute [local go_sem] max2_int min2_int max_two min_two max_three min_three max_four min_four tdiv2e18_ tdiv1e18_ cellSS_  -- for this text's walks alone
set_option linter.unusedVariables false
set_option linter.unusedSimpArgs false
attribute [local go_sem high] eqA35 eqA57
mutual
def ephemerislaw2_ContradictChangeds.j0 : Nat → Int → List (S57) → Int → List (List (S35)) → Int → List (List (S35)) → Option (Bool)
  | 0, _, _, _, _, _, _ => none
  | k + 1, x0, x7, x8, x9, x10, x12 => if x10 = 0 then (if (x9.length : Int) = x0 then (ephemerislaw2_ContradictChangeds.j1 k x0 x7 x8 x9 x10 x12 ((x12.length : Int) != x0)) else (ephemerislaw2_ContradictChangeds.j1 k x0 x7 x8 x9 x10 x12 true)) else (ephemerislaw2_ContradictChangeds.j1 k x0 x7 x8 x9 x10 x12 true)
def ephemerislaw2_ContradictChangeds.j1 : Nat → Int → List (S57) → Int → List (List (S35)) → Int → List (List (S35)) → Bool → Option (Bool)
  | 0, _, _, _, _, _, _, _ => none
  | k + 1, x0, x7, x8, x9, x10, x12, x60 => if x60 = true then (if x8 = x10 then (some ((x7.length : Int) == 0)) else (some false)) else (ephemerislaw2_ContradictChangeds.l0 k x0 x7 x8 x9 x12 0 x0 0)
def ephemerislaw2_ContradictChangeds.l0 : Nat → Int → List (S57) → Int → List (List (S35)) → List (List (S35)) → Int → Int → Int → Option (Bool)
  | 0, _, _, _, _, _, _, _, _ => none
  | k + 1, x0, x7, x8, x9, x12, x14, x69, x70 => if x70 < x69 then (ephemerislaw2_ContradictChangeds.l1 k x0 x7 x8 x9 x12 x14 x70 (wrap64 (x70 + 1)) x69 x70) else (if x8 = 0 then (some (x14 == (x7.length : Int))) else (some false))
def ephemerislaw2_ContradictChangeds.l1 : Nat → Int → List (S57) → Int → List (List (S35)) → List (List (S35)) → Int → Int → Int → Int → Int → Option (Bool)
  | 0, _, _, _, _, _, _, _, _, _, _ => none
  | k + 1, x0, x7, x8, x9, x12, x14, x15, x16, x69, x70 => if x16 < x0 then (if 0 ≤ x15 then (if x15 < (x9.length : Int) then (if ((rd_L4 x9 x15).length : Int) = x0 then (if x15 < (x12.length : Int) then (ephemerislaw2_ContradictChangeds.j4 k x0 x7 x8 x9 x12 x14 x15 x16 x69 x70 (((rd_L4 x12 x15).length : Int) != x0)) else (none)) else (ephemerislaw2_ContradictChangeds.j4 k x0 x7 x8 x9 x12 x14 x15 x16 x69 x70 true)) else (none)) else (none)) else (ephemerislaw2_ContradictChangeds.l0 k x0 x7 x8 x9 x12 x14 x69 (wrap64 (x70 + 1)))
def ephemerislaw2_ContradictChangeds.j4 : Nat → Int → List (S57) → Int → List (List (S35)) → List (List (S35)) → Int → Int → Int → Int → Int → Bool → Option (Bool)
  | 0, _, _, _, _, _, _, _, _, _, _, _ => none
  | k + 1, x0, x7, x8, x9, x12, x14, x15, x16, x69, x70, x95 => if x95 = true then (some false) else (if 0 ≤ x15 then (if x15 < (x9.length : Int) then (if 0 ≤ x16 then (if x16 < ((rd_L4 x9 x15).length : Int) then (if x15 < (x12.length : Int) then (if x16 < ((rd_L4 x12 x15).length : Int) then (if (!(((rd_T35 (rd_L4 x9 x15) x16).f0) == ((rd_T35 (rd_L4 x12 x15) x16).f0)) || (!(((rd_T35 (rd_L4 x9 x15) x16).f1) == ((rd_T35 (rd_L4 x12 x15) x16).f1)))) = true then (if x14 ≥ (x7.length : Int) then (some false) else (if 0 ≤ x14 then (if x14 < (x7.length : Int) then (if (!(((rd_T57 x7 x14).f0) == x15) || (!(((rd_T57 x7 x14).f1) == x16))) = true then (some false) else (ephemerislaw2_ContradictChangeds.l1 k x0 x7 x8 x9 x12 (wrap64 (x14 + 1)) x15 (wrap64 (x16 + 1)) x69 x70)) else (none)) else (none))) else (ephemerislaw2_ContradictChangeds.l1 k x0 x7 x8 x9 x12 x14 x15 (wrap64 (x16 + 1)) x69 x70)) else (none)) else (none)) else (none)) else (none)) else (none)) else (none))
end
def ephemerislaw2_ContradictChangeds.f (k : Nat) (a0 : Int) (l1 : List (S43)) (a2_0 : Int) (a2_1 : Int) (a2_2 : Int) (a2_3 : Int) : Option (Bool) := (ephemerislaw2_contradictWorks.f k).bind fun t417 => (if t417 = true then ((contradict_Changed.f k a0 l1 a2_0 a2_1 a2_2 a2_3).bind fun bt418 => ((chron_Tightest.f k a0 l1).bind fun bt422 => ((some (([] : List (S43)) : List (S43))).bind fun y426 => (if y426.length + l1.length < 4398046511104 then ((some (y426 ++ l1 : List (S43))).bind fun y429 => ((some (([(⟨a2_0, a2_1, a2_2, a2_3⟩ : S43)] : List (S43)) : List (S43))).bind fun y432 => (if y429.length + y432.length < 4398046511104 then ((chron_Tightest.f k a0 (y429 ++ y432)).bind fun bt438 => (if bt422.2 = 0 then (ephemerislaw2_ContradictChangeds.j0 k a0 bt418.1 bt418.2 bt422.1 bt438.2 bt438.1) else (ephemerislaw2_ContradictChangeds.j0 k a0 bt418.1 bt418.2 bt422.1 bt422.2 bt438.1))) else (none)))) else (none))))) else (some false))
def ephemerislaw2_ContradictChangeds.T20 : Bool × List (List Nat × List Nat) := (true, [([], []), ([], []), ([0, 1], [0, 1]), ([2], [2]), ([], []), ([3, 4], [3, 4]), ([5], [5]), ([], []), ([], []), ([7, 8], [7, 8]), ([9], [9]), ([], []), ([10, 11], [10, 11]), ([12], [12]), ([6, 13], [6, 13])])
def ephemerislaw2_ContradictChangeds.B20 : List Nat := [0, 0, 3, 7, 0, 31, 63, 0, 0, 384, 896, 0, 3968, 8064, 16383]
theorem ephemerislaw2_ContradictChangeds.tab20 : rtab .any (opsOf Try.f9 20) = ephemerislaw2_ContradictChangeds.T20 := by kernel_rfl
theorem ephemerislaw2_ContradictChangeds.bits20 : waitsOk ephemerislaw2_ContradictChangeds.T20.2 ephemerislaw2_ContradictChangeds.B20 = true := by kernel_rfl
set_option maxHeartbeats 8000000 in
set_option maxRecDepth 100000 in
theorem ephemerislaw2_ContradictChangeds.calls (k : Nat) (a0 : Int) (A1 : Option Addr) (c1 : Nat) (l1 : List (S43)) (a2_0 : Int) (a2_1 : Int) (a2_2 : Int) (a2_3 : Int) (r : Bool) (w : World) (hr1 : Kd.C k43 w A1 l1.length l1) (hc1 : l1.length ≤ c1) (h : ephemerislaw2_ContradictChangeds.f k a0 l1 a2_0 a2_1 a2_2 a2_3 = some r) (hT : r = true) :
    Calls Try.prog 9 #[.int .i64 a0, .slice A1 l1.length c1, .agg #[.int .i64 a2_0, .int .i64 a2_1, .int .i64 a2_2, .int .i64 a2_3]] w fun e w' => e = .returned (.bool r) ∧ Below w.heap.size w w' := by
  have hu43 := Try.underlying43
  have hu35 := Try.underlying35
  have hu57 := Try.underlying57
  have HR1 := Aside0.mk hr1
  have HC1 := Aside0.mk hc1
  clear hr1 hc1
  have HB := Aside0.mk (Below.refl w.heap.size w)
  have H : ((ephemerislaw2_contradictWorks.f k).bind fun t417 => (if t417 = true then ((contradict_Changed.f k a0 l1 a2_0 a2_1 a2_2 a2_3).bind fun bt418 => ((chron_Tightest.f k a0 l1).bind fun bt422 => ((some (([] : List (S43)) : List (S43))).bind fun y426 => (if y426.length + l1.length < 4398046511104 then ((some (y426 ++ l1 : List (S43))).bind fun y429 => ((some (([(⟨a2_0, a2_1, a2_2, a2_3⟩ : S43)] : List (S43)) : List (S43))).bind fun y432 => (if y429.length + y432.length < 4398046511104 then ((chron_Tightest.f k a0 (y429 ++ y432)).bind fun bt438 => (if bt422.2 = 0 then (ephemerislaw2_ContradictChangeds.j0 k a0 bt418.1 bt418.2 bt422.1 bt438.2 bt438.1) else (ephemerislaw2_ContradictChangeds.j0 k a0 bt418.1 bt418.2 bt422.1 bt422.2 bt438.1))) else (none)))) else (none))))) else (some false))) = some r := h
  clear h
  replace H := Option.bind_eq_some_iff.mp H
  obtain ⟨t417, A40, H⟩ := H
  replace H : (if t417 = true then ((contradict_Changed.f k a0 l1 a2_0 a2_1 a2_2 a2_3).bind fun bt418 => ((chron_Tightest.f k a0 l1).bind fun bt422 => ((some (([] : List (S43)) : List (S43))).bind fun y426 => (if y426.length + l1.length < 4398046511104 then ((some (y426 ++ l1 : List (S43))).bind fun y429 => ((some (([(⟨a2_0, a2_1, a2_2, a2_3⟩ : S43)] : List (S43)) : List (S43))).bind fun y432 => (if y429.length + y432.length < 4398046511104 then ((chron_Tightest.f k a0 (y429 ++ y432)).bind fun bt438 => (if bt422.2 = 0 then (ephemerislaw2_ContradictChangeds.j0 k a0 bt418.1 bt418.2 bt422.1 bt438.2 bt438.1) else (ephemerislaw2_ContradictChangeds.j0 k a0 bt418.1 bt418.2 bt422.1 bt422.2 bt438.1))) else (none)))) else (none))))) else (some false)) = some r := H
  have A4 := Aside0.mk A40
  clear A40
  by_cases c5 : t417 = true
  · subst c5
    have H1 : ((contradict_Changed.f k a0 l1 a2_0 a2_1 a2_2 a2_3).bind fun bt418 => ((chron_Tightest.f k a0 l1).bind fun bt422 => ((some (([] : List (S43)) : List (S43))).bind fun y426 => (if y426.length + l1.length < 4398046511104 then ((some (y426 ++ l1 : List (S43))).bind fun y429 => ((some (([(⟨a2_0, a2_1, a2_2, a2_3⟩ : S43)] : List (S43)) : List (S43))).bind fun y432 => (if y429.length + y432.length < 4398046511104 then ((chron_Tightest.f k a0 (y429 ++ y432)).bind fun bt438 => (if bt422.2 = 0 then (ephemerislaw2_ContradictChangeds.j0 k a0 bt418.1 bt418.2 bt422.1 bt438.2 bt438.1) else (ephemerislaw2_ContradictChangeds.j0 k a0 bt418.1 bt418.2 bt422.1 bt422.2 bt438.1))) else (none)))) else (none))))) = some r := by rw [if_pos rfl] at H; exact H
    clear H
    have H := H1
    clear H1
    replace H := Option.bind_eq_some_iff.mp H
    obtain ⟨⟨t418, t421⟩, A60, H⟩ := H
    replace H : ((chron_Tightest.f k a0 l1).bind fun bt422 => ((some (([] : List (S43)) : List (S43))).bind fun y426 => (if y426.length + l1.length < 4398046511104 then ((some (y426 ++ l1 : List (S43))).bind fun y429 => ((some (([(⟨a2_0, a2_1, a2_2, a2_3⟩ : S43)] : List (S43)) : List (S43))).bind fun y432 => (if y429.length + y432.length < 4398046511104 then ((chron_Tightest.f k a0 (y429 ++ y432)).bind fun bt438 => (if bt422.2 = 0 then (ephemerislaw2_ContradictChangeds.j0 k a0 t418 t421 bt422.1 bt438.2 bt438.1) else (ephemerislaw2_ContradictChangeds.j0 k a0 t418 t421 bt422.1 bt422.2 bt438.1))) else (none)))) else (none)))) = some r := H
    have A6 := Aside0.mk A60
    clear A60
    replace H := Option.bind_eq_some_iff.mp H
    obtain ⟨⟨t422, t423⟩, A70, H⟩ := H
    replace H : ((some (([] : List (S43)) : List (S43))).bind fun y426 => (if y426.length + l1.length < 4398046511104 then ((some (y426 ++ l1 : List (S43))).bind fun y429 => ((some (([(⟨a2_0, a2_1, a2_2, a2_3⟩ : S43)] : List (S43)) : List (S43))).bind fun y432 => (if y429.length + y432.length < 4398046511104 then ((chron_Tightest.f k a0 (y429 ++ y432)).bind fun bt438 => (if t423 = 0 then (ephemerislaw2_ContradictChangeds.j0 k a0 t418 t421 t422 bt438.2 bt438.1) else (ephemerislaw2_ContradictChangeds.j0 k a0 t418 t421 t422 t423 bt438.1))) else (none)))) else (none))) = some r := H
    have A7 := Aside0.mk A70
    clear A70
    obtain ⟨y426, hy426⟩ : ∃ y_ : List (S43), y_ = (([] : List (S43))) := ⟨_, rfl⟩
    replace H : (if y426.length + l1.length < 4398046511104 then ((some (y426 ++ l1 : List (S43))).bind fun y429 => ((some (([(⟨a2_0, a2_1, a2_2, a2_3⟩ : S43)] : List (S43)) : List (S43))).bind fun y432 => (if y429.length + y432.length < 4398046511104 then ((chron_Tightest.f k a0 (y429 ++ y432)).bind fun bt438 => (if t423 = 0 then (ephemerislaw2_ContradictChangeds.j0 k a0 t418 t421 t422 bt438.2 bt438.1) else (ephemerislaw2_ContradictChangeds.j0 k a0 t418 t421 t422 t423 bt438.1))) else (none)))) else (none)) = some r := by first | (rw [hy426]; with_reducible exact H) | (have H2_ := (Option.bind_some _ _).symm.trans H; rw [hy426]; with_reducible exact H2_) | (have H2_ := (Option.bind_some _ _).symm.trans H; with_reducible exact H2_) | with_reducible exact H | (rw [hy426]; exact H) | exact H
    have Ny426 := Aside0.mk hy426
    clear hy426
    by_cases c8 : y426.length + l1.length < 4398046511104
    · rw [if_pos c8] at H
      have LMc8 := Aside0.mk c8
      clear c8
      obtain ⟨y429, hy429⟩ : ∃ y_ : List (S43), y_ = (y426 ++ l1) := ⟨_, rfl⟩
      replace H : ((some (([(⟨a2_0, a2_1, a2_2, a2_3⟩ : S43)] : List (S43)) : List (S43))).bind fun y432 => (if y429.length + y432.length < 4398046511104 then ((chron_Tightest.f k a0 (y429 ++ y432)).bind fun bt438 => (if t423 = 0 then (ephemerislaw2_ContradictChangeds.j0 k a0 t418 t421 t422 bt438.2 bt438.1) else (ephemerislaw2_ContradictChangeds.j0 k a0 t418 t421 t422 t423 bt438.1))) else (none))) = some r := by first | (rw [hy429]; with_reducible exact H) | (have H2_ := (Option.bind_some _ _).symm.trans H; rw [hy429]; with_reducible exact H2_) | (have H2_ := (Option.bind_some _ _).symm.trans H; with_reducible exact H2_) | with_reducible exact H | (rw [hy429]; exact H) | exact H
      have Ny429 := Aside0.mk hy429
      clear hy429
      obtain ⟨y432, hy432⟩ : ∃ y_ : List (S43), y_ = (([(⟨a2_0, a2_1, a2_2, a2_3⟩ : S43)] : List (S43))) := ⟨_, rfl⟩
      replace H : (if y429.length + y432.length < 4398046511104 then ((chron_Tightest.f k a0 (y429 ++ y432)).bind fun bt438 => (if t423 = 0 then (ephemerislaw2_ContradictChangeds.j0 k a0 t418 t421 t422 bt438.2 bt438.1) else (ephemerislaw2_ContradictChangeds.j0 k a0 t418 t421 t422 t423 bt438.1))) else (none)) = some r := by first | (rw [hy432]; with_reducible exact H) | (have H2_ := (Option.bind_some _ _).symm.trans H; rw [hy432]; with_reducible exact H2_) | (have H2_ := (Option.bind_some _ _).symm.trans H; with_reducible exact H2_) | with_reducible exact H | (rw [hy432]; exact H) | exact H
      have Ny432 := Aside0.mk hy432
      clear hy432
      by_cases c9 : y429.length + y432.length < 4398046511104
      · rw [if_pos c9] at H
        have LMc9 := Aside0.mk c9
        clear c9
        obtain ⟨y435, hy435⟩ : ∃ y_ : List (S43), y_ = (y429 ++ y432) := ⟨_, rfl⟩
        replace H : ((chron_Tightest.f k a0 y435).bind fun bt438 => (if t423 = 0 then (ephemerislaw2_ContradictChangeds.j0 k a0 t418 t421 t422 bt438.2 bt438.1) else (ephemerislaw2_ContradictChangeds.j0 k a0 t418 t421 t422 t423 bt438.1))) = some r := by first | (rw [hy435]; with_reducible exact H) | (have H2_ := (Option.bind_some _ _).symm.trans H; rw [hy435]; with_reducible exact H2_) | (have H2_ := (Option.bind_some _ _).symm.trans H; with_reducible exact H2_) | with_reducible exact H | (rw [hy435]; exact H) | exact H
        have Ny435 := Aside0.mk hy435
        clear hy435
        replace H := Option.bind_eq_some_iff.mp H
        obtain ⟨⟨t438, t439⟩, A100, H⟩ := H
        replace H : (if t423 = 0 then (ephemerislaw2_ContradictChangeds.j0 k a0 t418 t421 t422 t439 t438) else (ephemerislaw2_ContradictChangeds.j0 k a0 t418 t421 t422 t423 t438)) = some r := H
        have A10 := Aside0.mk A100
        clear A100
        have HC11 := Aside0.mk H
        clear H
        go_enter Try.func9, Try.ntmps9
        try go_wp2_with (first | ((with_reducible refine gate_dst (N := 5) rfl ?_); (try (refine gate_guard (by rfl) ?_; dsimp only)); refine box_event ?hg (N := 5) ?hd (cs := #[.int .i64 a2_0, .int .i64 a2_1, .int .i64 a2_2, .int .i64 a2_3]) (t := 43) ?hr ?_; (case hd => rfl); (case hg => rfl); (case hr => first | (go_simp; done) | (go_simp; rfl)); intro gb416 hg w12 hbox hb; have n0_ := Aside0.mk (below_step (by repeat (first | (with_reducible first | exact HB.out | apply below_alloc | apply pw_below_drewN | apply below_drew1) | exact HB.out)) hb); have n1_ := Aside0.mk (hbox); have n2_ := Aside0.mk ((by rw [hg]; exact (below_size (by repeat (first | (with_reducible first | exact HB.out | apply below_alloc | apply pw_below_drewN | apply below_drew1) | exact HB.out))) : w.heap.size ≤ gb416)); have n3_ := Aside0.mk ((by rw [hg]; exact (below_size (by repeat (first | (with_reducible first | exact HB.out | apply below_alloc | apply pw_below_drewN | apply below_drew1) | exact HB.out))) : w.heap.size ≤ gb416)); clear HB; have HB := n0_; have BK416 := n1_; have GW416 := n2_; have GE416 := n3_; clear n0_ n1_ n2_ n3_; clear hb hbox hg) | ((with_reducible refine gate_callee (f := 19) rfl ?_); refine goesL_ (some 17) rfl rfl Try.func19 (by kernel_rfl) rfl #[] rfl (by (try simp only [List.map_toArray, List.map_cons, List.map_nil]); first | done | rfl | (simp only [List.length_drop, List.length_take]; rfl)) ?_; (with_reducible refine (ephemerislaw2_contradictWorks.calls k  true _ A4.out rfl).mono ?_); rintro e w13 ⟨rfl, hb⟩; refine ⟨_, rfl, ?_⟩; have n0_ := Aside0.mk (blk_below (g := gb416) (o := .cells #[.int .i64 a2_0, .int .i64 a2_1, .int .i64 a2_2, .int .i64 a2_3] 43 (0, 0)) (by (with_reducible repeat (first | refine blk_drewN ?_ _ | refine blk_drew ?_ | refine blk_alloc ?_ _)); exact BK416.out) hb); have n1_ := Aside0.mk (below_step (by repeat (first | (with_reducible first | exact HB.out | apply below_alloc | apply pw_below_drewN | apply below_drew1 | refine below_set ?_ GE416.out) | exact HB.out)) hb); clear BK416; clear HB; have BK416 := n0_; have HB := n1_; clear n0_ n1_; (try clear hb); (try clear hb2); (try clear hk); (try clear hi); have hcz14_0 : w13.cell? ⟨gb416, 0, none⟩ = some (.int .i64 a2_0) := (blk_cell BK416.out 0).trans rfl; have hcz14_1 : w13.cell? ⟨gb416, 1, none⟩ = some (.int .i64 a2_1) := (blk_cell BK416.out 1).trans rfl; have hcz14_2 : w13.cell? ⟨gb416, 2, none⟩ = some (.int .i64 a2_2) := (blk_cell BK416.out 2).trans rfl; have hcz14_3 : w13.cell? ⟨gb416, 3, none⟩ = some (.int .i64 a2_3) := (blk_cell BK416.out 3).trans rfl; have hfz14_0 := blk_frozen BK416.out 0; have hfz14_1 := blk_frozen BK416.out 1; have hfz14_2 := blk_frozen BK416.out 2; have hfz14_3 := blk_frozen BK416.out 3) | ((with_reducible refine gate_callee (f := 26) rfl ?_); refine goesL_ (some 23) rfl rfl Try.func26 (by kernel_rfl) rfl #[.int .i64 a0, .slice A1 l1.length c1, .agg #[.int .i64 a2_0, .int .i64 a2_1, .int .i64 a2_2, .int .i64 a2_3]] rfl (by (try simp only [List.map_toArray, List.map_cons, List.map_nil]); first | done | rfl | (simp only [List.length_drop, List.length_take]; rfl)) ?_; (with_reducible refine (contradict_Changed.calls k a0 _ _ l1 a2_0 a2_1 a2_2 a2_3 t418 t421 _ ?side1 ?side2 A6.out).mono ?_); (case side1 => repeat (first | exact (Kd.C_below HR1.out HB.out) | (with_reducible refine Kd.C_alloc ?_ _) | (with_reducible refine Kd.C_drewN ?_ _) | (with_reducible refine Kd.C_drew ?_))); (case side2 => exact HC1.out); rintro e w15 ⟨v419, rfl, ho0, hb⟩; refine ⟨_, rfl, ?_⟩; have n0_ := Aside0.mk (Kd.R_lower ho0 (below_size (by repeat (first | (with_reducible first | exact HB.out | apply below_alloc | apply pw_below_drewN | apply below_drew1 | refine below_set ?_ GE416.out) | exact HB.out)))); have n1_ := Aside0.mk (blk_below (g := gb416) (o := .cells #[.int .i64 a2_0, .int .i64 a2_1, .int .i64 a2_2, .int .i64 a2_3] 43 (0, 0)) (by (with_reducible repeat (first | refine blk_drewN ?_ _ | refine blk_drew ?_ | refine blk_alloc ?_ _)); exact BK416.out) hb); have n2_ := Aside0.mk (below_step (by repeat (first | (with_reducible first | exact HB.out | apply below_alloc | apply pw_below_drewN | apply below_drew1 | refine below_set ?_ GE416.out) | exact HB.out)) hb); clear BK416; clear HB; have HO420 := n0_; have BK416 := n1_; have HB := n2_; clear n0_ n1_ n2_; (try clear hb); (try clear hb2); (try clear hk); (try clear hi); (try clear ho0)) | ((with_reducible refine gate_callee (f := 11) rfl ?_); refine goesL_ (some 29) rfl rfl Try.func11 (by kernel_rfl) rfl #[.int .i64 a0, .slice A1 l1.length c1] rfl (by (try simp only [List.map_toArray, List.map_cons, List.map_nil]); first | done | rfl | (simp only [List.length_drop, List.length_take]; rfl)) ?_; (with_reducible refine (chron_Tightest.calls k a0 _ _ l1 t422 t423 _ ?side1 ?side2 A7.out).mono ?_); (case side1 => repeat (first | exact (Kd.C_below HR1.out HB.out) | (with_reducible refine Kd.C_alloc ?_ _) | (with_reducible refine Kd.C_drewN ?_ _) | (with_reducible refine Kd.C_drew ?_))); (case side2 => exact HC1.out); rintro e w16 ⟨v424, rfl, ho0, hb⟩; refine ⟨_, rfl, ?_⟩; have n0_ := Aside0.mk (Kd.R_below (by (with_reducible repeat (first | apply Kd.R_alloc | apply Kd.R_drewN | apply Kd.R_drew)); exact HO420.out) hb); have n1_ := Aside0.mk (Kd.S_lower ho0 (below_size (by repeat (first | (with_reducible first | exact HB.out | apply below_alloc | apply pw_below_drewN | apply below_drew1 | refine below_set ?_ GE416.out) | exact HB.out)))); have n2_ := Aside0.mk (blk_below (g := gb416) (o := .cells #[.int .i64 a2_0, .int .i64 a2_1, .int .i64 a2_2, .int .i64 a2_3] 43 (0, 0)) (by (with_reducible repeat (first | refine blk_drewN ?_ _ | refine blk_drew ?_ | refine blk_alloc ?_ _)); exact BK416.out) hb); have n3_ := Aside0.mk (below_step (by repeat (first | (with_reducible first | exact HB.out | apply below_alloc | apply pw_below_drewN | apply below_drew1 | refine below_set ?_ GE416.out) | exact HB.out)) hb); clear HO420; clear BK416; clear HB; have HO420 := n0_; have HO425 := n1_; have BK416 := n2_; have HB := n3_; clear n0_ n1_ n2_ n3_; (try clear hb); (try clear hb2); (try clear hk); (try clear hi); (try clear ho0)))
        have n0_ := Aside0.mk (Kd.R_drew HO420.out)
        have n1_ := Aside0.mk (Kd.S_drew HO425.out)
        have n2_ := Aside0.mk (blk_drew BK416.out)
        have n3_ := Aside0.mk (below_drew1 HB.out)
        clear HO420
        clear HO425
        clear BK416
        clear HB
        have HO420 := n0_
        have HO425 := n1_
        have BK416 := n2_
        have HB := n3_
        clear n0_ n1_ n2_ n3_
        refine start_ (n := 7) (S := fun w' => w'.cell? ⟨gb416, 0, none⟩ = some (.int .i64 a2_0) ∧ w'.cell? ⟨gb416, 1, none⟩ = some (.int .i64 a2_1) ∧ w'.cell? ⟨gb416, 2, none⟩ = some (.int .i64 a2_2) ∧ w'.cell? ⟨gb416, 3, none⟩ = some (.int .i64 a2_3)) (ds := []) #[false, false, false, false, false, false, false] (by kernel_rfl) rfl rfl ⟨(blk_cell BK416.out 0).trans rfl, (blk_cell BK416.out 1).trans rfl, (blk_cell BK416.out 2).trans rfl, (blk_cell BK416.out 3).trans rfl⟩ (fun hHeld => ?_)
        generalize w16.drew = w17 at HO420 HO425 BK416 HB hHeld ⊢
        refine pure_ (i := 1) (N := some 33) (v := ?_) (a' := ?_) #[false, true, false, false, false, false, false] rfl rfl (by kernel_rfl) (fun _ _ _ h => h) (Or.inl ⟨by rfl, ?_⟩) ?_ ?_
        rotate_left
        · intro w'
          go_simp
          with_reducible rfl
        rotate_left
        · simp only [Act.put, List.setIfInBounds_toArray, List.set_cons_zero, List.set_cons_succ, i64_w, i32_w]
          rfl
        refine take_ (i := 3) (N := some 35) (v := ?_) (a' := ?_) #[false, true, false, true, false, false, false] rfl rfl (by kernel_rfl) (fun _ _ _ h => h) (Or.inl ⟨by rfl, ?_⟩) hHeld ?_ ?_
        rotate_left
        · rintro w' ⟨s0, s1, s2, s3⟩
          go_simp
          with_reducible rfl
        rotate_left
        · simp only [Act.put, List.setIfInBounds_toArray, List.set_cons_zero, List.set_cons_succ, i64_w, i32_w]
          rfl
        refine join_ (σ := Value × Value × Value) 2 #[true, true, true, true, true, false, false] (fun s_ => [(32, s_.1), (34, s_.2.1), (36, s_.2.2)]) (fun s_ w' => (w'.cell? ⟨gb416, 0, none⟩ = some (.int .i64 a2_0) ∧ w'.cell? ⟨gb416, 1, none⟩ = some (.int .i64 a2_1) ∧ w'.cell? ⟨gb416, 2, none⟩ = some (.int .i64 a2_2) ∧ w'.cell? ⟨gb416, 3, none⟩ = some (.int .i64 a2_3)) ∧ (Kd.R k57 57 w' w.heap.size (fun _ => True) v419 t418) ∧ (Kd.S (Kd.slice 35 k35) 33 w' w.heap.size (fun _ => True) v424 t422) ∧ (Kd.R k43 43 w' w.heap.size (fun k_ => some k_ ≠ (s_.2.2 : Value).ownBlock ∧ k_ ≠ gb416) s_.2.1 y429) ∧ (Kd.R k43 43 w' w.heap.size (fun k_ => some k_ ≠ (s_.2.1 : Value).ownBlock ∧ k_ ≠ gb416) s_.2.2 y432) ∧ (w'.heap[gb416]? = some (.cells #[.int .i64 a2_0, .int .i64 a2_1, .int .i64 a2_2, .int .i64 a2_3] 43 (0, 0))) ∧ (Below w.heap.size w w')) ?_ ?_
        rotate_left
        · intro hCont
          refine two_ (i := 0) (j := 4) (Ni := some 32) (Nj := some 36) #[true, true, false, true, false, false, false] #[false, true, false, true, true, false, false] rfl rfl rfl rfl (by kernel_rfl) (by decide) (by decide) (fun K hK => ?_) (fun K hK => ?_)
          · skip
            refine Kd.R_lit_step k43 _ 43 ?hg (N := 32) ?hd (xs := ([] : List (S43))) (inner := []) (ok := fun _ => True) (okp := fun _ => True) ?hr ?hp (fun _ hk => hk) trivial (Below.refl _ _) (Nat.le_refl _) (by simp) ?_; (case hd => rfl); (case hg => rfl); (case hr => first | (go_simp; done) | (go_simp; rfl)); (case hp => exact (Reps.none _ _))
            intro v427 w18 ho19 hb hg_ hnew_
            clear hg_ hnew_
            (first | rw [← Ny426.out] at ho19 | (simp only [Int.reduceToNat] at ho19; rw [← Ny426.out] at ho19))
            have n0_ := Aside0.mk (Kd.R_below (by (with_reducible repeat (first | apply Kd.R_alloc | apply Kd.R_drewN | apply Kd.R_drew)); exact HO420.out) hb)
            have n1_ := Aside0.mk (Kd.S_below (by (with_reducible repeat (first | apply Kd.S_alloc | apply Kd.S_drewN | apply Kd.S_drew)); exact HO425.out) hb)
            have n2_ := Aside0.mk (Kd.R_lower (Kd.R_newB ho19 (g := gb416) (o := .cells #[.int .i64 a2_0, .int .i64 a2_1, .int .i64 a2_2, .int .i64 a2_3] 43 (0, 0)) (by (with_reducible repeat (first | refine blk_drewN ?_ _ | refine blk_drew ?_ | refine blk_alloc ?_ _)); exact BK416.out)) (below_size (by repeat (first | (with_reducible first | exact HB.out | apply below_alloc | apply pw_below_drewN | apply below_drew1 | refine below_set ?_ GE416.out) | exact HB.out))))
            have n3_ := Aside0.mk (blk_below (g := gb416) (o := .cells #[.int .i64 a2_0, .int .i64 a2_1, .int .i64 a2_2, .int .i64 a2_3] 43 (0, 0)) (by (with_reducible repeat (first | refine blk_drewN ?_ _ | refine blk_drew ?_ | refine blk_alloc ?_ _)); exact BK416.out) hb)
            have n4_ := Aside0.mk (below_step (by repeat (first | (with_reducible first | exact HB.out | apply below_alloc | apply pw_below_drewN | apply below_drew1 | refine below_set ?_ GE416.out) | exact HB.out)) hb)
            clear HO420
            clear HO425
            clear BK416
            clear HB
            have HO420 := n0_
            have HO425 := n1_
            have HO428 := n2_
            have BK416 := n3_
            have HB := n4_
            clear n0_ n1_ n2_ n3_ n4_
            clear hb ho19
            refine hK.out _ _ ⟨(blk_cell BK416.out 0).trans rfl, (blk_cell BK416.out 1).trans rfl, (blk_cell BK416.out 2).trans rfl, (blk_cell BK416.out 3).trans rfl⟩ (fun hHeld => ?_)
            clear hK K
            refine norm_ (a' := ?_) ?_ ?_
            rotate_left
            · show Act.put _ (some 32) _ = _
              simp only [Act.put, List.setIfInBounds_toArray, List.set_cons_zero, List.set_cons_succ, i64_w, i32_w]
              rfl
            refine two_ (i := 2) (j := 4) (Ni := some 34) (Nj := some 36) #[true, true, true, true, false, false, false] #[true, true, false, true, true, false, false] rfl rfl rfl rfl (by kernel_rfl) (by decide) (by decide) (fun K hK => ?_) (fun K hK => ?_)
            · skip
              refine Kd.R_append_rows_step k43 (w0 := w) w.heap.size (by rfl) (.tmp 32) (.tmp 33) 22 43 (.agg #[(.int .i64 0), (.int .i64 0), (.int .i64 0), (.int .i64 0)]) 32 rfl Try.underlying22 info43 rfl (by decide) (by omega) v427 y426 l1 _ _ _ (fun k_ => k_ ≠ gb416) (fun _ => False) rfl rfl ?aO ?aR (fun _ _ h => h) (fun _ h => h.elim) ?aF ?aB ?aS ?aL ?_
              (case aR => repeat (first | exact (Kd.C_below HR1.out HB.out) | (with_reducible refine Kd.C_alloc ?_ _) | (with_reducible refine Kd.C_drewN ?_ _) | (with_reducible refine Kd.C_drew ?_)))
              (case aB => exact (by repeat (first | (with_reducible first | exact HB.out | apply below_alloc | apply pw_below_drewN | apply below_drew1 | refine below_set ?_ GE416.out) | exact HB.out)))
              (case aF => exact (fun k_ hk => Kd.freshB (g := gb416) (o := .cells #[.int .i64 a2_0, .int .i64 a2_1, .int .i64 a2_2, .int .i64 a2_3] 43 (0, 0)) (by (with_reducible repeat (first | refine blk_drewN ?_ _ | refine blk_drew ?_ | refine blk_alloc ?_ _)); exact BK416.out) k_ hk))
              (case aO => exact (by (with_reducible repeat (first | apply Kd.R_alloc | apply Kd.R_drewN | apply Kd.R_drew)); exact Kd.R_mono HO428.out (fun _ hk => hk.2)))
              (case aS => exact (below_size (by repeat (first | (with_reducible first | exact HB.out | apply below_alloc | apply pw_below_drewN | apply below_drew1 | refine below_set ?_ GE416.out) | exact HB.out))))
              (case aL => have := LMc8.out; omega)
              intro v430 w20 ho hb hg hat
              rw [← Ny429.out] at ho
              have n0_ := Aside0.mk (blk_grown (g := gb416) (o := .cells #[.int .i64 a2_0, .int .i64 a2_1, .int .i64 a2_2, .int .i64 a2_3] 43 (0, 0)) (by (with_reducible repeat (first | refine blk_drewN ?_ _ | refine blk_drew ?_ | refine blk_alloc ?_ _)); exact BK416.out) hg (Kd.R_away HO428.out (fun _ hk => hk.2)))
              have n1_ := Aside0.mk (Kd.R_over' (by (with_reducible repeat (first | apply Kd.R_alloc | apply Kd.R_drewN | apply Kd.R_drew)); exact HO420.out) (Kd.R_typed (by (with_reducible repeat (first | apply Kd.R_alloc | apply Kd.R_drewN | apply Kd.R_drew)); exact HO428.out)) (by decide) hg)
              have n2_ := Aside0.mk (Kd.S_over' (by (with_reducible repeat (first | apply Kd.S_alloc | apply Kd.S_drewN | apply Kd.S_drew)); exact HO425.out) (Kd.R_typed (by (with_reducible repeat (first | apply Kd.R_alloc | apply Kd.R_drewN | apply Kd.R_drew)); exact HO428.out)) (by decide) hg)
              have n3_ := Aside0.mk (hb)
              have n4_ := Aside0.mk (ho)
              clear BK416
              clear HO420
              clear HO425
              clear HB
              clear HO428
              have BK416 := n0_
              have HO420 := n1_
              have HO425 := n2_
              have HB := n3_
              have HO431 := n4_
              clear n0_ n1_ n2_ n3_ n4_
              clear ho hb hg hat
              refine hK.out _ _ ⟨(blk_cell BK416.out 0).trans rfl, (blk_cell BK416.out 1).trans rfl, (blk_cell BK416.out 2).trans rfl, (blk_cell BK416.out 3).trans rfl⟩ (fun hHeld => ?_)
              clear hK K
              refine norm_ (a' := ?_) ?_ ?_
              rotate_left
              · show Act.put _ (some 34) _ = _
                simp only [Act.put, List.setIfInBounds_toArray, List.set_cons_zero, List.set_cons_succ, i64_w, i32_w]
                rfl
              refine one_ (i := 4) (N := some 36) #[true, true, true, true, true, false, false] rfl rfl (by kernel_rfl) (by decide) (fun K hK => ?_)
              refine Kd.R_lit_step k43 _ 43 ?hg (N := 36) ?hd (xs := ([(⟨a2_0, a2_1, a2_2, a2_3⟩ : S43)] : List (S43))) (inner := [.int .i64 a2_0, .int .i64 a2_1, .int .i64 a2_2, .int .i64 a2_3]) (ok := fun _ => True) (okp := fun _ => True) ?hr ?hp (fun _ hk => hk) trivial (Below.refl _ _) (Nat.le_refl _) (by simp) ?_; (case hd => rfl); (case hg => rfl); (case hr => first | (go_simp; done) | (go_simp; rfl)); (case hp => exact (Reps.c4 (show Kd.M k43 _ _ _ (⟨a2_0, a2_1, a2_2, a2_3⟩ : S43) [.int .i64 a2_0, .int .i64 a2_1, .int .i64 a2_2, .int .i64 a2_3] from (k43_mkM _ _ _ (⟨a2_0, a2_1, a2_2, a2_3⟩ : S43) )) (Reps.none _ _)))
              intro v433 w21 ho22 hb hg_ hnew_
              clear hg_ hnew_
              (first | rw [← Ny432.out] at ho22 | (simp only [Int.reduceToNat] at ho22; rw [← Ny432.out] at ho22))
              have n0_ := Aside0.mk (Kd.R_below (by (with_reducible repeat (first | apply Kd.R_alloc | apply Kd.R_drewN | apply Kd.R_drew)); exact HO420.out) hb)
              have n1_ := Aside0.mk (Kd.S_below (by (with_reducible repeat (first | apply Kd.S_alloc | apply Kd.S_drewN | apply Kd.S_drew)); exact HO425.out) hb)
              have n2_ := Aside0.mk (Kd.R_elder' (by (with_reducible repeat (first | apply Kd.R_alloc | apply Kd.R_drewN | apply Kd.R_drew)); exact HO431.out) (Kd.R_base ho22) hb)
              have n3_ := Aside0.mk (Kd.R_lower (Kd.R_newB (Kd.R_new' ho22 (Kd.R_lt (by (with_reducible repeat (first | apply Kd.R_alloc | apply Kd.R_drewN | apply Kd.R_drew)); exact HO431.out))) (g := gb416) (o := .cells #[.int .i64 a2_0, .int .i64 a2_1, .int .i64 a2_2, .int .i64 a2_3] 43 (0, 0)) (by (with_reducible repeat (first | refine blk_drewN ?_ _ | refine blk_drew ?_ | refine blk_alloc ?_ _)); exact BK416.out)) (below_size (by repeat (first | (with_reducible first | exact HB.out | apply below_alloc | apply pw_below_drewN | apply below_drew1 | refine below_set ?_ GE416.out) | exact HB.out))))
              have n4_ := Aside0.mk (blk_below (g := gb416) (o := .cells #[.int .i64 a2_0, .int .i64 a2_1, .int .i64 a2_2, .int .i64 a2_3] 43 (0, 0)) (by (with_reducible repeat (first | refine blk_drewN ?_ _ | refine blk_drew ?_ | refine blk_alloc ?_ _)); exact BK416.out) hb)
              have n5_ := Aside0.mk (below_step (by repeat (first | (with_reducible first | exact HB.out | apply below_alloc | apply pw_below_drewN | apply below_drew1 | refine below_set ?_ GE416.out) | exact HB.out)) hb)
              clear HO420
              clear HO425
              clear HO431
              clear BK416
              clear HB
              have HO420 := n0_
              have HO425 := n1_
              have HO431 := n2_
              have HO434 := n3_
              have BK416 := n4_
              have HB := n5_
              clear n0_ n1_ n2_ n3_ n4_ n5_
              clear hb ho22
              refine hK.out _ _ ⟨(blk_cell BK416.out 0).trans rfl, (blk_cell BK416.out 1).trans rfl, (blk_cell BK416.out 2).trans rfl, (blk_cell BK416.out 3).trans rfl⟩ (fun hHeld => ?_)
              clear hK K
              refine norm_ (a' := ?_) ?_ ?_
              rotate_left
              · show Act.put _ (some 36) _ = _
                simp only [Act.put, List.setIfInBounds_toArray, List.set_cons_zero, List.set_cons_succ, i64_w, i32_w]
                rfl
              exact norm_ (by simp only [putAll, Act.put, List.setIfInBounds_toArray, List.set_cons_zero, List.set_cons_succ]) (hCont (v427, v430, v433) _ ⟨hHeld, (by (with_reducible repeat (first | apply Kd.R_alloc | apply Kd.R_drewN | apply Kd.R_drew)); exact HO420.out), (by (with_reducible repeat (first | apply Kd.S_alloc | apply Kd.S_drewN | apply Kd.S_drew)); exact HO425.out), (by (with_reducible repeat (first | apply Kd.R_alloc | apply Kd.R_drewN | apply Kd.R_drew)); exact Kd.R_mono HO431.out (fun _ hk => ⟨hk.2, hk.1⟩)), (by (with_reducible repeat (first | apply Kd.R_alloc | apply Kd.R_drewN | apply Kd.R_drew)); exact Kd.R_mono HO434.out (fun _ hk => ⟨hk.1.2, hk.2⟩)), (by (with_reducible repeat (first | refine blk_drewN ?_ _ | refine blk_drew ?_ | refine blk_alloc ?_ _)); exact BK416.out), (by repeat (first | (with_reducible first | exact HB.out | apply below_alloc | apply pw_below_drewN | apply below_drew1 | refine below_set ?_ GE416.out) | exact HB.out))⟩)
            · skip
              refine Kd.R_lit_step k43 _ 43 ?hg (N := 36) ?hd (xs := ([(⟨a2_0, a2_1, a2_2, a2_3⟩ : S43)] : List (S43))) (inner := [.int .i64 a2_0, .int .i64 a2_1, .int .i64 a2_2, .int .i64 a2_3]) (ok := fun _ => True) (okp := fun _ => True) ?hr ?hp (fun _ hk => hk) trivial (Below.refl _ _) (Nat.le_refl _) (by simp) ?_; (case hd => rfl); (case hg => rfl); (case hr => first | (go_simp; done) | (go_simp; rfl)); (case hp => exact (Reps.c4 (show Kd.M k43 _ _ _ (⟨a2_0, a2_1, a2_2, a2_3⟩ : S43) [.int .i64 a2_0, .int .i64 a2_1, .int .i64 a2_2, .int .i64 a2_3] from (k43_mkM _ _ _ (⟨a2_0, a2_1, a2_2, a2_3⟩ : S43) )) (Reps.none _ _)))
              intro v433 w20 ho21 hb hg_ hnew_
              clear hg_ hnew_
              (first | rw [← Ny432.out] at ho21 | (simp only [Int.reduceToNat] at ho21; rw [← Ny432.out] at ho21))
              have n0_ := Aside0.mk (Kd.R_below (by (with_reducible repeat (first | apply Kd.R_alloc | apply Kd.R_drewN | apply Kd.R_drew)); exact HO420.out) hb)
              have n1_ := Aside0.mk (Kd.S_below (by (with_reducible repeat (first | apply Kd.S_alloc | apply Kd.S_drewN | apply Kd.S_drew)); exact HO425.out) hb)
              have n2_ := Aside0.mk (Kd.R_elder' (by (with_reducible repeat (first | apply Kd.R_alloc | apply Kd.R_drewN | apply Kd.R_drew)); exact HO428.out) (Kd.R_base ho21) hb)
              have n3_ := Aside0.mk (Kd.R_lower (Kd.R_newB (Kd.R_new' ho21 (Kd.R_lt (by (with_reducible repeat (first | apply Kd.R_alloc | apply Kd.R_drewN | apply Kd.R_drew)); exact HO428.out))) (g := gb416) (o := .cells #[.int .i64 a2_0, .int .i64 a2_1, .int .i64 a2_2, .int .i64 a2_3] 43 (0, 0)) (by (with_reducible repeat (first | refine blk_drewN ?_ _ | refine blk_drew ?_ | refine blk_alloc ?_ _)); exact BK416.out)) (below_size (by repeat (first | (with_reducible first | exact HB.out | apply below_alloc | apply pw_below_drewN | apply below_drew1 | refine below_set ?_ GE416.out) | exact HB.out))))
              have n4_ := Aside0.mk (blk_below (g := gb416) (o := .cells #[.int .i64 a2_0, .int .i64 a2_1, .int .i64 a2_2, .int .i64 a2_3] 43 (0, 0)) (by (with_reducible repeat (first | refine blk_drewN ?_ _ | refine blk_drew ?_ | refine blk_alloc ?_ _)); exact BK416.out) hb)
              have n5_ := Aside0.mk (below_step (by repeat (first | (with_reducible first | exact HB.out | apply below_alloc | apply pw_below_drewN | apply below_drew1 | refine below_set ?_ GE416.out) | exact HB.out)) hb)
              clear HO420
              clear HO425
              clear HO428
              clear BK416
              clear HB
              have HO420 := n0_
              have HO425 := n1_
              have HO428 := n2_
              have HO434 := n3_
              have BK416 := n4_
              have HB := n5_
              clear n0_ n1_ n2_ n3_ n4_ n5_
              clear hb ho21
              refine hK.out _ _ ⟨(blk_cell BK416.out 0).trans rfl, (blk_cell BK416.out 1).trans rfl, (blk_cell BK416.out 2).trans rfl, (blk_cell BK416.out 3).trans rfl⟩ (fun hHeld => ?_)
              clear hK K
              refine norm_ (a' := ?_) ?_ ?_
              rotate_left
              · show Act.put _ (some 36) _ = _
                simp only [Act.put, List.setIfInBounds_toArray, List.set_cons_zero, List.set_cons_succ, i64_w, i32_w]
                rfl
              refine one_ (i := 2) (N := some 34) #[true, true, true, true, true, false, false] rfl rfl (by kernel_rfl) (by decide) (fun K hK => ?_)
              refine Kd.R_append_rows_step k43 (w0 := w) w.heap.size (by rfl) (.tmp 32) (.tmp 33) 22 43 (.agg #[(.int .i64 0), (.int .i64 0), (.int .i64 0), (.int .i64 0)]) 32 rfl Try.underlying22 info43 rfl (by decide) (by omega) v427 y426 l1 _ _ _ (fun k_ => some k_ ≠ (v433 : Value).ownBlock ∧ k_ ≠ gb416) (fun _ => False) rfl rfl ?aO ?aR (fun _ _ h => h) (fun _ h => h.elim) ?aF ?aB ?aS ?aL ?_
              (case aR => repeat (first | exact (Kd.C_below HR1.out HB.out) | (with_reducible refine Kd.C_alloc ?_ _) | (with_reducible refine Kd.C_drewN ?_ _) | (with_reducible refine Kd.C_drew ?_)))
              (case aB => exact (by repeat (first | (with_reducible first | exact HB.out | apply below_alloc | apply pw_below_drewN | apply below_drew1 | refine below_set ?_ GE416.out) | exact HB.out)))
              (case aF => exact (fun k_ hk => ⟨Kd.fresh' (Kd.R_lt (by (with_reducible repeat (first | apply Kd.R_alloc | apply Kd.R_drewN | apply Kd.R_drew)); exact HO434.out)) k_ hk, Kd.freshB (g := gb416) (o := .cells #[.int .i64 a2_0, .int .i64 a2_1, .int .i64 a2_2, .int .i64 a2_3] 43 (0, 0)) (by (with_reducible repeat (first | refine blk_drewN ?_ _ | refine blk_drew ?_ | refine blk_alloc ?_ _)); exact BK416.out) k_ hk⟩))
              (case aO => exact (by (with_reducible repeat (first | apply Kd.R_alloc | apply Kd.R_drewN | apply Kd.R_drew)); exact Kd.R_mono HO428.out (fun _ hk => ⟨hk.2, hk.1.2⟩)))
              (case aS => exact (below_size (by repeat (first | (with_reducible first | exact HB.out | apply below_alloc | apply pw_below_drewN | apply below_drew1 | refine below_set ?_ GE416.out) | exact HB.out))))
              (case aL => have := LMc8.out; omega)
              intro v430 w22 ho hb hg hat
              rw [← Ny429.out] at ho
              have n0_ := Aside0.mk (blk_grown (g := gb416) (o := .cells #[.int .i64 a2_0, .int .i64 a2_1, .int .i64 a2_2, .int .i64 a2_3] 43 (0, 0)) (by (with_reducible repeat (first | refine blk_drewN ?_ _ | refine blk_drew ?_ | refine blk_alloc ?_ _)); exact BK416.out) hg (Kd.R_away HO428.out (fun _ hk => hk.1.2)))
              have n1_ := Aside0.mk (Kd.R_over' (by (with_reducible repeat (first | apply Kd.R_alloc | apply Kd.R_drewN | apply Kd.R_drew)); exact HO420.out) (Kd.R_typed (by (with_reducible repeat (first | apply Kd.R_alloc | apply Kd.R_drewN | apply Kd.R_drew)); exact HO428.out)) (by decide) hg)
              have n2_ := Aside0.mk (Kd.S_over' (by (with_reducible repeat (first | apply Kd.S_alloc | apply Kd.S_drewN | apply Kd.S_drew)); exact HO425.out) (Kd.R_typed (by (with_reducible repeat (first | apply Kd.R_alloc | apply Kd.R_drewN | apply Kd.R_drew)); exact HO428.out)) (by decide) hg)
              have n3_ := Aside0.mk (Kd.R_after (ok := (fun k_ => k_ ≠ gb416)) (by (with_reducible repeat (first | apply Kd.R_alloc | apply Kd.R_drewN | apply Kd.R_drew)); exact Kd.R_mono HO434.out (fun _ hk => ⟨hk.2, hk.1.2⟩)) hg hat)
              have n4_ := Aside0.mk (hb)
              have n5_ := Aside0.mk (ho)
              clear BK416
              clear HO420
              clear HO425
              clear HO434
              clear HB
              clear HO428
              have BK416 := n0_
              have HO420 := n1_
              have HO425 := n2_
              have HO434 := n3_
              have HB := n4_
              have HO431 := n5_
              clear n0_ n1_ n2_ n3_ n4_ n5_
              clear ho hb hg hat
              refine hK.out _ _ ⟨(blk_cell BK416.out 0).trans rfl, (blk_cell BK416.out 1).trans rfl, (blk_cell BK416.out 2).trans rfl, (blk_cell BK416.out 3).trans rfl⟩ (fun hHeld => ?_)
              clear hK K
              refine norm_ (a' := ?_) ?_ ?_
              rotate_left
              · show Act.put _ (some 34) _ = _
                simp only [Act.put, List.setIfInBounds_toArray, List.set_cons_zero, List.set_cons_succ, i64_w, i32_w]
                rfl
              exact norm_ (by simp only [putAll, Act.put, List.setIfInBounds_toArray, List.set_cons_zero, List.set_cons_succ]) (hCont (v427, v430, v433) _ ⟨hHeld, (by (with_reducible repeat (first | apply Kd.R_alloc | apply Kd.R_drewN | apply Kd.R_drew)); exact HO420.out), (by (with_reducible repeat (first | apply Kd.S_alloc | apply Kd.S_drewN | apply Kd.S_drew)); exact HO425.out), (by (with_reducible repeat (first | apply Kd.R_alloc | apply Kd.R_drewN | apply Kd.R_drew)); exact HO431.out), (by (with_reducible repeat (first | apply Kd.R_alloc | apply Kd.R_drewN | apply Kd.R_drew)); exact Kd.R_mono HO434.out (fun _ hk => ⟨hk.2, hk.1⟩)), (by (with_reducible repeat (first | refine blk_drewN ?_ _ | refine blk_drew ?_ | refine blk_alloc ?_ _)); exact BK416.out), (by repeat (first | (with_reducible first | exact HB.out | apply below_alloc | apply pw_below_drewN | apply below_drew1 | refine below_set ?_ GE416.out) | exact HB.out))⟩)
          · skip
            refine Kd.R_lit_step k43 _ 43 ?hg (N := 36) ?hd (xs := ([(⟨a2_0, a2_1, a2_2, a2_3⟩ : S43)] : List (S43))) (inner := [.int .i64 a2_0, .int .i64 a2_1, .int .i64 a2_2, .int .i64 a2_3]) (ok := fun _ => True) (okp := fun _ => True) ?hr ?hp (fun _ hk => hk) trivial (Below.refl _ _) (Nat.le_refl _) (by simp) ?_; (case hd => rfl); (case hg => rfl); (case hr => first | (go_simp; done) | (go_simp; rfl)); (case hp => exact (Reps.c4 (show Kd.M k43 _ _ _ (⟨a2_0, a2_1, a2_2, a2_3⟩ : S43) [.int .i64 a2_0, .int .i64 a2_1, .int .i64 a2_2, .int .i64 a2_3] from (k43_mkM _ _ _ (⟨a2_0, a2_1, a2_2, a2_3⟩ : S43) )) (Reps.none _ _)))
            intro v433 w18 ho19 hb hg_ hnew_
            clear hg_ hnew_
            (first | rw [← Ny432.out] at ho19 | (simp only [Int.reduceToNat] at ho19; rw [← Ny432.out] at ho19))
            have n0_ := Aside0.mk (Kd.R_below (by (with_reducible repeat (first | apply Kd.R_alloc | apply Kd.R_drewN | apply Kd.R_drew)); exact HO420.out) hb)
            have n1_ := Aside0.mk (Kd.S_below (by (with_reducible repeat (first | apply Kd.S_alloc | apply Kd.S_drewN | apply Kd.S_drew)); exact HO425.out) hb)
            have n2_ := Aside0.mk (Kd.R_lower (Kd.R_newB ho19 (g := gb416) (o := .cells #[.int .i64 a2_0, .int .i64 a2_1, .int .i64 a2_2, .int .i64 a2_3] 43 (0, 0)) (by (with_reducible repeat (first | refine blk_drewN ?_ _ | refine blk_drew ?_ | refine blk_alloc ?_ _)); exact BK416.out)) (below_size (by repeat (first | (with_reducible first | exact HB.out | apply below_alloc | apply pw_below_drewN | apply below_drew1 | refine below_set ?_ GE416.out) | exact HB.out))))
            have n3_ := Aside0.mk (blk_below (g := gb416) (o := .cells #[.int .i64 a2_0, .int .i64 a2_1, .int .i64 a2_2, .int .i64 a2_3] 43 (0, 0)) (by (with_reducible repeat (first | refine blk_drewN ?_ _ | refine blk_drew ?_ | refine blk_alloc ?_ _)); exact BK416.out) hb)
            have n4_ := Aside0.mk (below_step (by repeat (first | (with_reducible first | exact HB.out | apply below_alloc | apply pw_below_drewN | apply below_drew1 | refine below_set ?_ GE416.out) | exact HB.out)) hb)
            clear HO420
            clear HO425
            clear BK416
            clear HB
            have HO420 := n0_
            have HO425 := n1_
            have HO434 := n2_
            have BK416 := n3_
            have HB := n4_
            clear n0_ n1_ n2_ n3_ n4_
            clear hb ho19
            refine hK.out _ _ ⟨(blk_cell BK416.out 0).trans rfl, (blk_cell BK416.out 1).trans rfl, (blk_cell BK416.out 2).trans rfl, (blk_cell BK416.out 3).trans rfl⟩ (fun hHeld => ?_)
            clear hK K
            refine norm_ (a' := ?_) ?_ ?_
            rotate_left
            · show Act.put _ (some 36) _ = _
              simp only [Act.put, List.setIfInBounds_toArray, List.set_cons_zero, List.set_cons_succ, i64_w, i32_w]
              rfl
            refine one_ (i := 0) (N := some 32) #[true, true, false, true, true, false, false] rfl rfl (by kernel_rfl) (by decide) (fun K hK => ?_)
            refine Kd.R_lit_step k43 _ 43 ?hg (N := 32) ?hd (xs := ([] : List (S43))) (inner := []) (ok := fun _ => True) (okp := fun _ => True) ?hr ?hp (fun _ hk => hk) trivial (Below.refl _ _) (Nat.le_refl _) (by simp) ?_; (case hd => rfl); (case hg => rfl); (case hr => first | (go_simp; done) | (go_simp; rfl)); (case hp => exact (Reps.none _ _))
            intro v427 w20 ho21 hb hg_ hnew_
            clear hg_ hnew_
            (first | rw [← Ny426.out] at ho21 | (simp only [Int.reduceToNat] at ho21; rw [← Ny426.out] at ho21))
            have n0_ := Aside0.mk (Kd.R_below (by (with_reducible repeat (first | apply Kd.R_alloc | apply Kd.R_drewN | apply Kd.R_drew)); exact HO420.out) hb)
            have n1_ := Aside0.mk (Kd.S_below (by (with_reducible repeat (first | apply Kd.S_alloc | apply Kd.S_drewN | apply Kd.S_drew)); exact HO425.out) hb)
            have n2_ := Aside0.mk (Kd.R_elder' (by (with_reducible repeat (first | apply Kd.R_alloc | apply Kd.R_drewN | apply Kd.R_drew)); exact HO434.out) (Kd.R_base ho21) hb)
            have n3_ := Aside0.mk (Kd.R_lower (Kd.R_newB (Kd.R_new' ho21 (Kd.R_lt (by (with_reducible repeat (first | apply Kd.R_alloc | apply Kd.R_drewN | apply Kd.R_drew)); exact HO434.out))) (g := gb416) (o := .cells #[.int .i64 a2_0, .int .i64 a2_1, .int .i64 a2_2, .int .i64 a2_3] 43 (0, 0)) (by (with_reducible repeat (first | refine blk_drewN ?_ _ | refine blk_drew ?_ | refine blk_alloc ?_ _)); exact BK416.out)) (below_size (by repeat (first | (with_reducible first | exact HB.out | apply below_alloc | apply pw_below_drewN | apply below_drew1 | refine below_set ?_ GE416.out) | exact HB.out))))
            have n4_ := Aside0.mk (blk_below (g := gb416) (o := .cells #[.int .i64 a2_0, .int .i64 a2_1, .int .i64 a2_2, .int .i64 a2_3] 43 (0, 0)) (by (with_reducible repeat (first | refine blk_drewN ?_ _ | refine blk_drew ?_ | refine blk_alloc ?_ _)); exact BK416.out) hb)
            have n5_ := Aside0.mk (below_step (by repeat (first | (with_reducible first | exact HB.out | apply below_alloc | apply pw_below_drewN | apply below_drew1 | refine below_set ?_ GE416.out) | exact HB.out)) hb)
            clear HO420
            clear HO425
            clear HO434
            clear BK416
            clear HB
            have HO420 := n0_
            have HO425 := n1_
            have HO434 := n2_
            have HO428 := n3_
            have BK416 := n4_
            have HB := n5_
            clear n0_ n1_ n2_ n3_ n4_ n5_
            clear hb ho21
            refine hK.out _ _ ⟨(blk_cell BK416.out 0).trans rfl, (blk_cell BK416.out 1).trans rfl, (blk_cell BK416.out 2).trans rfl, (blk_cell BK416.out 3).trans rfl⟩ (fun hHeld => ?_)
            clear hK K
            refine norm_ (a' := ?_) ?_ ?_
            rotate_left
            · show Act.put _ (some 32) _ = _
              simp only [Act.put, List.setIfInBounds_toArray, List.set_cons_zero, List.set_cons_succ, i64_w, i32_w]
              rfl
            refine one_ (i := 2) (N := some 34) #[true, true, true, true, true, false, false] rfl rfl (by kernel_rfl) (by decide) (fun K hK => ?_)
            refine Kd.R_append_rows_step k43 (w0 := w) w.heap.size (by rfl) (.tmp 32) (.tmp 33) 22 43 (.agg #[(.int .i64 0), (.int .i64 0), (.int .i64 0), (.int .i64 0)]) 32 rfl Try.underlying22 info43 rfl (by decide) (by omega) v427 y426 l1 _ _ _ (fun k_ => some k_ ≠ (v433 : Value).ownBlock ∧ k_ ≠ gb416) (fun _ => False) rfl rfl ?aO ?aR (fun _ _ h => h) (fun _ h => h.elim) ?aF ?aB ?aS ?aL ?_
            (case aR => repeat (first | exact (Kd.C_below HR1.out HB.out) | (with_reducible refine Kd.C_alloc ?_ _) | (with_reducible refine Kd.C_drewN ?_ _) | (with_reducible refine Kd.C_drew ?_)))
            (case aB => exact (by repeat (first | (with_reducible first | exact HB.out | apply below_alloc | apply pw_below_drewN | apply below_drew1 | refine below_set ?_ GE416.out) | exact HB.out)))
            (case aF => exact (fun k_ hk => ⟨Kd.fresh' (Kd.R_lt (by (with_reducible repeat (first | apply Kd.R_alloc | apply Kd.R_drewN | apply Kd.R_drew)); exact HO434.out)) k_ hk, Kd.freshB (g := gb416) (o := .cells #[.int .i64 a2_0, .int .i64 a2_1, .int .i64 a2_2, .int .i64 a2_3] 43 (0, 0)) (by (with_reducible repeat (first | refine blk_drewN ?_ _ | refine blk_drew ?_ | refine blk_alloc ?_ _)); exact BK416.out) k_ hk⟩))
            (case aO => exact (by (with_reducible repeat (first | apply Kd.R_alloc | apply Kd.R_drewN | apply Kd.R_drew)); exact Kd.R_mono HO428.out (fun _ hk => ⟨hk.1.2, hk.2⟩)))
            (case aS => exact (below_size (by repeat (first | (with_reducible first | exact HB.out | apply below_alloc | apply pw_below_drewN | apply below_drew1 | refine below_set ?_ GE416.out) | exact HB.out))))
            (case aL => have := LMc8.out; omega)
            intro v430 w22 ho hb hg hat
            rw [← Ny429.out] at ho
            have n0_ := Aside0.mk (blk_grown (g := gb416) (o := .cells #[.int .i64 a2_0, .int .i64 a2_1, .int .i64 a2_2, .int .i64 a2_3] 43 (0, 0)) (by (with_reducible repeat (first | refine blk_drewN ?_ _ | refine blk_drew ?_ | refine blk_alloc ?_ _)); exact BK416.out) hg (Kd.R_away HO428.out (fun _ hk => hk.2)))
            have n1_ := Aside0.mk (Kd.R_over' (by (with_reducible repeat (first | apply Kd.R_alloc | apply Kd.R_drewN | apply Kd.R_drew)); exact HO420.out) (Kd.R_typed (by (with_reducible repeat (first | apply Kd.R_alloc | apply Kd.R_drewN | apply Kd.R_drew)); exact HO428.out)) (by decide) hg)
            have n2_ := Aside0.mk (Kd.S_over' (by (with_reducible repeat (first | apply Kd.S_alloc | apply Kd.S_drewN | apply Kd.S_drew)); exact HO425.out) (Kd.R_typed (by (with_reducible repeat (first | apply Kd.R_alloc | apply Kd.R_drewN | apply Kd.R_drew)); exact HO428.out)) (by decide) hg)
            have n3_ := Aside0.mk (Kd.R_after (ok := (fun k_ => k_ ≠ gb416)) (by (with_reducible repeat (first | apply Kd.R_alloc | apply Kd.R_drewN | apply Kd.R_drew)); exact Kd.R_mono HO434.out (fun _ hk => ⟨hk.1.2, hk.2⟩)) hg hat)
            have n4_ := Aside0.mk (hb)
            have n5_ := Aside0.mk (ho)
            clear BK416
            clear HO420
            clear HO425
            clear HO434
            clear HB
            clear HO428
            have BK416 := n0_
            have HO420 := n1_
            have HO425 := n2_
            have HO434 := n3_
            have HB := n4_
            have HO431 := n5_
            clear n0_ n1_ n2_ n3_ n4_ n5_
            clear ho hb hg hat
            refine hK.out _ _ ⟨(blk_cell BK416.out 0).trans rfl, (blk_cell BK416.out 1).trans rfl, (blk_cell BK416.out 2).trans rfl, (blk_cell BK416.out 3).trans rfl⟩ (fun hHeld => ?_)
            clear hK K
            refine norm_ (a' := ?_) ?_ ?_
            rotate_left
            · show Act.put _ (some 34) _ = _
              simp only [Act.put, List.setIfInBounds_toArray, List.set_cons_zero, List.set_cons_succ, i64_w, i32_w]
              rfl
            exact norm_ (by simp only [putAll, Act.put, List.setIfInBounds_toArray, List.set_cons_zero, List.set_cons_succ]) (hCont (v427, v430, v433) _ ⟨hHeld, (by (with_reducible repeat (first | apply Kd.R_alloc | apply Kd.R_drewN | apply Kd.R_drew)); exact HO420.out), (by (with_reducible repeat (first | apply Kd.S_alloc | apply Kd.S_drewN | apply Kd.S_drew)); exact HO425.out), (by (with_reducible repeat (first | apply Kd.R_alloc | apply Kd.R_drewN | apply Kd.R_drew)); exact HO431.out), (by (with_reducible repeat (first | apply Kd.R_alloc | apply Kd.R_drewN | apply Kd.R_drew)); exact Kd.R_mono HO434.out (fun _ hk => ⟨hk.2, hk.1⟩)), (by (with_reducible repeat (first | refine blk_drewN ?_ _ | refine blk_drew ?_ | refine blk_alloc ?_ _)); exact BK416.out), (by repeat (first | (with_reducible first | exact HB.out | apply below_alloc | apply pw_below_drewN | apply below_drew1 | refine below_set ?_ GE416.out) | exact HB.out))⟩)
        rintro ⟨v427, v430, v433⟩ w23 ⟨hS_, h0_, h1_, h2_, h3_, h4_, h5_⟩
        have n0_ : Aside0 (Kd.R k57 57 w23 w.heap.size (fun _ => True) v419 t418) := ⟨h0_⟩
        have n1_ : Aside0 (Kd.S (Kd.slice 35 k35) 33 w23 w.heap.size (fun _ => True) v424 t422) := ⟨h1_⟩
        have n2_ : Aside0 (Kd.R k43 43 w23 w.heap.size (fun k_ => some k_ ≠ (v433 : Value).ownBlock ∧ k_ ≠ gb416) v430 y429) := ⟨h2_⟩
        have n3_ : Aside0 (Kd.R k43 43 w23 w.heap.size (fun k_ => some k_ ≠ (v430 : Value).ownBlock ∧ k_ ≠ gb416) v433 y432) := ⟨h3_⟩
        have n4_ : Aside0 (w23.heap[gb416]? = some (.cells #[.int .i64 a2_0, .int .i64 a2_1, .int .i64 a2_2, .int .i64 a2_3] 43 (0, 0))) := ⟨h4_⟩
        have n5_ : Aside0 (Below w.heap.size w w23) := ⟨h5_⟩
        clear HO420
        clear HO425
        clear BK416
        clear HB
        clear h0_ h1_ h2_ h3_ h4_ h5_
        have HO420 := n0_
        have HO425 := n1_
        have HO431 := n2_
        have HO434 := n3_
        have BK416 := n4_
        have HB := n5_
        clear n0_ n1_ n2_ n3_ n4_ n5_
        have hHeld : w23.cell? ⟨gb416, 0, none⟩ = some (.int .i64 a2_0) ∧ w23.cell? ⟨gb416, 1, none⟩ = some (.int .i64 a2_1) ∧ w23.cell? ⟨gb416, 2, none⟩ = some (.int .i64 a2_2) ∧ w23.cell? ⟨gb416, 3, none⟩ = some (.int .i64 a2_3) := hS_
        obtain ⟨Ao25, co25, eo25⟩ := Kd.R_slice HO434.out
        (first | subst eo25 | (injection eo25 with f1_ f2_ f3_; have f4_ := f1_.symm; have f5_ := f3_.symm; clear f1_ f2_ f3_; subst f4_; subst f5_))
        refine norm_ (a' := ?_) ?_ ?_
        rotate_left
        · simp only [putAll, Act.put, List.setIfInBounds_toArray, List.set_cons_zero, List.set_cons_succ]
          rfl
        refine one_ (i := 5) (N := some 37) #[true, true, true, true, true, true, false] rfl rfl (by kernel_rfl) (by decide) (fun K hK => ?_)
        refine Kd.R_append_rows_step k43 (w0 := w) w.heap.size (by rfl) (.tmp 34) (.tmp 36) 22 43 (.agg #[(.int .i64 0), (.int .i64 0), (.int .i64 0), (.int .i64 0)]) 32 rfl Try.underlying22 info43 rfl (by decide) (by omega) v430 y429 y432 _ _ _ (fun k_ => some k_ ≠ (.slice Ao25 y432.length co25 : Value).ownBlock ∧ k_ ≠ gb416) (fun _ => False) rfl rfl ?aO ?aR (fun _ _ h => h) (fun _ h => h.elim) ?aF ?aB ?aS ?aL ?_
        (case aR => repeat (first | exact (Kd.R_reads' HO434.out).2.2 | (with_reducible refine Kd.C_alloc ?_ _) | (with_reducible refine Kd.C_drewN ?_ _) | (with_reducible refine Kd.C_drew ?_)))
        (case aB => exact (by repeat (first | (with_reducible first | exact HB.out | apply below_alloc | apply pw_below_drewN | apply below_drew1 | refine below_set ?_ GE416.out) | exact HB.out)))
        (case aF => exact (fun k_ hk => ⟨Kd.fresh' (Kd.R_lt (by (with_reducible repeat (first | apply Kd.R_alloc | apply Kd.R_drewN | apply Kd.R_drew)); exact HO434.out)) k_ hk, Kd.freshB (g := gb416) (o := .cells #[.int .i64 a2_0, .int .i64 a2_1, .int .i64 a2_2, .int .i64 a2_3] 43 (0, 0)) (by (with_reducible repeat (first | refine blk_drewN ?_ _ | refine blk_drew ?_ | refine blk_alloc ?_ _)); exact BK416.out) k_ hk⟩))
        (case aO => exact (by (with_reducible repeat (first | apply Kd.R_alloc | apply Kd.R_drewN | apply Kd.R_drew)); exact HO431.out))
        (case aS => exact (below_size (by repeat (first | (with_reducible first | exact HB.out | apply below_alloc | apply pw_below_drewN | apply below_drew1 | refine below_set ?_ GE416.out) | exact HB.out))))
        (case aL => have := LMc9.out; omega)
        intro v436 w24 ho hb hg hat
        rw [← Ny435.out] at ho
        have n0_ := Aside0.mk (blk_grown (g := gb416) (o := .cells #[.int .i64 a2_0, .int .i64 a2_1, .int .i64 a2_2, .int .i64 a2_3] 43 (0, 0)) (by (with_reducible repeat (first | refine blk_drewN ?_ _ | refine blk_drew ?_ | refine blk_alloc ?_ _)); exact BK416.out) hg (Kd.R_away HO431.out (fun _ hk => hk.2)))
        have n1_ := Aside0.mk (Kd.R_over' (by (with_reducible repeat (first | apply Kd.R_alloc | apply Kd.R_drewN | apply Kd.R_drew)); exact HO420.out) (Kd.R_typed (by (with_reducible repeat (first | apply Kd.R_alloc | apply Kd.R_drewN | apply Kd.R_drew)); exact HO431.out)) (by decide) hg)
        have n2_ := Aside0.mk (Kd.S_over' (by (with_reducible repeat (first | apply Kd.S_alloc | apply Kd.S_drewN | apply Kd.S_drew)); exact HO425.out) (Kd.R_typed (by (with_reducible repeat (first | apply Kd.R_alloc | apply Kd.R_drewN | apply Kd.R_drew)); exact HO431.out)) (by decide) hg)
        have n3_ := Aside0.mk (Kd.R_after (ok := (fun k_ => k_ ≠ gb416)) (by (with_reducible repeat (first | apply Kd.R_alloc | apply Kd.R_drewN | apply Kd.R_drew)); exact Kd.R_mono HO434.out (fun _ hk => ⟨hk.2, hk.1⟩)) hg hat)
        have n4_ := Aside0.mk (hb)
        have n5_ := Aside0.mk (ho)
        clear BK416
        clear HO420
        clear HO425
        clear HO434
        clear HB
        clear HO431
        have BK416 := n0_
        have HO420 := n1_
        have HO425 := n2_
        have HO434 := n3_
        have HB := n4_
        have HO437 := n5_
        clear n0_ n1_ n2_ n3_ n4_ n5_
        clear ho hb hg hat
        refine hK.out _ _ ⟨(blk_cell BK416.out 0).trans rfl, (blk_cell BK416.out 1).trans rfl, (blk_cell BK416.out 2).trans rfl, (blk_cell BK416.out 3).trans rfl⟩ (fun hHeld => ?_)
        clear hK K
        refine norm_ (a' := ?_) ?_ ?_
        rotate_left
        · show Act.put _ (some 37) _ = _
          simp only [Act.put, List.setIfInBounds_toArray, List.set_cons_zero, List.set_cons_succ, i64_w, i32_w]
          rfl
        refine pure_ (i := 6) (N := some 11) (v := ?_) (a' := ?_) #[true, true, true, true, true, true, true] rfl rfl (by kernel_rfl) (fun _ _ _ h => h) (Or.inl ⟨by rfl, ?_⟩) ?_ ?_
        rotate_left
        · intro w'
          go_simp
          with_reducible rfl
        rotate_left
        · simp only [Act.put, List.setIfInBounds_toArray, List.set_cons_zero, List.set_cons_succ, i64_w, i32_w]
          rfl
        refine done_ (by kernel_rfl) ?_
        obtain ⟨Ao26, co26, eo26⟩ := Kd.R_slice HO437.out
        subst eo26
        go_upto_if 45 with (first | ((with_reducible refine gate_callee (f := 11) rfl ?_); refine goesL_ (some 41) rfl rfl Try.func11 (by kernel_rfl) rfl #[.int .i64 a0, .slice Ao26 y435.length co26] rfl (by (try simp only [List.map_toArray, List.map_cons, List.map_nil]); first | done | rfl | (simp only [List.length_drop, List.length_take]; rfl)) ?_; (with_reducible refine (chron_Tightest.calls k a0 _ _ y435 t438 t439 _ ?side1 ?side2 A10.out).mono ?_); (case side1 => repeat (first | exact (Kd.R_reads' HO437.out).2.2 | (with_reducible refine Kd.C_alloc ?_ _) | (with_reducible refine Kd.C_drewN ?_ _) | (with_reducible refine Kd.C_drew ?_))); (case side2 => exact (Kd.R_reads' HO437.out).2.1); rintro e w27 ⟨v440, rfl, ho0, hb⟩; refine ⟨_, rfl, ?_⟩; have n0_ := Aside0.mk (Kd.R_below (by (with_reducible repeat (first | apply Kd.R_alloc | apply Kd.R_drewN | apply Kd.R_drew)); exact HO420.out) hb); have n1_ := Aside0.mk (Kd.S_elder' (by (with_reducible repeat (first | apply Kd.S_alloc | apply Kd.S_drewN | apply Kd.S_drew)); exact HO425.out) (Kd.S_base ho0) hb); have n2_ := Aside0.mk (Kd.R_below (by (with_reducible repeat (first | apply Kd.R_alloc | apply Kd.R_drewN | apply Kd.R_drew)); exact HO434.out) hb); have n3_ := Aside0.mk (Kd.R_below (by (with_reducible repeat (first | apply Kd.R_alloc | apply Kd.R_drewN | apply Kd.R_drew)); exact HO437.out) hb); have n4_ := Aside0.mk (Kd.S_lower (Kd.S_new' ho0 (Kd.S_lt (by (with_reducible repeat (first | apply Kd.S_alloc | apply Kd.S_drewN | apply Kd.S_drew)); exact HO425.out))) (below_size (by repeat (first | (with_reducible first | exact HB.out | apply below_alloc | apply pw_below_drewN | apply below_drew1 | refine below_set ?_ GE416.out) | exact HB.out)))); have n5_ := Aside0.mk (blk_below (g := gb416) (o := .cells #[.int .i64 a2_0, .int .i64 a2_1, .int .i64 a2_2, .int .i64 a2_3] 43 (0, 0)) (by (with_reducible repeat (first | refine blk_drewN ?_ _ | refine blk_drew ?_ | refine blk_alloc ?_ _)); exact BK416.out) hb); have n6_ := Aside0.mk (below_step (by repeat (first | (with_reducible first | exact HB.out | apply below_alloc | apply pw_below_drewN | apply below_drew1 | refine below_set ?_ GE416.out) | exact HB.out)) hb); clear HO420; clear HO425; clear HO434; clear HO437; clear BK416; clear HB; have HO420 := n0_; have HO425 := n1_; have HO434 := n2_; have HO437 := n3_; have HO441 := n4_; have BK416 := n5_; have HB := n6_; clear n0_ n1_ n2_ n3_ n4_ n5_ n6_; (try clear hb); (try clear hb2); (try clear hk); (try clear hi); (try clear ho0)))
        (try simp only [Act.put, List.setIfInBounds_toArray, List.set_cons_zero, List.set_cons_succ])
        go_cut [10] (fun v10 wc => ∃ (kq : Nat) (x10_10 : Int), v10 = .int .i64 x10_10 ∧ Aside0 (ephemerislaw2_ContradictChangeds.j0 kq a0 t418 t421 t422 x10_10 t438 = some r) ∧ Aside0 (kq ≤ k) ∧ Aside0 (Kd.R k57 57 wc w.heap.size (fun _ => True) v419 t418) ∧ Aside0 (Kd.S (Kd.slice 35 k35) 33 wc w.heap.size (fun k_ => some k_ ≠ (v440 : Value).ownBlock) v424 t422) ∧ Aside0 (Kd.S (Kd.slice 35 k35) 33 wc w.heap.size (fun k_ => some k_ ≠ (v424 : Value).ownBlock) v440 t438) ∧ Aside0 (wc.heap[gb416]? = some (.cells #[.int .i64 a2_0, .int .i64 a2_1, .int .i64 a2_2, .int .i64 a2_3] 43 (0, 0))) ∧ Aside0 (Below w.heap.size w wc))
        case first =>
          have H := HC11.out
          clear HC11
          by_cases c28 : t423 = 0
          · rw [if_pos c28] at H
            have c28b0 : (t423 == 0) = true := beq_iff_eq.mpr c28
            have c28b1 : (t423 != 0) = false := bne_eq_false_iff_eq.mpr c28
            clear c28
            (first | rw [c28b0] | (simp only [i64_w, i32_w]; rw [c28b0]) | skip)
            have H' := Aside0.mk H
            clear H
            go_wp2
            go_meet
            case rel => exact ⟨_, (t439), (by first | rfl | (simp; done) | (simp [*]; done)), H', ⟨by first | omega | exact Nat.le_refl _⟩, ⟨by (with_reducible repeat (first | apply Kd.R_alloc | apply Kd.R_drewN | apply Kd.R_drew)); exact HO420.out⟩, ⟨by (with_reducible repeat (first | apply Kd.S_alloc | apply Kd.S_drewN | apply Kd.S_drew)); exact Kd.S_mono HO425.out (fun _ hk => hk.2)⟩, ⟨by (with_reducible repeat (first | apply Kd.S_alloc | apply Kd.S_drewN | apply Kd.S_drew)); exact Kd.S_mono HO441.out (fun _ hk => hk.2)⟩, ⟨by (with_reducible repeat (first | refine blk_drewN ?_ _ | refine blk_drew ?_ | refine blk_alloc ?_ _)); exact BK416.out⟩, ⟨by repeat (first | (with_reducible first | exact HB.out | apply below_alloc | apply pw_below_drewN | apply below_drew1 | refine below_set ?_ GE416.out) | exact HB.out)⟩⟩
          · rw [if_neg c28] at H
            have c28b0 : (t423 == 0) = false := beq_eq_false_iff_ne.mpr c28
            have c28b1 : (t423 != 0) = true := bne_iff_ne.mpr c28
            (first | rw [c28b0] | (simp only [i64_w, i32_w]; rw [c28b0]) | skip)
            have H' := Aside0.mk H
            clear H
            go_wp2
            go_meet
            case rel => exact ⟨_, (t423), (by first | rfl | (simp; done) | (simp [*]; done)), H', ⟨by first | omega | exact Nat.le_refl _⟩, ⟨by (with_reducible repeat (first | apply Kd.R_alloc | apply Kd.R_drewN | apply Kd.R_drew)); exact HO420.out⟩, ⟨by (with_reducible repeat (first | apply Kd.S_alloc | apply Kd.S_drewN | apply Kd.S_drew)); exact Kd.S_mono HO425.out (fun _ hk => hk.2)⟩, ⟨by (with_reducible repeat (first | apply Kd.S_alloc | apply Kd.S_drewN | apply Kd.S_drew)); exact Kd.S_mono HO441.out (fun _ hk => hk.2)⟩, ⟨by (with_reducible repeat (first | refine blk_drewN ?_ _ | refine blk_drew ?_ | refine blk_alloc ?_ _)); exact BK416.out⟩, ⟨by repeat (first | (with_reducible first | exact HB.out | apply below_alloc | apply pw_below_drewN | apply below_drew1 | refine below_set ?_ GE416.out) | exact HB.out)⟩⟩
        case rest =>
          clear HC11
          try clear c1
          try clear c2
          try clear p2
          try clear c4
          try clear c5
          try clear c8
          try clear c9
          try clear c11
          try clear c19
          try clear c26
          try clear c28
          try clear c28b0
          try clear c28b1
          try clear hcz14_0
          try clear hcz14_1
          try clear hcz14_2
          try clear hcz14_3
          try clear hfz14_0
          try clear hfz14_1
          try clear hfz14_2
          try clear hfz14_3
          obtain ⟨kq, x10_10, rfl, HA, HJ10, HO_7, HO_9, HO_12, BK416, HB⟩ := hcut
          cases kq with
          | zero => exact absurd HA.out (by simp [ephemerislaw2_ContradictChangeds.j0])
          | succ kj10 =>
            have H := HA.out
            clear HA
            simp only [ephemerislaw2_ContradictChangeds.j0] at H
            have HC29 := Aside0.mk H
            clear H
            go_upto_region 9 with (fail)
            go_cut [60] (fun v60 wc => ∃ (kq : Nat) (x60_28 : Bool), v60 = .bool x60_28 ∧ Aside0 (ephemerislaw2_ContradictChangeds.j1 kq a0 t418 t421 t422 x10_10 t438 x60_28 = some r) ∧ Aside0 (kq ≤ kj10) ∧ Aside0 (Kd.R k57 57 wc w.heap.size (fun _ => True) v419 t418) ∧ Aside0 (Kd.S (Kd.slice 35 k35) 33 wc w.heap.size (fun k_ => some k_ ≠ (v440 : Value).ownBlock) v424 t422) ∧ Aside0 (Kd.S (Kd.slice 35 k35) 33 wc w.heap.size (fun k_ => some k_ ≠ (v424 : Value).ownBlock) v440 t438) ∧ Aside0 (wc.heap[gb416]? = some (.cells #[.int .i64 a2_0, .int .i64 a2_1, .int .i64 a2_2, .int .i64 a2_3] 43 (0, 0))) ∧ Aside0 (Below w.heap.size w wc))
            case first =>
              have H := HC29.out
              clear HC29
              by_cases c30 : x10_10 = 0
              · rw [if_pos c30] at H
                have c30b0 : (x10_10 == 0) = true := beq_iff_eq.mpr c30
                have c30b1 : (x10_10 != 0) = false := bne_eq_false_iff_eq.mpr c30
                clear c30
                (first | rw [c30b0] | (simp only [i64_w, i32_w]; rw [c30b0]) | skip)
                by_cases c31 : (t422.length : Int) = a0
                · rw [if_pos c31] at H
                  have c31b0 : ((t422.length : Int) == a0) = true := beq_iff_eq.mpr c31
                  have c31b1 : ((t422.length : Int) != a0) = false := bne_eq_false_iff_eq.mpr c31
                  clear c31
                  have H' := Aside0.mk H
                  clear H
                  obtain ⟨Ao32, co32, eo32⟩ := Kd.S_slice HO_9.out
                  subst eo32
                  obtain ⟨Ao33, co33, eo33⟩ := Kd.S_slice HO_12.out
                  subst eo33
                  go_wp2
                  go_meet
                  case rel => exact ⟨_, (((t438.length : Int) != a0)), (by first | rfl | (simp; done) | (simp [*]; done)), H', ⟨by have := HJ10.out; first | omega | exact Nat.le_refl _⟩, ⟨by (with_reducible repeat (first | apply Kd.R_alloc | apply Kd.R_drewN | apply Kd.R_drew)); exact HO_7.out⟩, ⟨by (with_reducible repeat (first | apply Kd.S_alloc | apply Kd.S_drewN | apply Kd.S_drew)); exact HO_9.out⟩, ⟨by (with_reducible repeat (first | apply Kd.S_alloc | apply Kd.S_drewN | apply Kd.S_drew)); exact HO_12.out⟩, ⟨by (with_reducible repeat (first | refine blk_drewN ?_ _ | refine blk_drew ?_ | refine blk_alloc ?_ _)); exact BK416.out⟩, ⟨by repeat (first | (with_reducible first | exact HB.out | apply below_alloc | apply pw_below_drewN | apply below_drew1 | refine below_set ?_ GE416.out) | exact HB.out)⟩⟩
                · rw [if_neg c31] at H
                  have c31b0 : ((t422.length : Int) == a0) = false := beq_eq_false_iff_ne.mpr c31
                  have c31b1 : ((t422.length : Int) != a0) = true := bne_iff_ne.mpr c31
                  have H' := Aside0.mk H
                  clear H
                  obtain ⟨Ao34, co34, eo34⟩ := Kd.S_slice HO_9.out
                  subst eo34
                  go_wp2
                  go_meet
                  case rel => exact ⟨_, (true), (by first | rfl | (simp; done) | (simp [*]; done)), H', ⟨by have := HJ10.out; first | omega | exact Nat.le_refl _⟩, ⟨by (with_reducible repeat (first | apply Kd.R_alloc | apply Kd.R_drewN | apply Kd.R_drew)); exact HO_7.out⟩, ⟨by (with_reducible repeat (first | apply Kd.S_alloc | apply Kd.S_drewN | apply Kd.S_drew)); exact HO_9.out⟩, ⟨by (with_reducible repeat (first | apply Kd.S_alloc | apply Kd.S_drewN | apply Kd.S_drew)); exact HO_12.out⟩, ⟨by (with_reducible repeat (first | refine blk_drewN ?_ _ | refine blk_drew ?_ | refine blk_alloc ?_ _)); exact BK416.out⟩, ⟨by repeat (first | (with_reducible first | exact HB.out | apply below_alloc | apply pw_below_drewN | apply below_drew1 | refine below_set ?_ GE416.out) | exact HB.out)⟩⟩
              · rw [if_neg c30] at H
                have c30b0 : (x10_10 == 0) = false := beq_eq_false_iff_ne.mpr c30
                have c30b1 : (x10_10 != 0) = true := bne_iff_ne.mpr c30
                (first | rw [c30b0] | (simp only [i64_w, i32_w]; rw [c30b0]) | skip)
                have H' := Aside0.mk H
                clear H
                go_wp2
                go_meet
                case rel => exact ⟨_, (true), (by first | rfl | (simp; done) | (simp [*]; done)), H', ⟨by have := HJ10.out; first | omega | exact Nat.le_refl _⟩, ⟨by (with_reducible repeat (first | apply Kd.R_alloc | apply Kd.R_drewN | apply Kd.R_drew)); exact HO_7.out⟩, ⟨by (with_reducible repeat (first | apply Kd.S_alloc | apply Kd.S_drewN | apply Kd.S_drew)); exact HO_9.out⟩, ⟨by (with_reducible repeat (first | apply Kd.S_alloc | apply Kd.S_drewN | apply Kd.S_drew)); exact HO_12.out⟩, ⟨by (with_reducible repeat (first | refine blk_drewN ?_ _ | refine blk_drew ?_ | refine blk_alloc ?_ _)); exact BK416.out⟩, ⟨by repeat (first | (with_reducible first | exact HB.out | apply below_alloc | apply pw_below_drewN | apply below_drew1 | refine below_set ?_ GE416.out) | exact HB.out)⟩⟩
            case rest =>
              clear HC29
              try clear c1
              try clear c2
              try clear p2
              try clear c3
              try clear c4
              try clear c5
              try clear c8
              try clear c9
              try clear c11
              try clear c19
              try clear c26
              try clear c28
              try clear c28b0
              try clear c28b1
              try clear c30
              try clear c30b0
              try clear c30b1
              try clear c31
              try clear c31b0
              try clear c31b1
              try clear hcz14_0
              try clear hcz14_1
              try clear hcz14_2
              try clear hcz14_3
              try clear hfz14_0
              try clear hfz14_1
              try clear hfz14_2
              try clear hfz14_3
              try clear p2
              obtain ⟨kq, x60_28, rfl, HA, HJ28, HO_7, HO_9, HO_12, BK416, HB⟩ := hcut
              cases kq with
              | zero => exact absurd HA.out (by simp [ephemerislaw2_ContradictChangeds.j1])
              | succ kj28 =>
                have H := HA.out
                clear HA
                simp only [ephemerislaw2_ContradictChangeds.j1] at H
                by_cases c35 : x60_28 = true
                · subst c35
                  have H1 : (if t421 = x10_10 then (some ((t418.length : Int) == 0)) else (some false)) = some r := by rw [if_pos rfl] at H; exact H
                  clear H
                  have H := H1
                  clear H1
                  by_cases c36 : t421 = x10_10
                  · rw [if_pos c36] at H
                    have c36b0 : (t421 == x10_10) = true := beq_iff_eq.mpr c36
                    have c36b1 : (t421 != x10_10) = false := bne_eq_false_iff_eq.mpr c36
                    clear c36
                    obtain rfl := Option.some.inj H
                    simp only [Option.some.injEq, Prod.mk.injEq] at H
                    obtain ⟨rfl⟩ := H
                    obtain ⟨Ao37, co37, eo37⟩ := Kd.R_slice HO_7.out
                    subst eo37
                    go_wp2
                    go_ret
                    exact ⟨by first | rfl | (simp [errW_none, errW_some] <;> rfl) | (simp [*, errW_none, errW_some] <;> rfl), by repeat (first | (with_reducible first | exact HB.out | apply below_alloc | apply pw_below_drewN | apply below_drew1 | refine below_set ?_ GE416.out) | exact HB.out)⟩
                  · rw [if_neg c36] at H
                    have c36b0 : (t421 == x10_10) = false := beq_eq_false_iff_ne.mpr c36
                    have c36b1 : (t421 != x10_10) = true := bne_iff_ne.mpr c36
                    obtain rfl := Option.some.inj H
                    exact absurd hT (by decide)
                · replace c35 := Bool.eq_false_iff.mpr c35
                  subst c35
                  have H1 : (ephemerislaw2_ContradictChangeds.l0 kj28 a0 t418 t421 t422 t438 0 a0 0) = some r := by rw [if_neg (show ¬ (false = true) by decide)] at H; exact H
                  clear H
                  have H := H1
                  clear H1
                  have H' := Aside0.mk H
                  clear H
                  go_wp2
                  go_loopg [14, 70] kj28 (fun kq v14 v70 w' => ∃ (x14_3 : Int) (x70_3 : Int), v14 = .int .i64 x14_3 ∧ v70 = .int .i64 x70_3 ∧ Aside0 (ephemerislaw2_ContradictChangeds.l0 kq a0 t418 t421 t422 t438 x14_3 a0 x70_3 = some r) ∧ Aside0 (kq ≤ kj28) ∧ Aside0 (Kd.R k57 57 w' w.heap.size (fun _ => True) v419 t418) ∧ Aside0 (Kd.S (Kd.slice 35 k35) 33 w' w.heap.size (fun k_ => some k_ ≠ (v440 : Value).ownBlock) v424 t422) ∧ Aside0 (Kd.S (Kd.slice 35 k35) 33 w' w.heap.size (fun k_ => some k_ ≠ (v424 : Value).ownBlock) v440 t438) ∧ Aside0 (w'.heap[gb416]? = some (.cells #[.int .i64 a2_0, .int .i64 a2_1, .int .i64 a2_2, .int .i64 a2_3] 43 (0, 0))) ∧ Aside0 (Below w.heap.size w w'))
                  case atStart => exact ⟨(0), (0), (by first | rfl | (simp; done) | (simp [*]; done)), (by first | rfl | (simp; done) | (simp [*]; done)), H', ⟨Nat.le_refl _⟩, ⟨by (with_reducible repeat (first | apply Kd.R_alloc | apply Kd.R_drewN | apply Kd.R_drew)); exact HO_7.out⟩, ⟨by (with_reducible repeat (first | apply Kd.S_alloc | apply Kd.S_drewN | apply Kd.S_drew)); exact HO_9.out⟩, ⟨by (with_reducible repeat (first | apply Kd.S_alloc | apply Kd.S_drewN | apply Kd.S_drew)); exact HO_12.out⟩, ⟨by (with_reducible repeat (first | refine blk_drewN ?_ _ | refine blk_drew ?_ | refine blk_alloc ?_ _)); exact BK416.out⟩, ⟨by repeat (first | (with_reducible first | exact HB.out | apply below_alloc | apply pw_below_drewN | apply below_drew1 | refine below_set ?_ GE416.out) | exact HB.out)⟩⟩
                  case round =>
                    clear H'
                    try clear c1
                    try clear c2
                    try clear p2
                    try clear c3
                    try clear c4
                    try clear c5
                    try clear c8
                    try clear c9
                    try clear c11
                    try clear c19
                    try clear c26
                    try clear c28
                    try clear c28b0
                    try clear c28b1
                    try clear c30
                    try clear c30b0
                    try clear c30b1
                    try clear c31
                    try clear c31b0
                    try clear c31b1
                    try clear c35
                    try clear c36
                    try clear c36b0
                    try clear c36b1
                    try clear hcz14_0
                    try clear hcz14_1
                    try clear hcz14_2
                    try clear hcz14_3
                    try clear hfz14_0
                    try clear hfz14_1
                    try clear hfz14_2
                    try clear hfz14_3
                    try clear p2
                    obtain ⟨x14_3, x70_3, rfl, rfl, HA, HK3, HO_7, HO_9, HO_12, BK416, HB⟩ := hrel
                    cases gk with
                    | zero => exact absurd HA.out (by simp [ephemerislaw2_ContradictChangeds.l0])
                    | succ k3 =>
                      have H := HA.out
                      clear HA
                      simp only [ephemerislaw2_ContradictChangeds.l0] at H
                      by_cases c38 : x70_3 < a0
                      · rw [if_pos c38] at H
                        have c38b0 : decide (x70_3 < a0) = true := decide_eq_true c38
                        clear c38
                        have H' := Aside0.mk H
                        clear H
                        go_wp2
                        go_loopg [14, 16] k3 (fun kq v14 v16 w' => ∃ (x14_4 : Int) (x16_4 : Int), v14 = .int .i64 x14_4 ∧ v16 = .int .i64 x16_4 ∧ Aside0 (ephemerislaw2_ContradictChangeds.l1 kq a0 t418 t421 t422 t438 x14_4 x70_3 x16_4 a0 x70_3 = some r) ∧ Aside0 (kq ≤ k3) ∧ Aside0 (Kd.R k57 57 w' w.heap.size (fun _ => True) v419 t418) ∧ Aside0 (Kd.S (Kd.slice 35 k35) 33 w' w.heap.size (fun k_ => some k_ ≠ (v440 : Value).ownBlock) v424 t422) ∧ Aside0 (Kd.S (Kd.slice 35 k35) 33 w' w.heap.size (fun k_ => some k_ ≠ (v424 : Value).ownBlock) v440 t438) ∧ Aside0 (w'.heap[gb416]? = some (.cells #[.int .i64 a2_0, .int .i64 a2_1, .int .i64 a2_2, .int .i64 a2_3] 43 (0, 0))) ∧ Aside0 (Below w.heap.size w w'))
                        case atStart => exact ⟨(x14_3), (wrap64 (x70_3 + 1)), (by first | rfl | (simp; done) | (simp [*]; done)), (by first | rfl | (simp; done) | (simp [*]; done)), H', ⟨Nat.le_refl _⟩, ⟨by (with_reducible repeat (first | apply Kd.R_alloc | apply Kd.R_drewN | apply Kd.R_drew)); exact HO_7.out⟩, ⟨by (with_reducible repeat (first | apply Kd.S_alloc | apply Kd.S_drewN | apply Kd.S_drew)); exact HO_9.out⟩, ⟨by (with_reducible repeat (first | apply Kd.S_alloc | apply Kd.S_drewN | apply Kd.S_drew)); exact HO_12.out⟩, ⟨by (with_reducible repeat (first | refine blk_drewN ?_ _ | refine blk_drew ?_ | refine blk_alloc ?_ _)); exact BK416.out⟩, ⟨by repeat (first | (with_reducible first | exact HB.out | apply below_alloc | apply pw_below_drewN | apply below_drew1 | refine below_set ?_ GE416.out) | exact HB.out)⟩⟩
                        case round =>
                          clear H'
                          try clear c1
                          try clear c2
                          try clear p2
                          try clear c3
                          try clear c4
                          try clear c5
                          try clear p6
                          try clear c8
                          try clear c9
                          try clear c11
                          try clear c19
                          try clear c26
                          try clear c28
                          try clear c28b0
                          try clear c28b1
                          try clear c30
                          try clear c30b0
                          try clear c30b1
                          try clear c31
                          try clear c31b0
                          try clear c31b1
                          try clear c35
                          try clear c36
                          try clear c36b0
                          try clear c36b1
                          try clear c38
                          try clear c38b0
                          try clear hcz14_0
                          try clear hcz14_1
                          try clear hcz14_2
                          try clear hcz14_3
                          try clear hfz14_0
                          try clear hfz14_1
                          try clear hfz14_2
                          try clear hfz14_3
                          try clear p2
                          obtain ⟨x14_4, x16_4, rfl, rfl, HA, HK4, HO_7, HO_9, HO_12, BK416, HB⟩ := hrel
                          cases gk with
                          | zero => exact absurd HA.out (by simp [ephemerislaw2_ContradictChangeds.l1])
                          | succ k4 =>
                            have H := HA.out
                            clear HA
                            simp only [ephemerislaw2_ContradictChangeds.l1] at H
                            by_cases c39 : x16_4 < a0
                            · rw [if_pos c39] at H
                              have c39b0 : decide (x16_4 < a0) = true := decide_eq_true c39
                              clear c39
                              have HC40 := Aside0.mk H
                              clear H
                              go_upto_region 18 with (fail)
                              go_cut [95] (fun v95 wc => ∃ (kq : Nat) (x95_39 : Bool), v95 = .bool x95_39 ∧ Aside0 (ephemerislaw2_ContradictChangeds.j4 kq a0 t418 t421 t422 t438 x14_4 x70_3 x16_4 a0 x70_3 x95_39 = some r) ∧ Aside0 (kq ≤ k4) ∧ Aside0 (Kd.R k57 57 wc w.heap.size (fun _ => True) v419 t418) ∧ Aside0 (Kd.S (Kd.slice 35 k35) 33 wc w.heap.size (fun k_ => some k_ ≠ (v440 : Value).ownBlock) v424 t422) ∧ Aside0 (Kd.S (Kd.slice 35 k35) 33 wc w.heap.size (fun k_ => some k_ ≠ (v424 : Value).ownBlock) v440 t438) ∧ Aside0 (wc.heap[gb416]? = some (.cells #[.int .i64 a2_0, .int .i64 a2_1, .int .i64 a2_2, .int .i64 a2_3] 43 (0, 0))) ∧ Aside0 (Below w.heap.size w wc))
                              case first =>
                                have H := HC40.out
                                clear HC40
                                by_cases c41 : 0 ≤ x70_3
                                · rw [if_pos c41] at H
                                  have c41b0 : decide (0 ≤ x70_3) = true := decide_eq_true c41
                                  clear c41
                                  (first | rw [c41b0] | (simp only [i64_w, i32_w]; rw [c41b0]) | skip)
                                  by_cases c42 : x70_3 < (t422.length : Int)
                                  · rw [if_pos c42] at H
                                    have c42b0 : decide (x70_3 < (t422.length : Int)) = true := decide_eq_true c42
                                    clear c42
                                    by_cases c43 : ((rd_L4 t422 x70_3).length : Int) = a0
                                    · rw [if_pos c43] at H
                                      have c43b0 : (((rd_L4 t422 x70_3).length : Int) == a0) = true := beq_iff_eq.mpr c43
                                      have c43b1 : (((rd_L4 t422 x70_3).length : Int) != a0) = false := bne_eq_false_iff_eq.mpr c43
                                      clear c43
                                      by_cases c44 : x70_3 < (t438.length : Int)
                                      · rw [if_pos c44] at H
                                        have c44b0 : decide (x70_3 < (t438.length : Int)) = true := decide_eq_true c44
                                        clear c44
                                        have H' := Aside0.mk H
                                        clear H
                                        obtain ⟨Ao45, co45, eo45⟩ := Kd.S_slice HO_9.out
                                        subst eo45
                                        have p442 : 0 ≤ (x70_3 : Int) := of_decide_eq_true (by first | (with_reducible assumption) | assumption)
                                        have q442 : x70_3 < (t422.length : Int) := of_decide_eq_true (by first | (with_reducible assumption) | assumption)
                                        obtain ⟨ad442, A442_0, c442_0, e442, hx442_0, hl442_0, hi442_0⟩ := at_L4 (Kd.S_reads' HO_9.out).2.2 x70_3 p442 q442
                                        cases e442
                                        obtain ⟨ce442, hce442, hMe442, hcc442⟩ := Kd.S_get HO_9.out [] x70_3 p442 (by first | exact q442 | exact of_decide_eq_true (by first | (with_reducible assumption) | assumption) | (have e_ := (Kd.S_reads' HO_9.out).1; omega))
                                        obtain ⟨ve442_0, rfl, ge442_0⟩ := hMe442
                                        have hv442_0 := hcc442 0 _ rfl
                                        rw [Nat.add_zero, show ((Kd.slice 35 k35)).sz = 1 from rfl, Nat.mul_one] at hv442_0
                                        replace hv442_0 := Option.some.inj (hv442_0.symm.trans hx442_0)
                                        rw [hv442_0] at ge442_0
                                        have HL442_0 := Aside0.mk (show Kd.R k35 35 _ _ _ _ (rd_L4 t422 x70_3) from ge442_0)
                                        clear hv442_0 ge442_0
                                        clear hcc442 hce442
                                        have HR442_0 := Aside0.mk hi442_0
                                        have HC442_0 := Aside0.mk hl442_0
                                        clear hi442_0 hl442_0
                                        replace p442 := eq_true p442
                                        replace q442 := eq_true q442
                                        obtain ⟨Ao46, co46, eo46⟩ := Kd.S_slice HO_12.out
                                        subst eo46
                                        have p443 : 0 ≤ (x70_3 : Int) := of_decide_eq_true (by first | (with_reducible assumption) | assumption)
                                        have q443 : x70_3 < (t438.length : Int) := of_decide_eq_true (by first | (with_reducible assumption) | assumption)
                                        obtain ⟨ad443, A443_0, c443_0, e443, hx443_0, hl443_0, hi443_0⟩ := at_L4 (Kd.S_reads' HO_12.out).2.2 x70_3 p443 q443
                                        cases e443
                                        obtain ⟨ce443, hce443, hMe443, hcc443⟩ := Kd.S_get HO_12.out [] x70_3 p443 (by first | exact q443 | exact of_decide_eq_true (by first | (with_reducible assumption) | assumption) | (have e_ := (Kd.S_reads' HO_12.out).1; omega))
                                        obtain ⟨ve443_0, rfl, ge443_0⟩ := hMe443
                                        have hv443_0 := hcc443 0 _ rfl
                                        rw [Nat.add_zero, show ((Kd.slice 35 k35)).sz = 1 from rfl, Nat.mul_one] at hv443_0
                                        replace hv443_0 := Option.some.inj (hv443_0.symm.trans hx443_0)
                                        rw [hv443_0] at ge443_0
                                        have HL443_0 := Aside0.mk (show Kd.R k35 35 _ _ _ _ (rd_L4 t438 x70_3) from ge443_0)
                                        clear hv443_0 ge443_0
                                        clear hcc443 hce443
                                        have HR443_0 := Aside0.mk hi443_0
                                        have HC443_0 := Aside0.mk hl443_0
                                        clear hi443_0 hl443_0
                                        replace p443 := eq_true p443
                                        replace q443 := eq_true q443
                                        go_wp2
                                        go_meet
                                        case rel => exact ⟨_, ((((rd_L4 t438 x70_3).length : Int) != a0)), (by first | rfl | (simp; done) | (simp [*]; done)), H', ⟨by have := HJ10.out; have := HJ28.out; have := HK3.out; have := HK4.out; first | omega | exact Nat.le_refl _⟩, ⟨by (with_reducible repeat (first | apply Kd.R_alloc | apply Kd.R_drewN | apply Kd.R_drew)); exact HO_7.out⟩, ⟨by (with_reducible repeat (first | apply Kd.S_alloc | apply Kd.S_drewN | apply Kd.S_drew)); exact HO_9.out⟩, ⟨by (with_reducible repeat (first | apply Kd.S_alloc | apply Kd.S_drewN | apply Kd.S_drew)); exact HO_12.out⟩, ⟨by (with_reducible repeat (first | refine blk_drewN ?_ _ | refine blk_drew ?_ | refine blk_alloc ?_ _)); exact BK416.out⟩, ⟨by repeat (first | (with_reducible first | exact HB.out | apply below_alloc | apply pw_below_drewN | apply below_drew1 | refine below_set ?_ GE416.out) | exact HB.out)⟩⟩
                                      · rw [if_neg c44] at H
                                        exact absurd H (by simp)
                                    · rw [if_neg c43] at H
                                      have c43b0 : (((rd_L4 t422 x70_3).length : Int) == a0) = false := beq_eq_false_iff_ne.mpr c43
                                      have c43b1 : (((rd_L4 t422 x70_3).length : Int) != a0) = true := bne_iff_ne.mpr c43
                                      have H' := Aside0.mk H
                                      clear H
                                      obtain ⟨Ao47, co47, eo47⟩ := Kd.S_slice HO_9.out
                                      subst eo47
                                      have p442 : 0 ≤ (x70_3 : Int) := of_decide_eq_true (by first | (with_reducible assumption) | assumption)
                                      have q442 : x70_3 < (t422.length : Int) := of_decide_eq_true (by first | (with_reducible assumption) | assumption)
                                      obtain ⟨ad442, A442_0, c442_0, e442, hx442_0, hl442_0, hi442_0⟩ := at_L4 (Kd.S_reads' HO_9.out).2.2 x70_3 p442 q442
                                      cases e442
                                      obtain ⟨ce442, hce442, hMe442, hcc442⟩ := Kd.S_get HO_9.out [] x70_3 p442 (by first | exact q442 | exact of_decide_eq_true (by first | (with_reducible assumption) | assumption) | (have e_ := (Kd.S_reads' HO_9.out).1; omega))
                                      obtain ⟨ve442_0, rfl, ge442_0⟩ := hMe442
                                      have hv442_0 := hcc442 0 _ rfl
                                      rw [Nat.add_zero, show ((Kd.slice 35 k35)).sz = 1 from rfl, Nat.mul_one] at hv442_0
                                      replace hv442_0 := Option.some.inj (hv442_0.symm.trans hx442_0)
                                      rw [hv442_0] at ge442_0
                                      have HL442_0 := Aside0.mk (show Kd.R k35 35 _ _ _ _ (rd_L4 t422 x70_3) from ge442_0)
                                      clear hv442_0 ge442_0
                                      clear hcc442 hce442
                                      have HR442_0 := Aside0.mk hi442_0
                                      have HC442_0 := Aside0.mk hl442_0
                                      clear hi442_0 hl442_0
                                      replace p442 := eq_true p442
                                      replace q442 := eq_true q442
                                      go_wp2
                                      go_meet
                                      case rel => exact ⟨_, (true), (by first | rfl | (simp; done) | (simp [*]; done)), H', ⟨by have := HJ10.out; have := HJ28.out; have := HK3.out; have := HK4.out; first | omega | exact Nat.le_refl _⟩, ⟨by (with_reducible repeat (first | apply Kd.R_alloc | apply Kd.R_drewN | apply Kd.R_drew)); exact HO_7.out⟩, ⟨by (with_reducible repeat (first | apply Kd.S_alloc | apply Kd.S_drewN | apply Kd.S_drew)); exact HO_9.out⟩, ⟨by (with_reducible repeat (first | apply Kd.S_alloc | apply Kd.S_drewN | apply Kd.S_drew)); exact HO_12.out⟩, ⟨by (with_reducible repeat (first | refine blk_drewN ?_ _ | refine blk_drew ?_ | refine blk_alloc ?_ _)); exact BK416.out⟩, ⟨by repeat (first | (with_reducible first | exact HB.out | apply below_alloc | apply pw_below_drewN | apply below_drew1 | refine below_set ?_ GE416.out) | exact HB.out)⟩⟩
                                  · rw [if_neg c42] at H
                                    exact absurd H (by simp)
                                · rw [if_neg c41] at H
                                  exact absurd H (by simp)
                              case rest =>
                                clear HC40
                                try clear c1
                                try clear c2
                                try clear p2
                                try clear c3
                                try clear c4
                                try clear p4
                                try clear q4
                                try clear hx4
                                try clear c5
                                try clear p6
                                try clear c8
                                try clear c9
                                try clear c11
                                try clear c19
                                try clear c26
                                try clear c28
                                try clear c28b0
                                try clear c28b1
                                try clear c30
                                try clear c30b0
                                try clear c30b1
                                try clear c31
                                try clear c31b0
                                try clear c31b1
                                try clear c35
                                try clear c36
                                try clear c36b0
                                try clear c36b1
                                try clear c38
                                try clear c38b0
                                try clear c39
                                try clear c39b0
                                try clear c41
                                try clear c41b0
                                try clear c42
                                try clear c42b0
                                try clear c43
                                try clear c43b0
                                try clear c43b1
                                try clear c44
                                try clear c44b0
                                try clear p44
                                try clear q44
                                try clear hx44
                                try clear hcz14_0
                                try clear hcz14_1
                                try clear hcz14_2
                                try clear hcz14_3
                                try clear hfz14_0
                                try clear hfz14_1
                                try clear hfz14_2
                                try clear hfz14_3
                                try clear hx442_0
                                try clear hx443_0
                                try clear p2
                                try clear p442
                                try clear p443
                                try clear p6
                                try clear q442
                                try clear q443
                                obtain ⟨kq, x95_39, rfl, HA, HJ39, HO_7, HO_9, HO_12, BK416, HB⟩ := hcut
                                cases kq with
                                | zero => exact absurd HA.out (by simp [ephemerislaw2_ContradictChangeds.j4])
                                | succ kj39 =>
                                  have H := HA.out
                                  clear HA
                                  simp only [ephemerislaw2_ContradictChangeds.j4] at H
                                  by_cases c48 : x95_39 = true
                                  · subst c48
                                    have H1 : (some false) = some r := by rw [if_pos rfl] at H; exact H
                                    clear H
                                    have H := H1
                                    clear H1
                                    obtain rfl := Option.some.inj H
                                    exact absurd hT (by decide)
                                  · replace c48 := Bool.eq_false_iff.mpr c48
                                    subst c48
                                    have H1 : (if 0 ≤ x70_3 then (if x70_3 < (t422.length : Int) then (if 0 ≤ x16_4 then (if x16_4 < ((rd_L4 t422 x70_3).length : Int) then (if x70_3 < (t438.length : Int) then (if x16_4 < ((rd_L4 t438 x70_3).length : Int) then (if (!(((rd_T35 (rd_L4 t422 x70_3) x16_4).f0) == ((rd_T35 (rd_L4 t438 x70_3) x16_4).f0)) || (!(((rd_T35 (rd_L4 t422 x70_3) x16_4).f1) == ((rd_T35 (rd_L4 t438 x70_3) x16_4).f1)))) = true then (if x14_4 ≥ (t418.length : Int) then (some false) else (if 0 ≤ x14_4 then (if x14_4 < (t418.length : Int) then (if (!(((rd_T57 t418 x14_4).f0) == x70_3) || (!(((rd_T57 t418 x14_4).f1) == x16_4))) = true then (some false) else (ephemerislaw2_ContradictChangeds.l1 kj39 a0 t418 t421 t422 t438 (wrap64 (x14_4 + 1)) x70_3 (wrap64 (x16_4 + 1)) a0 x70_3)) else (none)) else (none))) else (ephemerislaw2_ContradictChangeds.l1 kj39 a0 t418 t421 t422 t438 x14_4 x70_3 (wrap64 (x16_4 + 1)) a0 x70_3)) else (none)) else (none)) else (none)) else (none)) else (none)) else (none)) = some r := by rw [if_neg (show ¬ (false = true) by decide)] at H; exact H
                                    clear H
                                    have H := H1
                                    clear H1
                                    by_cases c49 : 0 ≤ x70_3
                                    · rw [if_pos c49] at H
                                      have c49b0 : decide (0 ≤ x70_3) = true := decide_eq_true c49
                                      clear c49
                                      by_cases c50 : x70_3 < (t422.length : Int)
                                      · rw [if_pos c50] at H
                                        have c50b0 : decide (x70_3 < (t422.length : Int)) = true := decide_eq_true c50
                                        clear c50
                                        by_cases c51 : 0 ≤ x16_4
                                        · rw [if_pos c51] at H
                                          have c51b0 : decide (0 ≤ x16_4) = true := decide_eq_true c51
                                          clear c51
                                          by_cases c52 : x16_4 < ((rd_L4 t422 x70_3).length : Int)
                                          · rw [if_pos c52] at H
                                            have c52b0 : decide (x16_4 < ((rd_L4 t422 x70_3).length : Int)) = true := decide_eq_true c52
                                            clear c52
                                            by_cases c53 : x70_3 < (t438.length : Int)
                                            · rw [if_pos c53] at H
                                              have c53b0 : decide (x70_3 < (t438.length : Int)) = true := decide_eq_true c53
                                              clear c53
                                              by_cases c54 : x16_4 < ((rd_L4 t438 x70_3).length : Int)
                                              · rw [if_pos c54] at H
                                                have c54b0 : decide (x16_4 < ((rd_L4 t438 x70_3).length : Int)) = true := decide_eq_true c54
                                                clear c54
                                                by_cases c55 : (!(((rd_T35 (rd_L4 t422 x70_3) x16_4).f0) == ((rd_T35 (rd_L4 t438 x70_3) x16_4).f0)) || (!(((rd_T35 (rd_L4 t422 x70_3) x16_4).f1) == ((rd_T35 (rd_L4 t438 x70_3) x16_4).f1)))) = true
                                                · rw [if_pos c55] at H
                                                  have c55b0 : (!(((rd_T35 (rd_L4 t422 x70_3) x16_4).f0) == ((rd_T35 (rd_L4 t438 x70_3) x16_4).f0)) || (!(((rd_T35 (rd_L4 t422 x70_3) x16_4).f1) == ((rd_T35 (rd_L4 t438 x70_3) x16_4).f1)))) = true := c55
                                                  clear c55
                                                  by_cases c56 : x14_4 ≥ (t418.length : Int)
                                                  · rw [if_pos c56] at H
                                                    have c56b0 : decide ((t418.length : Int) ≤ x14_4) = true := decide_eq_true c56
                                                    clear c56
                                                    obtain rfl := Option.some.inj H
                                                    exact absurd hT (by decide)
                                                  · rw [if_neg c56] at H
                                                    have c56b0 : decide ((t418.length : Int) ≤ x14_4) = false := decide_eq_false c56
                                                    clear c56
                                                    by_cases c57 : 0 ≤ x14_4
                                                    · rw [if_pos c57] at H
                                                      have c57b0 : decide (0 ≤ x14_4) = true := decide_eq_true c57
                                                      clear c57
                                                      by_cases c58 : x14_4 < (t418.length : Int)
                                                      · rw [if_pos c58] at H
                                                        have c58b0 : decide (x14_4 < (t418.length : Int)) = true := decide_eq_true c58
                                                        clear c58
                                                        by_cases c59 : (!(((rd_T57 t418 x14_4).f0) == x70_3) || (!(((rd_T57 t418 x14_4).f1) == x16_4))) = true
                                                        · rw [if_pos c59] at H
                                                          have c59b0 : (!(((rd_T57 t418 x14_4).f0) == x70_3) || (!(((rd_T57 t418 x14_4).f1) == x16_4))) = true := c59
                                                          clear c59
                                                          obtain rfl := Option.some.inj H
                                                          exact absurd hT (by decide)
                                                        · rw [if_neg c59] at H
                                                          have c59b0 : (!(((rd_T57 t418 x14_4).f0) == x70_3) || (!(((rd_T57 t418 x14_4).f1) == x16_4))) = false := by simpa using c59
                                                          clear c59
                                                          have H' := Aside0.mk H
                                                          clear H
                                                          try go_wp2
                                                          have n0_ := Aside0.mk (Kd.R_drew HO_7.out)
                                                          have n1_ := Aside0.mk (Kd.S_drew HO_9.out)
                                                          have n2_ := Aside0.mk (Kd.S_drew HO_12.out)
                                                          have n3_ := Aside0.mk (blk_drew BK416.out)
                                                          have n4_ := Aside0.mk (below_drew1 HB.out)
                                                          clear HO_7
                                                          clear HO_9
                                                          clear HO_12
                                                          clear BK416
                                                          clear HB
                                                          have HO_7 := n0_
                                                          have HO_9 := n1_
                                                          have HO_12 := n2_
                                                          have BK416 := n3_
                                                          have HB := n4_
                                                          clear n0_ n1_ n2_ n3_ n4_
                                                          obtain ⟨Ao61, co61, eo61⟩ := Kd.S_slice HO_9.out
                                                          (first | subst eo61 | (injection eo61 with f1_ f2_ f3_; have f4_ := f1_.symm; have f5_ := f3_.symm; clear f1_ f2_ f3_; subst f4_; subst f5_))
                                                          have p444 : 0 ≤ (x70_3 : Int) := of_decide_eq_true (by first | (with_reducible assumption) | assumption)
                                                          have q444 : x70_3 < (t422.length : Int) := of_decide_eq_true (by first | (with_reducible assumption) | assumption)
                                                          obtain ⟨ad444, A444_0, c444_0, e444, hx444_0, hl444_0, hi444_0⟩ := at_L4 (Kd.S_reads' HO_9.out).2.2 x70_3 p444 q444
                                                          cases e444
                                                          obtain ⟨ce444, hce444, hMe444, hcc444⟩ := Kd.S_get HO_9.out [] x70_3 p444 (by first | exact q444 | exact of_decide_eq_true (by first | (with_reducible assumption) | assumption) | (have e_ := (Kd.S_reads' HO_9.out).1; omega))
                                                          obtain ⟨ve444_0, rfl, ge444_0⟩ := hMe444
                                                          have hv444_0 := hcc444 0 _ rfl
                                                          rw [Nat.add_zero, show ((Kd.slice 35 k35)).sz = 1 from rfl, Nat.mul_one] at hv444_0
                                                          replace hv444_0 := Option.some.inj (hv444_0.symm.trans hx444_0)
                                                          rw [hv444_0] at ge444_0
                                                          have HL444_0 := Aside0.mk (show Kd.R k35 35 _ _ _ _ (rd_L4 t422 x70_3) from ge444_0)
                                                          clear hv444_0 ge444_0
                                                          clear hcc444 hce444
                                                          have HR444_0 := Aside0.mk hi444_0
                                                          have HC444_0 := Aside0.mk hl444_0
                                                          clear hi444_0 hl444_0
                                                          replace p444 := eq_true p444
                                                          replace q444 := eq_true q444
                                                          have p445 : 0 ≤ (x16_4 : Int) := of_decide_eq_true (by first | (with_reducible assumption) | assumption)
                                                          have q445 : x16_4 < ((rd_L4 t422 x70_3).length : Int) := of_decide_eq_true (by first | (with_reducible assumption) | assumption)
                                                          obtain ⟨ad445, e445, hx445_0, hx445_1⟩ := at_T35 (by repeat (first | (with_reducible exact HR444_0.out) | (with_reducible refine Kd.C_alloc ?_ _) | (with_reducible refine Kd.C_drewN ?_ _) | (with_reducible refine Kd.C_drew ?_) | exact HR444_0.out)) x16_4 p445 q445
                                                          cases e445
                                                          replace p445 := eq_true p445
                                                          replace q445 := eq_true q445
                                                          obtain ⟨Ao62, co62, eo62⟩ := Kd.S_slice HO_12.out
                                                          (first | subst eo62 | (injection eo62 with f1_ f2_ f3_; have f4_ := f1_.symm; have f5_ := f3_.symm; clear f1_ f2_ f3_; subst f4_; subst f5_))
                                                          have p446 : 0 ≤ (x70_3 : Int) := of_decide_eq_true (by first | (with_reducible assumption) | assumption)
                                                          have q446 : x70_3 < (t438.length : Int) := of_decide_eq_true (by first | (with_reducible assumption) | assumption)
                                                          obtain ⟨ad446, A446_0, c446_0, e446, hx446_0, hl446_0, hi446_0⟩ := at_L4 (Kd.S_reads' HO_12.out).2.2 x70_3 p446 q446
                                                          cases e446
                                                          obtain ⟨ce446, hce446, hMe446, hcc446⟩ := Kd.S_get HO_12.out [] x70_3 p446 (by first | exact q446 | exact of_decide_eq_true (by first | (with_reducible assumption) | assumption) | (have e_ := (Kd.S_reads' HO_12.out).1; omega))
                                                          obtain ⟨ve446_0, rfl, ge446_0⟩ := hMe446
                                                          have hv446_0 := hcc446 0 _ rfl
                                                          rw [Nat.add_zero, show ((Kd.slice 35 k35)).sz = 1 from rfl, Nat.mul_one] at hv446_0
                                                          replace hv446_0 := Option.some.inj (hv446_0.symm.trans hx446_0)
                                                          rw [hv446_0] at ge446_0
                                                          have HL446_0 := Aside0.mk (show Kd.R k35 35 _ _ _ _ (rd_L4 t438 x70_3) from ge446_0)
                                                          clear hv446_0 ge446_0
                                                          clear hcc446 hce446
                                                          have HR446_0 := Aside0.mk hi446_0
                                                          have HC446_0 := Aside0.mk hl446_0
                                                          clear hi446_0 hl446_0
                                                          replace p446 := eq_true p446
                                                          replace q446 := eq_true q446
                                                          have p447 : 0 ≤ (x16_4 : Int) := of_decide_eq_true (by first | (with_reducible assumption) | assumption)
                                                          have q447 : x16_4 < ((rd_L4 t438 x70_3).length : Int) := of_decide_eq_true (by first | (with_reducible assumption) | assumption)
                                                          obtain ⟨ad447, e447, hx447_0, hx447_1⟩ := at_T35 (by repeat (first | (with_reducible exact HR446_0.out) | (with_reducible refine Kd.C_alloc ?_ _) | (with_reducible refine Kd.C_drewN ?_ _) | (with_reducible refine Kd.C_drew ?_) | exact HR446_0.out)) x16_4 p447 q447
                                                          cases e447
                                                          replace p447 := eq_true p447
                                                          replace q447 := eq_true q447
                                                          refine start_ (n := 15) (S := fun w' => w'.cell? (ad444.add (x70_3).toNat) = some (.slice (some ad445) (rd_L4 t422 x70_3).length c444_0) ∧ w'.cell? (ad445.add ((x16_4).toNat * 2)) = some (.int .i64 ((rd_T35 (rd_L4 t422 x70_3) x16_4).f0)) ∧ w'.cell? ⟨(ad445.add ((x16_4).toNat * 2)).block, (ad445.add ((x16_4).toNat * 2)).off + 1, none⟩ = some (.int .i64 ((rd_T35 (rd_L4 t422 x70_3) x16_4).f1)) ∧ w'.cell? (ad446.add (x70_3).toNat) = some (.slice (some ad447) (rd_L4 t438 x70_3).length c446_0) ∧ w'.cell? (ad447.add ((x16_4).toNat * 2)) = some (.int .i64 ((rd_T35 (rd_L4 t438 x70_3) x16_4).f0)) ∧ w'.cell? ⟨(ad447.add ((x16_4).toNat * 2)).block, (ad447.add ((x16_4).toNat * 2)).off + 1, none⟩ = some (.int .i64 ((rd_T35 (rd_L4 t438 x70_3) x16_4).f1))) (ds := []) #[false, false, false, false, false, false, false, false, false, false, false, false, false, false, false] (by kernel_rfl) rfl rfl ⟨hx444_0, hx445_0, hx445_1, hx446_0, hx447_0, hx447_1⟩ (fun hHeld => ?_); refine with_tabW ephemerislaw2_ContradictChangeds.tab20 ephemerislaw2_ContradictChangeds.bits20 (fun HT_ HW_ => ?_)
                                                          generalize wc.drew = w60 at HO_7 HO_9 HO_12 BK416 HB HL444_0 HL446_0 HR444_0 HR446_0 hx444_0 hx445_0 hx445_1 hx446_0 hx447_0 hx447_1 hHeld ⊢
                                                          refine pure_ (i := 0) (N := some 96) (v := ?_) (a' := ?_) #[true, false, false, false, false, false, false, false, false, false, false, false, false, false, false] rfl rfl (any_of HT_.out (by kernel_rfl)) (fun _ _ _ h => h) (Or.inl ⟨by rfl, ?_⟩) ?_ ?_
                                                          rotate_left
                                                          · intro w'
                                                            go_simp
                                                            with_reducible rfl
                                                          rotate_left
                                                          · simp only [Act.put, List.setIfInBounds_toArray, List.set_cons_zero, List.set_cons_succ, i64_w, i32_w]
                                                            rfl
                                                          refine pure_ (i := 1) (N := some 97) (v := ?_) (a' := ?_) #[true, true, false, false, false, false, false, false, false, false, false, false, false, false, false] rfl rfl (any_of HT_.out (by kernel_rfl)) (fun _ _ _ h => h) (Or.inl ⟨by rfl, ?_⟩) ?_ ?_
                                                          rotate_left
                                                          · intro w'
                                                            go_simp
                                                            with_reducible rfl
                                                          rotate_left
                                                          · simp only [Act.put, List.setIfInBounds_toArray, List.set_cons_zero, List.set_cons_succ, i64_w, i32_w]
                                                            rfl
                                                          refine pure_ (i := 2) (N := some 98) (v := ?_) (a' := ?_) #[true, true, true, false, false, false, false, false, false, false, false, false, false, false, false] rfl rfl (any_of HT_.out (by kernel_rfl)) (fun _ _ _ h => h) (Or.inl ⟨by rfl, ?_⟩) ?_ ?_
                                                          rotate_left
                                                          · intro w'
                                                            go_simp
                                                            with_reducible rfl
                                                          rotate_left
                                                          · simp only [Act.put, List.setIfInBounds_toArray, List.set_cons_zero, List.set_cons_succ, i64_w, i32_w]
                                                            rfl
                                                          refine pure_ (i := 4) (N := some 100) (v := ?_) (a' := ?_) #[true, true, true, false, true, false, false, false, false, false, false, false, false, false, false] rfl rfl (any_of HT_.out (by kernel_rfl)) (fun _ _ _ h => h) (Or.inl ⟨by rfl, ?_⟩) ?_ ?_
                                                          rotate_left
                                                          · intro w'
                                                            go_simp
                                                            with_reducible rfl
                                                          rotate_left
                                                          · simp only [Act.put, List.setIfInBounds_toArray, List.set_cons_zero, List.set_cons_succ, i64_w, i32_w]
                                                            rfl
                                                          refine pure_ (i := 7) (N := some 103) (v := ?_) (a' := ?_) #[true, true, true, false, true, false, false, true, false, false, false, false, false, false, false] rfl rfl (any_of HT_.out (by kernel_rfl)) (fun _ _ _ h => h) (Or.inl ⟨by rfl, ?_⟩) ?_ ?_
                                                          rotate_left
                                                          · intro w'
                                                            go_simp
                                                            with_reducible rfl
                                                          rotate_left
                                                          · simp only [Act.put, List.setIfInBounds_toArray, List.set_cons_zero, List.set_cons_succ, i64_w, i32_w]
                                                            rfl
                                                          refine pure_ (i := 8) (N := some 104) (v := ?_) (a' := ?_) #[true, true, true, false, true, false, false, true, true, false, false, false, false, false, false] rfl rfl (any_of HT_.out (by kernel_rfl)) (fun _ _ _ h => h) (Or.inl ⟨by rfl, ?_⟩) ?_ ?_
                                                          rotate_left
                                                          · intro w'
                                                            go_simp
                                                            with_reducible rfl
                                                          rotate_left
                                                          · simp only [Act.put, List.setIfInBounds_toArray, List.set_cons_zero, List.set_cons_succ, i64_w, i32_w]
                                                            rfl
                                                          refine pure_ (i := 9) (N := some 105) (v := ?_) (a' := ?_) #[true, true, true, false, true, false, false, true, true, true, false, false, false, false, false] rfl rfl (any_of HT_.out (by kernel_rfl)) (fun _ _ _ h => h) (Or.inl ⟨by rfl, ?_⟩) ?_ ?_
                                                          rotate_left
                                                          · intro w'
                                                            go_simp
                                                            with_reducible rfl
                                                          rotate_left
                                                          · simp only [Act.put, List.setIfInBounds_toArray, List.set_cons_zero, List.set_cons_succ, i64_w, i32_w]
                                                            rfl
                                                          refine pure_ (i := 11) (N := some 107) (v := ?_) (a' := ?_) #[true, true, true, false, true, false, false, true, true, true, false, true, false, false, false] rfl rfl (any_of HT_.out (by kernel_rfl)) (fun _ _ _ h => h) (Or.inl ⟨by rfl, ?_⟩) ?_ ?_
                                                          rotate_left
                                                          · intro w'
                                                            go_simp
                                                            with_reducible rfl
                                                          rotate_left
                                                          · simp only [Act.put, List.setIfInBounds_toArray, List.set_cons_zero, List.set_cons_succ, i64_w, i32_w]
                                                            rfl
                                                          refine take_ (i := 3) (N := some 99) (v := ?_) (a' := ?_) #[true, true, true, true, true, false, false, true, true, true, false, true, false, false, false] rfl rfl (take_ofW HT_.out HW_.out (by kernel_rfl)) (fun _ _ _ h => h) (Or.inl ⟨by rfl, ?_⟩) hHeld ?_ ?_
                                                          rotate_left
                                                          · rintro w' ⟨s0, s1, s2, s3, s4, s5⟩
                                                            go_simp
                                                            with_reducible rfl
                                                          rotate_left
                                                          · simp only [Act.put, List.setIfInBounds_toArray, List.set_cons_zero, List.set_cons_succ, i64_w, i32_w]
                                                            rfl
                                                          refine pure_ (i := 5) (N := some 101) (v := ?_) (a' := ?_) #[true, true, true, true, true, true, false, true, true, true, false, true, false, false, false] rfl rfl (any_of HT_.out (by kernel_rfl)) (fun _ _ _ h => h) (Or.inl ⟨by rfl, ?_⟩) ?_ ?_
                                                          rotate_left
                                                          · intro w'
                                                            go_simp
                                                            with_reducible rfl
                                                          rotate_left
                                                          · simp only [Act.put, List.setIfInBounds_toArray, List.set_cons_zero, List.set_cons_succ, i64_w, i32_w]
                                                            rfl
                                                          refine take_ (i := 6) (N := some 102) (v := ?_) (a' := ?_) #[true, true, true, true, true, true, true, true, true, true, false, true, false, false, false] rfl rfl (take_ofW HT_.out HW_.out (by kernel_rfl)) (fun _ _ _ h => h) (Or.inl ⟨by rfl, ?_⟩) hHeld ?_ ?_
                                                          rotate_left
                                                          · rintro w' ⟨s0, s1, s2, s3, s4, s5⟩
                                                            go_simp
                                                            with_reducible rfl
                                                          rotate_left
                                                          · simp only [Act.put, List.setIfInBounds_toArray, List.set_cons_zero, List.set_cons_succ, i64_w, i32_w]
                                                            rfl
                                                          refine take_ (i := 10) (N := some 106) (v := ?_) (a' := ?_) #[true, true, true, true, true, true, true, true, true, true, true, true, false, false, false] rfl rfl (take_ofW HT_.out HW_.out (by kernel_rfl)) (fun _ _ _ h => h) (Or.inl ⟨by rfl, ?_⟩) hHeld ?_ ?_
                                                          rotate_left
                                                          · rintro w' ⟨s0, s1, s2, s3, s4, s5⟩
                                                            go_simp
                                                            with_reducible rfl
                                                          rotate_left
                                                          · simp only [Act.put, List.setIfInBounds_toArray, List.set_cons_zero, List.set_cons_succ, i64_w, i32_w]
                                                            rfl
                                                          refine pure_ (i := 12) (N := some 108) (v := ?_) (a' := ?_) #[true, true, true, true, true, true, true, true, true, true, true, true, true, false, false] rfl rfl (any_of HT_.out (by kernel_rfl)) (fun _ _ _ h => h) (Or.inl ⟨by rfl, ?_⟩) ?_ ?_
                                                          rotate_left
                                                          · intro w'
                                                            go_simp
                                                            with_reducible rfl
                                                          rotate_left
                                                          · simp only [Act.put, List.setIfInBounds_toArray, List.set_cons_zero, List.set_cons_succ, i64_w, i32_w]
                                                            rfl
                                                          refine take_ (i := 13) (N := some 109) (v := ?_) (a' := ?_) #[true, true, true, true, true, true, true, true, true, true, true, true, true, true, false] rfl rfl (take_ofW HT_.out HW_.out (by kernel_rfl)) (fun _ _ _ h => h) (Or.inl ⟨by rfl, ?_⟩) hHeld ?_ ?_
                                                          rotate_left
                                                          · rintro w' ⟨s0, s1, s2, s3, s4, s5⟩
                                                            go_simp
                                                            with_reducible rfl
                                                          rotate_left
                                                          · simp only [Act.put, List.setIfInBounds_toArray, List.set_cons_zero, List.set_cons_succ, i64_w, i32_w]
                                                            rfl
                                                          refine pure_ (i := 14) (N := some 110) (v := ?_) (a' := ?_) #[true, true, true, true, true, true, true, true, true, true, true, true, true, true, true] rfl rfl (any_of HT_.out (by kernel_rfl)) (fun _ _ _ h => h) (Or.inl ⟨by rfl, ?_⟩) ?_ ?_
                                                          rotate_left
                                                          · intro w'
                                                            go_simp
                                                            with_reducible rfl
                                                          rotate_left
                                                          · simp only [Act.put, List.setIfInBounds_toArray, List.set_cons_zero, List.set_cons_succ, i64_w, i32_w]
                                                            rfl
                                                          refine done_ (done_of HT_.out (by kernel_rfl)) ?_
                                                          obtain ⟨Ao63, co63, eo63⟩ := Kd.R_slice HO_7.out
                                                          subst eo63
                                                          have p448 : 0 ≤ (x14_4 : Int) := of_decide_eq_true (by first | (with_reducible assumption) | assumption)
                                                          have q448 : x14_4 < (t418.length : Int) := of_decide_eq_true (by first | (with_reducible assumption) | assumption)
                                                          obtain ⟨ad448, e448, hx448_0, hx448_1⟩ := at_T57 (Kd.R_reads' HO_7.out).2.2 x14_4 p448 q448
                                                          cases e448
                                                          replace p448 := eq_true p448
                                                          replace q448 := eq_true q448
                                                          try go_wp2
                                                          go_roundg kj39
                                                          case measure => have := HJ10.out; have := HJ28.out; have := HK3.out; have := HK4.out; have := HJ39.out; omega
                                                          case rel => exact ⟨(wrap64 (x14_4 + 1)), (wrap64 (x16_4 + 1)), (by first | rfl | (simp; done) | (simp [*]; done)), (by first | rfl | (simp; done) | (simp [*]; done)), H', ⟨by have := HJ10.out; have := HJ28.out; have := HK3.out; have := HK4.out; have := HJ39.out; omega⟩, ⟨by (with_reducible repeat (first | apply Kd.R_alloc | apply Kd.R_drewN | apply Kd.R_drew)); exact HO_7.out⟩, ⟨by (with_reducible repeat (first | apply Kd.S_alloc | apply Kd.S_drewN | apply Kd.S_drew)); exact HO_9.out⟩, ⟨by (with_reducible repeat (first | apply Kd.S_alloc | apply Kd.S_drewN | apply Kd.S_drew)); exact HO_12.out⟩, ⟨by (with_reducible repeat (first | refine blk_drewN ?_ _ | refine blk_drew ?_ | refine blk_alloc ?_ _)); exact BK416.out⟩, ⟨by repeat (first | (with_reducible first | exact HB.out | apply below_alloc | apply pw_below_drewN | apply below_drew1 | refine below_set ?_ GE416.out) | exact HB.out)⟩⟩
                                                      · rw [if_neg c58] at H
                                                        exact absurd H (by simp)
                                                    · rw [if_neg c57] at H
                                                      exact absurd H (by simp)
                                                · rw [if_neg c55] at H
                                                  have c55b0 : (!(((rd_T35 (rd_L4 t422 x70_3) x16_4).f0) == ((rd_T35 (rd_L4 t438 x70_3) x16_4).f0)) || (!(((rd_T35 (rd_L4 t422 x70_3) x16_4).f1) == ((rd_T35 (rd_L4 t438 x70_3) x16_4).f1)))) = false := by simpa using c55
                                                  clear c55
                                                  have H' := Aside0.mk H
                                                  clear H
                                                  try go_wp2
                                                  have n0_ := Aside0.mk (Kd.R_drew HO_7.out)
                                                  have n1_ := Aside0.mk (Kd.S_drew HO_9.out)
                                                  have n2_ := Aside0.mk (Kd.S_drew HO_12.out)
                                                  have n3_ := Aside0.mk (blk_drew BK416.out)
                                                  have n4_ := Aside0.mk (below_drew1 HB.out)
                                                  clear HO_7
                                                  clear HO_9
                                                  clear HO_12
                                                  clear BK416
                                                  clear HB
                                                  have HO_7 := n0_
                                                  have HO_9 := n1_
                                                  have HO_12 := n2_
                                                  have BK416 := n3_
                                                  have HB := n4_
                                                  clear n0_ n1_ n2_ n3_ n4_
                                                  obtain ⟨Ao65, co65, eo65⟩ := Kd.S_slice HO_9.out
                                                  (first | subst eo65 | (injection eo65 with f1_ f2_ f3_; have f4_ := f1_.symm; have f5_ := f3_.symm; clear f1_ f2_ f3_; subst f4_; subst f5_))
                                                  have p444 : 0 ≤ (x70_3 : Int) := of_decide_eq_true (by first | (with_reducible assumption) | assumption)
                                                  have q444 : x70_3 < (t422.length : Int) := of_decide_eq_true (by first | (with_reducible assumption) | assumption)
                                                  obtain ⟨ad444, A444_0, c444_0, e444, hx444_0, hl444_0, hi444_0⟩ := at_L4 (Kd.S_reads' HO_9.out).2.2 x70_3 p444 q444
                                                  cases e444
                                                  obtain ⟨ce444, hce444, hMe444, hcc444⟩ := Kd.S_get HO_9.out [] x70_3 p444 (by first | exact q444 | exact of_decide_eq_true (by first | (with_reducible assumption) | assumption) | (have e_ := (Kd.S_reads' HO_9.out).1; omega))
                                                  obtain ⟨ve444_0, rfl, ge444_0⟩ := hMe444
                                                  have hv444_0 := hcc444 0 _ rfl
                                                  rw [Nat.add_zero, show ((Kd.slice 35 k35)).sz = 1 from rfl, Nat.mul_one] at hv444_0
                                                  replace hv444_0 := Option.some.inj (hv444_0.symm.trans hx444_0)
                                                  rw [hv444_0] at ge444_0
                                                  have HL444_0 := Aside0.mk (show Kd.R k35 35 _ _ _ _ (rd_L4 t422 x70_3) from ge444_0)
                                                  clear hv444_0 ge444_0
                                                  clear hcc444 hce444
                                                  have HR444_0 := Aside0.mk hi444_0
                                                  have HC444_0 := Aside0.mk hl444_0
                                                  clear hi444_0 hl444_0
                                                  replace p444 := eq_true p444
                                                  replace q444 := eq_true q444
                                                  have p445 : 0 ≤ (x16_4 : Int) := of_decide_eq_true (by first | (with_reducible assumption) | assumption)
                                                  have q445 : x16_4 < ((rd_L4 t422 x70_3).length : Int) := of_decide_eq_true (by first | (with_reducible assumption) | assumption)
                                                  obtain ⟨ad445, e445, hx445_0, hx445_1⟩ := at_T35 (by repeat (first | (with_reducible exact HR444_0.out) | (with_reducible refine Kd.C_alloc ?_ _) | (with_reducible refine Kd.C_drewN ?_ _) | (with_reducible refine Kd.C_drew ?_) | exact HR444_0.out)) x16_4 p445 q445
                                                  cases e445
                                                  replace p445 := eq_true p445
                                                  replace q445 := eq_true q445
                                                  obtain ⟨Ao66, co66, eo66⟩ := Kd.S_slice HO_12.out
                                                  (first | subst eo66 | (injection eo66 with f1_ f2_ f3_; have f4_ := f1_.symm; have f5_ := f3_.symm; clear f1_ f2_ f3_; subst f4_; subst f5_))
                                                  have p446 : 0 ≤ (x70_3 : Int) := of_decide_eq_true (by first | (with_reducible assumption) | assumption)
                                                  have q446 : x70_3 < (t438.length : Int) := of_decide_eq_true (by first | (with_reducible assumption) | assumption)
                                                  obtain ⟨ad446, A446_0, c446_0, e446, hx446_0, hl446_0, hi446_0⟩ := at_L4 (Kd.S_reads' HO_12.out).2.2 x70_3 p446 q446
                                                  cases e446
                                                  obtain ⟨ce446, hce446, hMe446, hcc446⟩ := Kd.S_get HO_12.out [] x70_3 p446 (by first | exact q446 | exact of_decide_eq_true (by first | (with_reducible assumption) | assumption) | (have e_ := (Kd.S_reads' HO_12.out).1; omega))
                                                  obtain ⟨ve446_0, rfl, ge446_0⟩ := hMe446
                                                  have hv446_0 := hcc446 0 _ rfl
                                                  rw [Nat.add_zero, show ((Kd.slice 35 k35)).sz = 1 from rfl, Nat.mul_one] at hv446_0
                                                  replace hv446_0 := Option.some.inj (hv446_0.symm.trans hx446_0)
                                                  rw [hv446_0] at ge446_0
                                                  have HL446_0 := Aside0.mk (show Kd.R k35 35 _ _ _ _ (rd_L4 t438 x70_3) from ge446_0)
                                                  clear hv446_0 ge446_0
                                                  clear hcc446 hce446
                                                  have HR446_0 := Aside0.mk hi446_0
                                                  have HC446_0 := Aside0.mk hl446_0
                                                  clear hi446_0 hl446_0
                                                  replace p446 := eq_true p446
                                                  replace q446 := eq_true q446
                                                  have p447 : 0 ≤ (x16_4 : Int) := of_decide_eq_true (by first | (with_reducible assumption) | assumption)
                                                  have q447 : x16_4 < ((rd_L4 t438 x70_3).length : Int) := of_decide_eq_true (by first | (with_reducible assumption) | assumption)
                                                  obtain ⟨ad447, e447, hx447_0, hx447_1⟩ := at_T35 (by repeat (first | (with_reducible exact HR446_0.out) | (with_reducible refine Kd.C_alloc ?_ _) | (with_reducible refine Kd.C_drewN ?_ _) | (with_reducible refine Kd.C_drew ?_) | exact HR446_0.out)) x16_4 p447 q447
                                                  cases e447
                                                  replace p447 := eq_true p447
                                                  replace q447 := eq_true q447
                                                  refine start_ (n := 15) (S := fun w' => w'.cell? (ad444.add (x70_3).toNat) = some (.slice (some ad445) (rd_L4 t422 x70_3).length c444_0) ∧ w'.cell? (ad445.add ((x16_4).toNat * 2)) = some (.int .i64 ((rd_T35 (rd_L4 t422 x70_3) x16_4).f0)) ∧ w'.cell? ⟨(ad445.add ((x16_4).toNat * 2)).block, (ad445.add ((x16_4).toNat * 2)).off + 1, none⟩ = some (.int .i64 ((rd_T35 (rd_L4 t422 x70_3) x16_4).f1)) ∧ w'.cell? (ad446.add (x70_3).toNat) = some (.slice (some ad447) (rd_L4 t438 x70_3).length c446_0) ∧ w'.cell? (ad447.add ((x16_4).toNat * 2)) = some (.int .i64 ((rd_T35 (rd_L4 t438 x70_3) x16_4).f0)) ∧ w'.cell? ⟨(ad447.add ((x16_4).toNat * 2)).block, (ad447.add ((x16_4).toNat * 2)).off + 1, none⟩ = some (.int .i64 ((rd_T35 (rd_L4 t438 x70_3) x16_4).f1))) (ds := []) #[false, false, false, false, false, false, false, false, false, false, false, false, false, false, false] (by kernel_rfl) rfl rfl ⟨hx444_0, hx445_0, hx445_1, hx446_0, hx447_0, hx447_1⟩ (fun hHeld => ?_); refine with_tabW ephemerislaw2_ContradictChangeds.tab20 ephemerislaw2_ContradictChangeds.bits20 (fun HT_ HW_ => ?_)
                                                  generalize wc.drew = w64 at HO_7 HO_9 HO_12 BK416 HB HL444_0 HL446_0 HR444_0 HR446_0 hx444_0 hx445_0 hx445_1 hx446_0 hx447_0 hx447_1 hHeld ⊢
                                                  refine pure_ (i := 0) (N := some 96) (v := ?_) (a' := ?_) #[true, false, false, false, false, false, false, false, false, false, false, false, false, false, false] rfl rfl (any_of HT_.out (by kernel_rfl)) (fun _ _ _ h => h) (Or.inl ⟨by rfl, ?_⟩) ?_ ?_
                                                  rotate_left
                                                  · intro w'
                                                    go_simp
                                                    with_reducible rfl
                                                  rotate_left
                                                  · simp only [Act.put, List.setIfInBounds_toArray, List.set_cons_zero, List.set_cons_succ, i64_w, i32_w]
                                                    rfl
                                                  refine pure_ (i := 1) (N := some 97) (v := ?_) (a' := ?_) #[true, true, false, false, false, false, false, false, false, false, false, false, false, false, false] rfl rfl (any_of HT_.out (by kernel_rfl)) (fun _ _ _ h => h) (Or.inl ⟨by rfl, ?_⟩) ?_ ?_
                                                  rotate_left
                                                  · intro w'
                                                    go_simp
                                                    with_reducible rfl
                                                  rotate_left
                                                  · simp only [Act.put, List.setIfInBounds_toArray, List.set_cons_zero, List.set_cons_succ, i64_w, i32_w]
                                                    rfl
                                                  refine pure_ (i := 2) (N := some 98) (v := ?_) (a' := ?_) #[true, true, true, false, false, false, false, false, false, false, false, false, false, false, false] rfl rfl (any_of HT_.out (by kernel_rfl)) (fun _ _ _ h => h) (Or.inl ⟨by rfl, ?_⟩) ?_ ?_
                                                  rotate_left
                                                  · intro w'
                                                    go_simp
                                                    with_reducible rfl
                                                  rotate_left
                                                  · simp only [Act.put, List.setIfInBounds_toArray, List.set_cons_zero, List.set_cons_succ, i64_w, i32_w]
                                                    rfl
                                                  refine pure_ (i := 4) (N := some 100) (v := ?_) (a' := ?_) #[true, true, true, false, true, false, false, false, false, false, false, false, false, false, false] rfl rfl (any_of HT_.out (by kernel_rfl)) (fun _ _ _ h => h) (Or.inl ⟨by rfl, ?_⟩) ?_ ?_
                                                  rotate_left
                                                  · intro w'
                                                    go_simp
                                                    with_reducible rfl
                                                  rotate_left
                                                  · simp only [Act.put, List.setIfInBounds_toArray, List.set_cons_zero, List.set_cons_succ, i64_w, i32_w]
                                                    rfl
                                                  refine pure_ (i := 7) (N := some 103) (v := ?_) (a' := ?_) #[true, true, true, false, true, false, false, true, false, false, false, false, false, false, false] rfl rfl (any_of HT_.out (by kernel_rfl)) (fun _ _ _ h => h) (Or.inl ⟨by rfl, ?_⟩) ?_ ?_
                                                  rotate_left
                                                  · intro w'
                                                    go_simp
                                                    with_reducible rfl
                                                  rotate_left
                                                  · simp only [Act.put, List.setIfInBounds_toArray, List.set_cons_zero, List.set_cons_succ, i64_w, i32_w]
                                                    rfl
                                                  refine pure_ (i := 8) (N := some 104) (v := ?_) (a' := ?_) #[true, true, true, false, true, false, false, true, true, false, false, false, false, false, false] rfl rfl (any_of HT_.out (by kernel_rfl)) (fun _ _ _ h => h) (Or.inl ⟨by rfl, ?_⟩) ?_ ?_
                                                  rotate_left
                                                  · intro w'
                                                    go_simp
                                                    with_reducible rfl
                                                  rotate_left
                                                  · simp only [Act.put, List.setIfInBounds_toArray, List.set_cons_zero, List.set_cons_succ, i64_w, i32_w]
                                                    rfl
                                                  refine pure_ (i := 9) (N := some 105) (v := ?_) (a' := ?_) #[true, true, true, false, true, false, false, true, true, true, false, false, false, false, false] rfl rfl (any_of HT_.out (by kernel_rfl)) (fun _ _ _ h => h) (Or.inl ⟨by rfl, ?_⟩) ?_ ?_
                                                  rotate_left
                                                  · intro w'
                                                    go_simp
                                                    with_reducible rfl
                                                  rotate_left
                                                  · simp only [Act.put, List.setIfInBounds_toArray, List.set_cons_zero, List.set_cons_succ, i64_w, i32_w]
                                                    rfl
                                                  refine pure_ (i := 11) (N := some 107) (v := ?_) (a' := ?_) #[true, true, true, false, true, false, false, true, true, true, false, true, false, false, false] rfl rfl (any_of HT_.out (by kernel_rfl)) (fun _ _ _ h => h) (Or.inl ⟨by rfl, ?_⟩) ?_ ?_
                                                  rotate_left
                                                  · intro w'
                                                    go_simp
                                                    with_reducible rfl
                                                  rotate_left
                                                  · simp only [Act.put, List.setIfInBounds_toArray, List.set_cons_zero, List.set_cons_succ, i64_w, i32_w]
                                                    rfl
                                                  refine take_ (i := 3) (N := some 99) (v := ?_) (a' := ?_) #[true, true, true, true, true, false, false, true, true, true, false, true, false, false, false] rfl rfl (take_ofW HT_.out HW_.out (by kernel_rfl)) (fun _ _ _ h => h) (Or.inl ⟨by rfl, ?_⟩) hHeld ?_ ?_
                                                  rotate_left
                                                  · rintro w' ⟨s0, s1, s2, s3, s4, s5⟩
                                                    go_simp
                                                    with_reducible rfl
                                                  rotate_left
                                                  · simp only [Act.put, List.setIfInBounds_toArray, List.set_cons_zero, List.set_cons_succ, i64_w, i32_w]
                                                    rfl
                                                  refine pure_ (i := 5) (N := some 101) (v := ?_) (a' := ?_) #[true, true, true, true, true, true, false, true, true, true, false, true, false, false, false] rfl rfl (any_of HT_.out (by kernel_rfl)) (fun _ _ _ h => h) (Or.inl ⟨by rfl, ?_⟩) ?_ ?_
                                                  rotate_left
                                                  · intro w'
                                                    go_simp
                                                    with_reducible rfl
                                                  rotate_left
                                                  · simp only [Act.put, List.setIfInBounds_toArray, List.set_cons_zero, List.set_cons_succ, i64_w, i32_w]
                                                    rfl
                                                  refine take_ (i := 6) (N := some 102) (v := ?_) (a' := ?_) #[true, true, true, true, true, true, true, true, true, true, false, true, false, false, false] rfl rfl (take_ofW HT_.out HW_.out (by kernel_rfl)) (fun _ _ _ h => h) (Or.inl ⟨by rfl, ?_⟩) hHeld ?_ ?_
                                                  rotate_left
                                                  · rintro w' ⟨s0, s1, s2, s3, s4, s5⟩
                                                    go_simp
                                                    with_reducible rfl
                                                  rotate_left
                                                  · simp only [Act.put, List.setIfInBounds_toArray, List.set_cons_zero, List.set_cons_succ, i64_w, i32_w]
                                                    rfl
                                                  refine take_ (i := 10) (N := some 106) (v := ?_) (a' := ?_) #[true, true, true, true, true, true, true, true, true, true, true, true, false, false, false] rfl rfl (take_ofW HT_.out HW_.out (by kernel_rfl)) (fun _ _ _ h => h) (Or.inl ⟨by rfl, ?_⟩) hHeld ?_ ?_
                                                  rotate_left
                                                  · rintro w' ⟨s0, s1, s2, s3, s4, s5⟩
                                                    go_simp
                                                    with_reducible rfl
                                                  rotate_left
                                                  · simp only [Act.put, List.setIfInBounds_toArray, List.set_cons_zero, List.set_cons_succ, i64_w, i32_w]
                                                    rfl
                                                  refine pure_ (i := 12) (N := some 108) (v := ?_) (a' := ?_) #[true, true, true, true, true, true, true, true, true, true, true, true, true, false, false] rfl rfl (any_of HT_.out (by kernel_rfl)) (fun _ _ _ h => h) (Or.inl ⟨by rfl, ?_⟩) ?_ ?_
                                                  rotate_left
                                                  · intro w'
                                                    go_simp
                                                    with_reducible rfl
                                                  rotate_left
                                                  · simp only [Act.put, List.setIfInBounds_toArray, List.set_cons_zero, List.set_cons_succ, i64_w, i32_w]
                                                    rfl
                                                  refine take_ (i := 13) (N := some 109) (v := ?_) (a' := ?_) #[true, true, true, true, true, true, true, true, true, true, true, true, true, true, false] rfl rfl (take_ofW HT_.out HW_.out (by kernel_rfl)) (fun _ _ _ h => h) (Or.inl ⟨by rfl, ?_⟩) hHeld ?_ ?_
                                                  rotate_left
                                                  · rintro w' ⟨s0, s1, s2, s3, s4, s5⟩
                                                    go_simp
                                                    with_reducible rfl
                                                  rotate_left
                                                  · simp only [Act.put, List.setIfInBounds_toArray, List.set_cons_zero, List.set_cons_succ, i64_w, i32_w]
                                                    rfl
                                                  refine pure_ (i := 14) (N := some 110) (v := ?_) (a' := ?_) #[true, true, true, true, true, true, true, true, true, true, true, true, true, true, true] rfl rfl (any_of HT_.out (by kernel_rfl)) (fun _ _ _ h => h) (Or.inl ⟨by rfl, ?_⟩) ?_ ?_
                                                  rotate_left
                                                  · intro w'
                                                    go_simp
                                                    with_reducible rfl
                                                  rotate_left
                                                  · simp only [Act.put, List.setIfInBounds_toArray, List.set_cons_zero, List.set_cons_succ, i64_w, i32_w]
                                                    rfl
                                                  refine done_ (done_of HT_.out (by kernel_rfl)) ?_
                                                  try go_wp2
                                                  go_roundg kj39
                                                  case measure => have := HJ10.out; have := HJ28.out; have := HK3.out; have := HK4.out; have := HJ39.out; omega
                                                  case rel => exact ⟨(x14_4), (wrap64 (x16_4 + 1)), (by first | rfl | (simp; done) | (simp [*]; done)), (by first | rfl | (simp; done) | (simp [*]; done)), H', ⟨by have := HJ10.out; have := HJ28.out; have := HK3.out; have := HK4.out; have := HJ39.out; omega⟩, ⟨by (with_reducible repeat (first | apply Kd.R_alloc | apply Kd.R_drewN | apply Kd.R_drew)); exact HO_7.out⟩, ⟨by (with_reducible repeat (first | apply Kd.S_alloc | apply Kd.S_drewN | apply Kd.S_drew)); exact HO_9.out⟩, ⟨by (with_reducible repeat (first | apply Kd.S_alloc | apply Kd.S_drewN | apply Kd.S_drew)); exact HO_12.out⟩, ⟨by (with_reducible repeat (first | refine blk_drewN ?_ _ | refine blk_drew ?_ | refine blk_alloc ?_ _)); exact BK416.out⟩, ⟨by repeat (first | (with_reducible first | exact HB.out | apply below_alloc | apply pw_below_drewN | apply below_drew1 | refine below_set ?_ GE416.out) | exact HB.out)⟩⟩
                                              · rw [if_neg c54] at H
                                                exact absurd H (by simp)
                                            · rw [if_neg c53] at H
                                              exact absurd H (by simp)
                                          · rw [if_neg c52] at H
                                            exact absurd H (by simp)
                                        · rw [if_neg c51] at H
                                          exact absurd H (by simp)
                                      · rw [if_neg c50] at H
                                        exact absurd H (by simp)
                                    · rw [if_neg c49] at H
                                      exact absurd H (by simp)
                            · rw [if_neg c39] at H
                              have c39b0 : decide (x16_4 < a0) = false := decide_eq_false c39
                              clear c39
                              have H' := Aside0.mk H
                              clear H
                              go_wp2
                              go_roundg k4
                              case measure => have := HJ10.out; have := HJ28.out; have := HK3.out; have := HK4.out; omega
                              case rel => exact ⟨(x14_4), (wrap64 (x70_3 + 1)), (by first | rfl | (simp; done) | (simp [*]; done)), (by first | rfl | (simp; done) | (simp [*]; done)), H', ⟨by have := HJ10.out; have := HJ28.out; have := HK3.out; have := HK4.out; omega⟩, ⟨by (with_reducible repeat (first | apply Kd.R_alloc | apply Kd.R_drewN | apply Kd.R_drew)); exact HO_7.out⟩, ⟨by (with_reducible repeat (first | apply Kd.S_alloc | apply Kd.S_drewN | apply Kd.S_drew)); exact HO_9.out⟩, ⟨by (with_reducible repeat (first | apply Kd.S_alloc | apply Kd.S_drewN | apply Kd.S_drew)); exact HO_12.out⟩, ⟨by (with_reducible repeat (first | refine blk_drewN ?_ _ | refine blk_drew ?_ | refine blk_alloc ?_ _)); exact BK416.out⟩, ⟨by repeat (first | (with_reducible first | exact HB.out | apply below_alloc | apply pw_below_drewN | apply below_drew1 | refine below_set ?_ GE416.out) | exact HB.out)⟩⟩
                      · rw [if_neg c38] at H
                        have c38b0 : decide (x70_3 < a0) = false := decide_eq_false c38
                        clear c38
                        by_cases c67 : t421 = 0
                        · rw [if_pos c67] at H
                          have c67b0 : (t421 == 0) = true := beq_iff_eq.mpr c67
                          have c67b1 : (t421 != 0) = false := bne_eq_false_iff_eq.mpr c67
                          clear c67
                          obtain rfl := Option.some.inj H
                          simp only [Option.some.injEq, Prod.mk.injEq] at H
                          obtain ⟨rfl⟩ := H
                          obtain ⟨Ao68, co68, eo68⟩ := Kd.R_slice HO_7.out
                          subst eo68
                          go_wp2
                          go_ret
                          exact ⟨by first | rfl | (simp [errW_none, errW_some] <;> rfl) | (simp [*, errW_none, errW_some] <;> rfl), by repeat (first | (with_reducible first | exact HB.out | apply below_alloc | apply pw_below_drewN | apply below_drew1 | refine below_set ?_ GE416.out) | exact HB.out)⟩
                        · rw [if_neg c67] at H
                          have c67b0 : (t421 == 0) = false := beq_eq_false_iff_ne.mpr c67
                          have c67b1 : (t421 != 0) = true := bne_iff_ne.mpr c67
                          obtain rfl := Option.some.inj H
                          exact absurd hT (by decide)
      · rw [if_neg c9] at H
        exact absurd H (by simp)
    · rw [if_neg c8] at H
      exact absurd H (by simp)
  · replace c5 := Bool.eq_false_iff.mpr c5
    subst c5
    have H1 : (some false) = some r := by rw [if_neg (show ¬ (false = true) by decide)] at H; exact H
    clear H
    have H := H1
    clear H1
    obtain rfl := Option.some.inj H
    exact absurd hT (by decide)
end Go.Proofs.Ytfbjpdiaicaagaa.PAll
