/- Written by a program of this session out of the translation. -/
import Derived.Test.YtfbjpdiaicaagaaTopContradictn8
import Derived.Test.YtfbjpdiaicaagaaTopContradictn3
import Derived.Test.YtfbjpdiaicaagaaTopContradictn5
import Derived.Test.YtfbjpdiaicaagaaTopContradictn6
import Derived.Test.YtfbjpdiaicaagaaTopContradictn7
namespace Go.Proofs.Ytfbjpdiaicaagaa.PAll
open Go.RowKit Go.Proofs.YtfbjpdiaicaagaaW.PrintWords Go.Proofs.YtfbjpdiaicaagaaW.PrintLast Go.Proofs.YtfbjpdiaicaagaaW.PrintMore Go.Proofs.Ytfbjpdiaicaagaa.More2 Go.Proofs.Ytfbjpdiaicaagaa.Sq
attribute [local go_sem] max2_int min2_int max_two min_two max_three min_three max_four min_four tdiv2e18_ tdiv1e18_ cellSS_  -- for this text's walks alone
set_option linter.unusedVariables false
set_option linter.unusedSimpArgs false
theorem two_types_ {w : World} {k t t' : Nat} (h : ∃ c, w.heap[k]? = some (.cells c t (0, 0))) (h' : ∃ c, w.heap[k]? = some (.cells c t' (0, 0))) (ht : t ≠ t') : False := by
 obtain ⟨c, e⟩ := h
 obtain ⟨c', e'⟩ := h'
 rw [e] at e'
 injection e' with e'
 injection e' with _ e' _
 exact ht e'
mutual
def ephemeristop_TopContradict.j0 : Nat → List (S43) → Int → Int → Int → List (List (S35)) → Bool → Option (Bool)
 | 0, _, _, _, _, _, _ => none
 | k + 1, x1, x2, x3, x9, x10, x66 => if x66 = true then (some false) else (if 0 ≤ x2 then (if x2 < (x10.length : Int) then (if 0 ≤ x3 then (if x3 < ((rd_L4 x10 x2).length : Int) then (if ((rd_T35 (rd_L4 x10 x2) x3).f1) ≥ 1000000 then (some true) else ((some (([] : List (S43)) : List (S43))).bind fun y484 => (if y484.length + x1.length < 4398046511104 then ((some (y484 ++ x1 : List (S43))).bind fun y487 => ((some (([(⟨x2, x3, wrap64 (((rd_T35 (rd_L4 x10 x2) x3).f1) + 1), wrap64 (((rd_T35 (rd_L4 x10 x2) x3).f1) + 2)⟩ : S43)] : List (S43)) : List (S43))).bind fun y494 => (if y487.length + y494.length < 4398046511104 then ((some (y487 ++ y494 : List (S43))).bind fun y497 => ((contradict_Least.f k x9 y497).bind fun bt500 => ((contradict_Least.f k x9 x1).bind fun bt504 => (if bt500.2 = 0 then (if bt504.2 = 6 then (if (bt500.1.length : Int) < 2 then (ephemeristop_TopContradict.j1 k x9 y497 bt500.1 true) else (if 0 ≤ (wrap64 ((bt500.1.length : Int) - 1)) then (if (wrap64 ((bt500.1.length : Int) - 1)) < (bt500.1.length : Int) then (ephemeristop_TopContradict.j1 k x9 y497 bt500.1 ((rd bt500.1 (wrap64 ((bt500.1.length : Int) - 1))) != (x1.length : Int))) else (none)) else (none))) else (ephemeristop_TopContradict.j1 k x9 y497 bt500.1 true)) else (ephemeristop_TopContradict.j1 k x9 y497 bt500.1 true))))) else (none)))) else (none)))) else (none)) else (none)) else (none)) else (none))
def ephemeristop_TopContradict.j1 : Nat → Int → List (S43) → List Int → Bool → Option (Bool)
 | 0, _, _, _, _ => none
 | k + 1, x9, x12, x13, x135 => if x135 = true then (some false) else (if 1 ≤ (x13.length : Int) then ((some (x13.drop 1 : List Int)).bind fun y509 => (ephemeristop_TopContradict.l0 k x9 x12 ([] : List (S43)) y509 (y509.length : Int) 0)) else (none))
def ephemeristop_TopContradict.l0 : Nat → Int → List (S43) → List (S43) → List Int → Int → Int → Option (Bool)
 | 0, _, _, _, _, _, _ => none
 | k + 1, x9, x12, x17, x137, x138, x139 => if x139 < x138 then (if 0 ≤ x139 then (if x139 < (x137.length : Int) then (if (rd x137 x139) < 0 then (some false) else (if (rd x137 x139) ≥ (x12.length : Int) then (some false) else (if 0 ≤ (rd x137 x139) then (if (rd x137 x139) < (x12.length : Int) then ((some (([(⟨(rd_T43 x12 (rd x137 x139)).f0, (rd_T43 x12 (rd x137 x139)).f1, (rd_T43 x12 (rd x137 x139)).f2, (rd_T43 x12 (rd x137 x139)).f3⟩ : S43)] : List (S43)) : List (S43))).bind fun y515 => (if x17.length + y515.length < 4398046511104 then (ephemeristop_TopContradict.l0 k x9 x12 (x17 ++ y515) x137 x138 (wrap64 (x139 + 1))) else (none))) else (none)) else (none)))) else (none)) else (none)) else ((chron_Tightest.f k x9 x17).bind fun bt521 => (some (bt521.2 == 0)))
end
def ephemeristop_TopContradict.f (k : Nat) (l0 : List Int) (l1 : List (S43)) (a2 : Int) (a3 : Int) : Option (Bool) := (ephemeristop_sChron.f k).bind fun t470 => (if t470 = true then ((ephemeristop_sEvents.f k l0 l1).bind fun bt471 => (if bt471.1 < 2 then (some true) else ((ephemeristop_sAt.f a2 bt471.1).bind fun t475 => ((ephemeristop_sAt.f a3 (wrap64 (bt471.1 - 1))).bind fun t476 => (if bt471.1 = 0 then (none) else ((chron_Tightest.f k bt471.1 bt471.2).bind fun bt477 => (if bt477.2 = 0 then (if (bt477.1.length : Int) = bt471.1 then (if 0 ≤ t475 then (if t475 < (bt477.1.length : Int) then (ephemeristop_TopContradict.j0 k bt471.2 t475 (Int.tmod (wrap64 ((wrap64 (t475 + 1)) + t476)) bt471.1) bt471.1 bt477.1 (((rd_L4 bt477.1 t475).length : Int) != bt471.1)) else (none)) else (none)) else (ephemeristop_TopContradict.j0 k bt471.2 t475 (Int.tmod (wrap64 ((wrap64 (t475 + 1)) + t476)) bt471.1) bt471.1 bt477.1 true)) else (ephemeristop_TopContradict.j0 k bt471.2 t475 (Int.tmod (wrap64 ((wrap64 (t475 + 1)) + t476)) bt471.1) bt471.1 bt477.1 true)))))))) else (some false))
def ephemeristop_TopContradict.T13 : Bool × List (List Nat × List Nat) := (true, [([], []), ([], []), ([0, 1], [0, 1]), ([], []), ([], []), ([], []), ([], []), ([5, 6], [5, 6]), ([7], [7]), ([], []), ([8, 9], [8, 9]), ([10], [10]), ([11], [11]), ([12], [12]), ([], []), ([], []), ([14, 15], [14, 15]), ([16], [16]), ([], []), ([17, 18], [17, 18]), ([19], [19]), ([20], [20]), ([21], [21]), ([3, 4, 13, 22], [3, 4, 13, 22]), ([23], [23]), ([2, 24, 2], [2, 24]), ([25, 25, 0, 1, 2, 3, 4, 5, 6, 7, 8, 9, 10, 11, 12, 13, 14, 15, 16, 17, 18, 19, 20, 21, 22, 23, 24, 25], [25])])
def ephemeristop_TopContradict.B13 : List Nat := [0, 0, 3, 0, 0, 0, 0, 96, 224, 0, 992, 2016, 4064, 8160, 0, 0, 49152, 114688, 0, 507904, 1032192, 2080768, 4177920, 8388600, 16777208, 33554431, 67108863]
theorem ephemeristop_TopContradict.tab13 : rtab .any (opsOf Try.f8 13) = ephemeristop_TopContradict.T13 := by kernel_rfl
theorem ephemeristop_TopContradict.bits13 : waitsOk ephemeristop_TopContradict.T13.2 ephemeristop_TopContradict.B13 = true := by kernel_rfl
set_option maxHeartbeats 8000000 in
set_option maxRecDepth 100000 in
theorem ephemeristop_TopContradict.calls (k : Nat) (A0 : Option Addr) (c0 : Nat) (l0 : List Int) (A1 : Option Addr) (c1 : Nat) (l1 : List (S43)) (a2 : Int) (a3 : Int) (r : Bool) (w : World) (hr0 : Kd.C (Kd.int .i64) w A0 l0.length l0) (hc0 : l0.length ≤ c0) (hr1 : Kd.C k43 w A1 l1.length l1) (hc1 : l1.length ≤ c1) (h : ephemeristop_TopContradict.f k l0 l1 a2 a3 = some r) (hT : r = true) :
  Calls Try.prog 8 #[.slice A0 l0.length c0, .slice A1 l1.length c1, .int .i64 a2, .int .i64 a3] w fun e w' => e = .returned (.bool r) ∧ Below w.heap.size w w' := by
 have hu43 := Try.underlying43
 have HR0 := Aside0.mk hr0
 have HC0 := Aside0.mk hc0
 clear hr0 hc0
 have HR1 := Aside0.mk hr1
 have HC1 := Aside0.mk hc1
 clear hr1 hc1
 have HB := Aside0.mk (Below.refl w.heap.size w)
 have H : ((ephemeristop_sChron.f k).bind fun t470 => (if t470 = true then ((ephemeristop_sEvents.f k l0 l1).bind fun bt471 => (if bt471.1 < 2 then (some true) else ((ephemeristop_sAt.f a2 bt471.1).bind fun t475 => ((ephemeristop_sAt.f a3 (wrap64 (bt471.1 - 1))).bind fun t476 => (if bt471.1 = 0 then (none) else ((chron_Tightest.f k bt471.1 bt471.2).bind fun bt477 => (if bt477.2 = 0 then (if (bt477.1.length : Int) = bt471.1 then (if 0 ≤ t475 then (if t475 < (bt477.1.length : Int) then (ephemeristop_TopContradict.j0 k bt471.2 t475 (Int.tmod (wrap64 ((wrap64 (t475 + 1)) + t476)) bt471.1) bt471.1 bt477.1 (((rd_L4 bt477.1 t475).length : Int) != bt471.1)) else (none)) else (none)) else (ephemeristop_TopContradict.j0 k bt471.2 t475 (Int.tmod (wrap64 ((wrap64 (t475 + 1)) + t476)) bt471.1) bt471.1 bt477.1 true)) else (ephemeristop_TopContradict.j0 k bt471.2 t475 (Int.tmod (wrap64 ((wrap64 (t475 + 1)) + t476)) bt471.1) bt471.1 bt477.1 true)))))))) else (some false))) = some r := h
 clear h
 replace H := Option.bind_eq_some_iff.mp H
 obtain ⟨t470, A50, H⟩ := H
 replace H : (if t470 = true then ((ephemeristop_sEvents.f k l0 l1).bind fun bt471 => (if bt471.1 < 2 then (some true) else ((ephemeristop_sAt.f a2 bt471.1).bind fun t475 => ((ephemeristop_sAt.f a3 (wrap64 (bt471.1 - 1))).bind fun t476 => (if bt471.1 = 0 then (none) else ((chron_Tightest.f k bt471.1 bt471.2).bind fun bt477 => (if bt477.2 = 0 then (if (bt477.1.length : Int) = bt471.1 then (if 0 ≤ t475 then (if t475 < (bt477.1.length : Int) then (ephemeristop_TopContradict.j0 k bt471.2 t475 (Int.tmod (wrap64 ((wrap64 (t475 + 1)) + t476)) bt471.1) bt471.1 bt477.1 (((rd_L4 bt477.1 t475).length : Int) != bt471.1)) else (none)) else (none)) else (ephemeristop_TopContradict.j0 k bt471.2 t475 (Int.tmod (wrap64 ((wrap64 (t475 + 1)) + t476)) bt471.1) bt471.1 bt477.1 true)) else (ephemeristop_TopContradict.j0 k bt471.2 t475 (Int.tmod (wrap64 ((wrap64 (t475 + 1)) + t476)) bt471.1) bt471.1 bt477.1 true)))))))) else (some false)) = some r := H
 have A5 := Aside0.mk A50
 clear A50
 by_cases c6 : t470 = true
 ·subst c6
  have H1 : ((ephemeristop_sEvents.f k l0 l1).bind fun bt471 => (if bt471.1 < 2 then (some true) else ((ephemeristop_sAt.f a2 bt471.1).bind fun t475 => ((ephemeristop_sAt.f a3 (wrap64 (bt471.1 - 1))).bind fun t476 => (if bt471.1 = 0 then (none) else ((chron_Tightest.f k bt471.1 bt471.2).bind fun bt477 => (if bt477.2 = 0 then (if (bt477.1.length : Int) = bt471.1 then (if 0 ≤ t475 then (if t475 < (bt477.1.length : Int) then (ephemeristop_TopContradict.j0 k bt471.2 t475 (Int.tmod (wrap64 ((wrap64 (t475 + 1)) + t476)) bt471.1) bt471.1 bt477.1 (((rd_L4 bt477.1 t475).length : Int) != bt471.1)) else (none)) else (none)) else (ephemeristop_TopContradict.j0 k bt471.2 t475 (Int.tmod (wrap64 ((wrap64 (t475 + 1)) + t476)) bt471.1) bt471.1 bt477.1 true)) else (ephemeristop_TopContradict.j0 k bt471.2 t475 (Int.tmod (wrap64 ((wrap64 (t475 + 1)) + t476)) bt471.1) bt471.1 bt477.1 true)))))))) = some r := by rw [if_pos rfl] at H; exact H
  clear H
  have H := H1
  clear H1
  replace H := Option.bind_eq_some_iff.mp H
  obtain ⟨⟨t471, t472⟩, A70, H⟩ := H
  replace H : (if t471 < 2 then (some true) else ((ephemeristop_sAt.f a2 t471).bind fun t475 => ((ephemeristop_sAt.f a3 (wrap64 (t471 - 1))).bind fun t476 => (if t471 = 0 then (none) else ((chron_Tightest.f k t471 t472).bind fun bt477 => (if bt477.2 = 0 then (if (bt477.1.length : Int) = t471 then (if 0 ≤ t475 then (if t475 < (bt477.1.length : Int) then (ephemeristop_TopContradict.j0 k t472 t475 (Int.tmod (wrap64 ((wrap64 (t475 + 1)) + t476)) t471) t471 bt477.1 (((rd_L4 bt477.1 t475).length : Int) != t471)) else (none)) else (none)) else (ephemeristop_TopContradict.j0 k t472 t475 (Int.tmod (wrap64 ((wrap64 (t475 + 1)) + t476)) t471) t471 bt477.1 true)) else (ephemeristop_TopContradict.j0 k t472 t475 (Int.tmod (wrap64 ((wrap64 (t475 + 1)) + t476)) t471) t471 bt477.1 true))))))) = some r := H
  have A7 := Aside0.mk A70
  clear A70
  by_cases c8 : t471 < 2
  ·rw [if_pos c8] at H
   have c8b0 : decide (t471 < 2) = true := decide_eq_true c8
   clear c8
   obtain rfl := Option.some.inj H
   simp only [Option.some.injEq, Prod.mk.injEq] at H
   obtain ⟨rfl⟩ := H
   go_enter Try.func8, Try.ntmps8
   go_wp2_with (first | ((with_reducible refine gate_callee (f := 23) rfl ?_); refine goesL_ (some 22) rfl rfl Try.func23 (by kernel_rfl) rfl #[] rfl (by (try simp only [List.map_toArray, List.map_cons, List.map_nil]); first | done | rfl | (simp only [List.length_drop, List.length_take]; rfl)) ?_; (with_reducible refine (ephemeristop_sChron.calls k  true _ A5.out).mono ?_); rintro e w9 ⟨rfl, hb⟩; refine ⟨_, rfl, ?_⟩; replace HB := bs_ HB hb; (try clear hb); (try clear hb2); (try clear hk); (try clear hi)) | ((with_reducible refine gate_callee (f := 24) rfl ?_); refine goesL_ (some 27) rfl rfl Try.func24 (by kernel_rfl) rfl #[.slice A0 l0.length c0, .slice A1 l1.length c1] rfl (by (try simp only [List.map_toArray, List.map_cons, List.map_nil]); first | done | rfl | (simp only [List.length_drop, List.length_take]; rfl)) ?_; (with_reducible refine (ephemeristop_sEvents.calls k _ _ l0 _ _ l1 t471 t472 _ ?side1 ?side2 ?side3 ?side4 A7.out).mono ?_); (case side1 => repeat (first | exact (Kd.C_below HR0.out HB.out) | (with_reducible refine Kd.C_alloc ?_ _) | (with_reducible refine Kd.C_drewN ?_ _) | (with_reducible refine Kd.C_drew ?_))); (case side2 => exact HC0.out); (case side3 => repeat (first | exact (Kd.C_below HR1.out HB.out) | (with_reducible refine Kd.C_alloc ?_ _) | (with_reducible refine Kd.C_drewN ?_ _) | (with_reducible refine Kd.C_drew ?_))); (case side4 => exact HC1.out); rintro e w10 ⟨v473, rfl, ho0, hb⟩; refine ⟨_, rfl, ?_⟩; have HO474 := Aside0.mk (Kd.R_lower ho0 (below_size (be_ HB).out)); replace HB := bs_ HB hb; (try clear hb); (try clear hb2); (try clear hk); (try clear hi); (try clear ho0)))
   go_ret
   exact ⟨by first | rfl | (simp [errW_none, errW_some] <;> rfl) | (simp [*, errW_none, errW_some] <;> rfl), (be_ HB).out⟩
  ·rw [if_neg c8] at H
   have c8b0 : decide (t471 < 2) = false := decide_eq_false c8
   clear c8
   replace H := Option.bind_eq_some_iff.mp H
   obtain ⟨t475, A110, H⟩ := H
   replace H : ((ephemeristop_sAt.f a3 (wrap64 (t471 - 1))).bind fun t476 => (if t471 = 0 then (none) else ((chron_Tightest.f k t471 t472).bind fun bt477 => (if bt477.2 = 0 then (if (bt477.1.length : Int) = t471 then (if 0 ≤ t475 then (if t475 < (bt477.1.length : Int) then (ephemeristop_TopContradict.j0 k t472 t475 (Int.tmod (wrap64 ((wrap64 (t475 + 1)) + t476)) t471) t471 bt477.1 (((rd_L4 bt477.1 t475).length : Int) != t471)) else (none)) else (none)) else (ephemeristop_TopContradict.j0 k t472 t475 (Int.tmod (wrap64 ((wrap64 (t475 + 1)) + t476)) t471) t471 bt477.1 true)) else (ephemeristop_TopContradict.j0 k t472 t475 (Int.tmod (wrap64 ((wrap64 (t475 + 1)) + t476)) t471) t471 bt477.1 true))))) = some r := H
   have A11 := Aside0.mk A110
   clear A110
   replace H := Option.bind_eq_some_iff.mp H
   obtain ⟨t476, A120, H⟩ := H
   replace H : (if t471 = 0 then (none) else ((chron_Tightest.f k t471 t472).bind fun bt477 => (if bt477.2 = 0 then (if (bt477.1.length : Int) = t471 then (if 0 ≤ t475 then (if t475 < (bt477.1.length : Int) then (ephemeristop_TopContradict.j0 k t472 t475 (Int.tmod (wrap64 ((wrap64 (t475 + 1)) + t476)) t471) t471 bt477.1 (((rd_L4 bt477.1 t475).length : Int) != t471)) else (none)) else (none)) else (ephemeristop_TopContradict.j0 k t472 t475 (Int.tmod (wrap64 ((wrap64 (t475 + 1)) + t476)) t471) t471 bt477.1 true)) else (ephemeristop_TopContradict.j0 k t472 t475 (Int.tmod (wrap64 ((wrap64 (t475 + 1)) + t476)) t471) t471 bt477.1 true)))) = some r := H
   have A12 := Aside0.mk A120
   clear A120
   by_cases c13 : t471 = 0
   ·rw [if_pos c13] at H
    exact absurd H (by simp)
   ·rw [if_neg c13] at H
    have c13b0 : (t471 == 0) = false := beq_eq_false_iff_ne.mpr c13
    have c13b1 : (t471 != 0) = true := bne_iff_ne.mpr c13
    replace H := Option.bind_eq_some_iff.mp H
    obtain ⟨⟨t477, t478⟩, A140, H⟩ := H
    replace H : (if t478 = 0 then (if (t477.length : Int) = t471 then (if 0 ≤ t475 then (if t475 < (t477.length : Int) then (ephemeristop_TopContradict.j0 k t472 t475 (Int.tmod (wrap64 ((wrap64 (t475 + 1)) + t476)) t471) t471 t477 (((rd_L4 t477 t475).length : Int) != t471)) else (none)) else (none)) else (ephemeristop_TopContradict.j0 k t472 t475 (Int.tmod (wrap64 ((wrap64 (t475 + 1)) + t476)) t471) t471 t477 true)) else (ephemeristop_TopContradict.j0 k t472 t475 (Int.tmod (wrap64 ((wrap64 (t475 + 1)) + t476)) t471) t471 t477 true)) = some r := H
    have A14 := Aside0.mk A140
    clear A140
    have HC15 := Aside0.mk H
    clear H
    go_enter Try.func8, Try.ntmps8
    go_upto_region 9 with (first | ((with_reducible refine gate_callee (f := 23) rfl ?_); refine goesL_ (some 22) rfl rfl Try.func23 (by kernel_rfl) rfl #[] rfl (by (try simp only [List.map_toArray, List.map_cons, List.map_nil]); first | done | rfl | (simp only [List.length_drop, List.length_take]; rfl)) ?_; (with_reducible refine (ephemeristop_sChron.calls k  true _ A5.out).mono ?_); rintro e w16 ⟨rfl, hb⟩; refine ⟨_, rfl, ?_⟩; replace HB := bs_ HB hb; (try clear hb); (try clear hb2); (try clear hk); (try clear hi)) | ((with_reducible refine gate_callee (f := 24) rfl ?_); refine goesL_ (some 27) rfl rfl Try.func24 (by kernel_rfl) rfl #[.slice A0 l0.length c0, .slice A1 l1.length c1] rfl (by (try simp only [List.map_toArray, List.map_cons, List.map_nil]); first | done | rfl | (simp only [List.length_drop, List.length_take]; rfl)) ?_; (with_reducible refine (ephemeristop_sEvents.calls k _ _ l0 _ _ l1 t471 t472 _ ?side1 ?side2 ?side3 ?side4 A7.out).mono ?_); (case side1 => repeat (first | exact (Kd.C_below HR0.out HB.out) | (with_reducible refine Kd.C_alloc ?_ _) | (with_reducible refine Kd.C_drewN ?_ _) | (with_reducible refine Kd.C_drew ?_))); (case side2 => exact HC0.out); (case side3 => repeat (first | exact (Kd.C_below HR1.out HB.out) | (with_reducible refine Kd.C_alloc ?_ _) | (with_reducible refine Kd.C_drewN ?_ _) | (with_reducible refine Kd.C_drew ?_))); (case side4 => exact HC1.out); rintro e w17 ⟨v473, rfl, ho0, hb⟩; refine ⟨_, rfl, ?_⟩; have HO474 := Aside0.mk (Kd.R_lower ho0 (below_size (be_ HB).out)); replace HB := bs_ HB hb; (try clear hb); (try clear hb2); (try clear hk); (try clear hi); (try clear ho0)) | ((with_reducible refine gate_callee (f := 25) rfl ?_); refine goesL_ (some 34) rfl rfl Try.func25 (by kernel_rfl) rfl #[.int .i64 a2, .int .i64 t471] rfl (by (try simp only [List.map_toArray, List.map_cons, List.map_nil]); first | done | rfl | (simp only [List.length_drop, List.length_take]; rfl)) ?_; (with_reducible refine (ephemeristop_sAt.calls a2 t471 t475 _ A11.out).mono ?_); rintro e w' ⟨rfl, ⟨nd, rfl⟩⟩; refine ⟨_, rfl, ?_⟩) | ((with_reducible refine gate_callee (f := 25) rfl ?_); refine goesL_ (some 40) rfl rfl Try.func25 (by kernel_rfl) rfl #[.int .i64 a3, .int .i64 (wrap64 (t471 - 1))] rfl (by (try simp only [List.map_toArray, List.map_cons, List.map_nil]); first | done | rfl | (simp only [List.length_drop, List.length_take]; rfl)) ?_; (with_reducible refine (ephemeristop_sAt.calls a3 (wrap64 (t471 - 1)) t476 _ A12.out).mono ?_); rintro e w' ⟨rfl, ⟨nd, rfl⟩⟩; refine ⟨_, rfl, ?_⟩; obtain ⟨Ao18, co18, eo18⟩ := Kd.R_slice HO474.out; subst eo18) | ((with_reducible refine gate_callee (f := 11) rfl ?_); refine goesL_ (some 47) rfl rfl Try.func11 (by kernel_rfl) rfl #[.int .i64 t471, .slice Ao18 t472.length co18] rfl (by (try simp only [List.map_toArray, List.map_cons, List.map_nil]); first | done | rfl | (simp only [List.length_drop, List.length_take]; rfl)) ?_; (with_reducible refine (chron_Tightest.calls k t471 _ _ t472 t477 t478 _ ?side1 ?side2 A14.out).mono ?_); (case side1 => repeat (first | exact (Kd.R_reads' HO474.out).2.2 | (with_reducible refine Kd.C_alloc ?_ _) | (with_reducible refine Kd.C_drewN ?_ _) | (with_reducible refine Kd.C_drew ?_))); (case side2 => exact (Kd.R_reads' HO474.out).2.1); rintro e w19 ⟨v479, rfl, ho0, hb⟩; refine ⟨_, rfl, ?_⟩; have n0_ := Aside0.mk (Kd.R_below (by (with_reducible repeat (first | apply Kd.R_alloc | apply Kd.R_drewN | apply Kd.R_drew)); exact HO474.out) hb); have n1_ := Aside0.mk (Kd.S_lower ho0 (below_size (be_ HB).out)); have n2_ := bs_ HB hb; clear HO474; clear HB; have HO474 := n0_; have HO480 := n1_; have HB := n2_; clear n0_ n1_ n2_; (try clear hb); (try clear hb2); (try clear hk); (try clear hi); (try clear ho0)))
    (try simp only [Act.put, List.setIfInBounds_toArray, List.set_cons_zero, List.set_cons_succ])
    go_cut [66] (fun v66 wc => ∃ (kq : Nat) (x66_14 : Bool), v66 = .bool x66_14 ∧ Aside0 (ephemeristop_TopContradict.j0 kq t472 t475 (Int.tmod (wrap64 ((wrap64 (t475 + 1)) + t476)) t471) t471 t477 x66_14 = some r) ∧ Aside0 (kq ≤ k) ∧ Aside0 (Kd.R k43 43 wc w.heap.size (fun _ => True) (.slice Ao18 t472.length co18) t472) ∧ Aside0 (Kd.S (Kd.slice 35 k35) 33 wc w.heap.size (fun _ => True) v479 t477) ∧ Aside0 (Below w.heap.size w wc))
    case first =>
     have H := HC15.out
     clear HC15
     by_cases c20 : t478 = 0
     ·rw [if_pos c20] at H
      have c20b0 : (t478 == 0) = true := beq_iff_eq.mpr c20
      have c20b1 : (t478 != 0) = false := bne_eq_false_iff_eq.mpr c20
      clear c20
      (first | rw [c20b0] | (simp only [i64_w, i32_w]; rw [c20b0]) | skip)
      by_cases c21 : (t477.length : Int) = t471
      ·rw [if_pos c21] at H
       have c21b0 : ((t477.length : Int) == t471) = true := beq_iff_eq.mpr c21
       have c21b1 : ((t477.length : Int) != t471) = false := bne_eq_false_iff_eq.mpr c21
       clear c21
       by_cases c22 : 0 ≤ t475
       ·rw [if_pos c22] at H
        have c22b0 : decide (0 ≤ t475) = true := decide_eq_true c22
        clear c22
        by_cases c23 : t475 < (t477.length : Int)
        ·rw [if_pos c23] at H
         have c23b0 : decide (t475 < (t477.length : Int)) = true := decide_eq_true c23
         clear c23
         have H' := Aside0.mk H
         clear H
         obtain ⟨Ao24, co24, eo24⟩ := Kd.S_slice HO480.out
         subst eo24
         have p481 : 0 ≤ (t475 : Int) := of_decide_eq_true (by first | (with_reducible assumption) | assumption)
         have q481 : t475 < (t477.length : Int) := of_decide_eq_true (by first | (with_reducible assumption) | assumption)
         obtain ⟨ad481, A481_0, c481_0, e481, hx481_0, hl481_0, hi481_0⟩ := at_L4 (Kd.S_reads' HO480.out).2.2 t475 p481 q481
         cases e481
         obtain ⟨ce481, hce481, hMe481, hcc481⟩ := Kd.S_get HO480.out [] t475 p481 (by first | exact q481 | exact of_decide_eq_true (by first | (with_reducible assumption) | assumption) | (have e_ := (Kd.S_reads' HO480.out).1; omega))
         obtain ⟨ve481_0, rfl, ge481_0⟩ := hMe481
         have hv481_0 := hcc481 0 _ rfl
         rw [Nat.add_zero, show ((Kd.slice 35 k35)).sz = 1 from rfl, Nat.mul_one] at hv481_0
         replace hv481_0 := Option.some.inj (hv481_0.symm.trans hx481_0)
         rw [hv481_0] at ge481_0
         have HL481_0 := Aside0.mk (show Kd.R k35 35 _ _ _ _ (rd_L4 t477 t475) from ge481_0)
         clear hv481_0 ge481_0
         clear hcc481 hce481
         have HR481_0 := Aside0.mk hi481_0
         have HC481_0 := Aside0.mk hl481_0
         clear hi481_0 hl481_0
         replace p481 := eq_true p481
         replace q481 := eq_true q481
         go_wp2
         go_meet
         case rel => exact ⟨_, ((((rd_L4 t477 t475).length : Int) != t471)), (by first | rfl | (simp; done) | (simp [*]; done)), H', ⟨by first | omega | exact Nat.le_refl _⟩, ⟨by (with_reducible repeat (first | apply Kd.R_alloc | apply Kd.R_drewN | apply Kd.R_drew)); exact HO474.out⟩, ⟨by (with_reducible repeat (first | apply Kd.S_alloc | apply Kd.S_drewN | apply Kd.S_drew)); exact HO480.out⟩, (be_ HB)⟩
        ·rw [if_neg c23] at H
         exact absurd H (by simp)
       ·rw [if_neg c22] at H
        exact absurd H (by simp)
      ·rw [if_neg c21] at H
       have c21b0 : ((t477.length : Int) == t471) = false := beq_eq_false_iff_ne.mpr c21
       have c21b1 : ((t477.length : Int) != t471) = true := bne_iff_ne.mpr c21
       have H' := Aside0.mk H
       clear H
       obtain ⟨Ao25, co25, eo25⟩ := Kd.S_slice HO480.out
       subst eo25
       go_wp2
       go_meet
       case rel => exact ⟨_, (true), (by first | rfl | (simp; done) | (simp [*]; done)), H', ⟨by first | omega | exact Nat.le_refl _⟩, ⟨by (with_reducible repeat (first | apply Kd.R_alloc | apply Kd.R_drewN | apply Kd.R_drew)); exact HO474.out⟩, ⟨by (with_reducible repeat (first | apply Kd.S_alloc | apply Kd.S_drewN | apply Kd.S_drew)); exact HO480.out⟩, (be_ HB)⟩
     ·rw [if_neg c20] at H
      have c20b0 : (t478 == 0) = false := beq_eq_false_iff_ne.mpr c20
      have c20b1 : (t478 != 0) = true := bne_iff_ne.mpr c20
      (first | rw [c20b0] | (simp only [i64_w, i32_w]; rw [c20b0]) | skip)
      have H' := Aside0.mk H
      clear H
      go_wp2
      go_meet
      case rel => exact ⟨_, (true), (by first | rfl | (simp; done) | (simp [*]; done)), H', ⟨by first | omega | exact Nat.le_refl _⟩, ⟨by (with_reducible repeat (first | apply Kd.R_alloc | apply Kd.R_drewN | apply Kd.R_drew)); exact HO474.out⟩, ⟨by (with_reducible repeat (first | apply Kd.S_alloc | apply Kd.S_drewN | apply Kd.S_drew)); exact HO480.out⟩, (be_ HB)⟩
    case rest =>
     clear HC15
     try clear c1
     try clear c2
     try clear p2
     try clear c4
     try clear p4
     try clear q4
     try clear hx4
     try clear c6
     try clear p6
     try clear c8
     try clear c8b0
     try clear c11
     try clear c13
     try clear c13b0
     try clear c13b1
     try clear c20
     try clear c20b0
     try clear c20b1
     try clear c21
     try clear c21b0
     try clear c21b1
     try clear c22
     try clear c22b0
     try clear c23
     try clear c23b0
     try clear c24
     try clear c25
     try clear hx481_0
     try clear p481
     try clear q481
     obtain ⟨kq, x66_14, rfl, HA, HJ14, HO_1, HO_10, HB⟩ := hcut
     cases kq with
     | zero => exact absurd HA.out (by simp [ephemeristop_TopContradict.j0])
     | succ kj14 =>
      have H := HA.out
      clear HA
      simp only [ephemeristop_TopContradict.j0] at H
      by_cases c26 : x66_14 = true
      ·subst c26
       have H1 : (some false) = some r := by rw [if_pos rfl] at H; exact H
       clear H
       have H := H1
       clear H1
       obtain rfl := Option.some.inj H
       exact absurd hT (by decide)
      ·replace c26 := Bool.eq_false_iff.mpr c26
       subst c26
       have H1 : (if 0 ≤ t475 then (if t475 < (t477.length : Int) then (if 0 ≤ (Int.tmod (wrap64 ((wrap64 (t475 + 1)) + t476)) t471) then (if (Int.tmod (wrap64 ((wrap64 (t475 + 1)) + t476)) t471) < ((rd_L4 t477 t475).length : Int) then (if ((rd_T35 (rd_L4 t477 t475) (Int.tmod (wrap64 ((wrap64 (t475 + 1)) + t476)) t471)).f1) ≥ 1000000 then (some true) else ((some (([] : List (S43)) : List (S43))).bind fun y484 => (if y484.length + t472.length < 4398046511104 then ((some (y484 ++ t472 : List (S43))).bind fun y487 => ((some (([(⟨t475, (Int.tmod (wrap64 ((wrap64 (t475 + 1)) + t476)) t471), wrap64 (((rd_T35 (rd_L4 t477 t475) (Int.tmod (wrap64 ((wrap64 (t475 + 1)) + t476)) t471)).f1) + 1), wrap64 (((rd_T35 (rd_L4 t477 t475) (Int.tmod (wrap64 ((wrap64 (t475 + 1)) + t476)) t471)).f1) + 2)⟩ : S43)] : List (S43)) : List (S43))).bind fun y494 => (if y487.length + y494.length < 4398046511104 then ((some (y487 ++ y494 : List (S43))).bind fun y497 => ((contradict_Least.f kj14 t471 y497).bind fun bt500 => ((contradict_Least.f kj14 t471 t472).bind fun bt504 => (if bt500.2 = 0 then (if bt504.2 = 6 then (if (bt500.1.length : Int) < 2 then (ephemeristop_TopContradict.j1 kj14 t471 y497 bt500.1 true) else (if 0 ≤ (wrap64 ((bt500.1.length : Int) - 1)) then (if (wrap64 ((bt500.1.length : Int) - 1)) < (bt500.1.length : Int) then (ephemeristop_TopContradict.j1 kj14 t471 y497 bt500.1 ((rd bt500.1 (wrap64 ((bt500.1.length : Int) - 1))) != (t472.length : Int))) else (none)) else (none))) else (ephemeristop_TopContradict.j1 kj14 t471 y497 bt500.1 true)) else (ephemeristop_TopContradict.j1 kj14 t471 y497 bt500.1 true))))) else (none)))) else (none)))) else (none)) else (none)) else (none)) else (none)) = some r := by rw [if_neg (show ¬ (false = true) by decide)] at H; exact H
       clear H
       have H := H1
       clear H1
       by_cases c27 : 0 ≤ t475
       ·rw [if_pos c27] at H
        have c27b0 : decide (0 ≤ t475) = true := decide_eq_true c27
        clear c27
        by_cases c28 : t475 < (t477.length : Int)
        ·rw [if_pos c28] at H
         have c28b0 : decide (t475 < (t477.length : Int)) = true := decide_eq_true c28
         clear c28
         obtain ⟨ji29, hji29⟩ : ∃ j_ : Int, (Int.tmod (wrap64 ((wrap64 (t475 + 1)) + t476)) t471) = j_ := ⟨_, rfl⟩
         replace H : (if 0 ≤ (ji29) then (if (ji29) < ((rd_L4 t477 t475).length : Int) then (if ((rd_T35 (rd_L4 t477 t475) (ji29)).f1) ≥ 1000000 then (some true) else ((some (([] : List (S43)) : List (S43))).bind fun y484 => (if y484.length + t472.length < 4398046511104 then ((some (y484 ++ t472 : List (S43))).bind fun y487 => ((some (([(⟨t475, (ji29), wrap64 (((rd_T35 (rd_L4 t477 t475) (ji29)).f1) + 1), wrap64 (((rd_T35 (rd_L4 t477 t475) (ji29)).f1) + 2)⟩ : S43)] : List (S43)) : List (S43))).bind fun y494 => (if y487.length + y494.length < 4398046511104 then ((some (y487 ++ y494 : List (S43))).bind fun y497 => ((contradict_Least.f kj14 t471 y497).bind fun bt500 => ((contradict_Least.f kj14 t471 t472).bind fun bt504 => (if bt500.2 = 0 then (if bt504.2 = 6 then (if (bt500.1.length : Int) < 2 then (ephemeristop_TopContradict.j1 kj14 t471 y497 bt500.1 true) else (if 0 ≤ (wrap64 ((bt500.1.length : Int) - 1)) then (if (wrap64 ((bt500.1.length : Int) - 1)) < (bt500.1.length : Int) then (ephemeristop_TopContradict.j1 kj14 t471 y497 bt500.1 ((rd bt500.1 (wrap64 ((bt500.1.length : Int) - 1))) != (t472.length : Int))) else (none)) else (none))) else (ephemeristop_TopContradict.j1 kj14 t471 y497 bt500.1 true)) else (ephemeristop_TopContradict.j1 kj14 t471 y497 bt500.1 true))))) else (none)))) else (none)))) else (none)) else (none)) = some r := by first | (rw [hji29] at H; exact H) | (simp only [hji29] at H ⊢; exact H)
         by_cases c30 : 0 ≤ (ji29)
         ·rw [if_pos c30] at H
          have c30b0 : decide (0 ≤ (ji29)) = true := decide_eq_true c30
          clear c30
          by_cases c31 : (ji29) < ((rd_L4 t477 t475).length : Int)
          ·rw [if_pos c31] at H
           have c31b0 : decide ((ji29) < ((rd_L4 t477 t475).length : Int)) = true := decide_eq_true c31
           clear c31
           by_cases c32 : ((rd_T35 (rd_L4 t477 t475) (ji29)).f1) ≥ 1000000
           ·rw [if_pos c32] at H
            have c32b0 : decide (1000000 ≤ ((rd_T35 (rd_L4 t477 t475) (ji29)).f1)) = true := decide_eq_true c32
            clear c32
            obtain rfl := Option.some.inj H
            simp only [Option.some.injEq, Prod.mk.injEq] at H
            obtain ⟨rfl⟩ := H
            obtain ⟨Ao33, co33, eo33⟩ := Kd.S_slice HO_10.out
            subst eo33
            have p482 : 0 ≤ (t475 : Int) := of_decide_eq_true (by first | (with_reducible assumption) | assumption)
            have q482 : t475 < (t477.length : Int) := of_decide_eq_true (by first | (with_reducible assumption) | assumption)
            obtain ⟨ad482, A482_0, c482_0, e482, hx482_0, hl482_0, hi482_0⟩ := at_L4 (Kd.S_reads' HO_10.out).2.2 t475 p482 q482
            cases e482
            obtain ⟨ce482, hce482, hMe482, hcc482⟩ := Kd.S_get HO_10.out [] t475 p482 (by first | exact q482 | exact of_decide_eq_true (by first | (with_reducible assumption) | assumption) | (have e_ := (Kd.S_reads' HO_10.out).1; omega))
            obtain ⟨ve482_0, rfl, ge482_0⟩ := hMe482
            have hv482_0 := hcc482 0 _ rfl
            rw [Nat.add_zero, show ((Kd.slice 35 k35)).sz = 1 from rfl, Nat.mul_one] at hv482_0
            replace hv482_0 := Option.some.inj (hv482_0.symm.trans hx482_0)
            rw [hv482_0] at ge482_0
            have HL482_0 := Aside0.mk (show Kd.R k35 35 _ _ _ _ (rd_L4 t477 t475) from ge482_0)
            clear hv482_0 ge482_0
            clear hcc482 hce482
            have HR482_0 := Aside0.mk hi482_0
            have HC482_0 := Aside0.mk hl482_0
            clear hi482_0 hl482_0
            replace p482 := eq_true p482
            replace q482 := eq_true q482
            have p483 : 0 ≤ ((ji29) : Int) := of_decide_eq_true (by first | (with_reducible assumption) | assumption)
            have q483 : (ji29) < ((rd_L4 t477 t475).length : Int) := of_decide_eq_true (by first | (with_reducible assumption) | assumption)
            obtain ⟨ad483, e483, hx483_0, hx483_1⟩ := at_T35 (by repeat (first | (with_reducible exact HR482_0.out) | (with_reducible refine Kd.C_alloc ?_ _) | (with_reducible refine Kd.C_drewN ?_ _) | (with_reducible refine Kd.C_drew ?_) | exact HR482_0.out)) (ji29) p483 q483
            cases e483
            replace p483 := eq_true p483
            replace q483 := eq_true q483
            go_wp2
            go_ret
            exact ⟨by first | rfl | (simp [errW_none, errW_some] <;> rfl) | (simp only [← hji29]; first | rfl | (simp [errW_none, errW_some] <;> rfl)) | (simp [*, errW_none, errW_some] <;> rfl), (be_ HB).out⟩
           ·rw [if_neg c32] at H
            have c32b0 : decide (1000000 ≤ ((rd_T35 (rd_L4 t477 t475) (ji29)).f1)) = false := decide_eq_false c32
            clear c32
            obtain ⟨y484, hy484⟩ : ∃ y_ : List (S43), y_ = (([] : List (S43))) := ⟨_, rfl⟩
            replace H : (if y484.length + t472.length < 4398046511104 then ((some (y484 ++ t472 : List (S43))).bind fun y487 => ((some (([(⟨t475, (ji29), wrap64 (((rd_T35 (rd_L4 t477 t475) (ji29)).f1) + 1), wrap64 (((rd_T35 (rd_L4 t477 t475) (ji29)).f1) + 2)⟩ : S43)] : List (S43)) : List (S43))).bind fun y494 => (if y487.length + y494.length < 4398046511104 then ((some (y487 ++ y494 : List (S43))).bind fun y497 => ((contradict_Least.f kj14 t471 y497).bind fun bt500 => ((contradict_Least.f kj14 t471 t472).bind fun bt504 => (if bt500.2 = 0 then (if bt504.2 = 6 then (if (bt500.1.length : Int) < 2 then (ephemeristop_TopContradict.j1 kj14 t471 y497 bt500.1 true) else (if 0 ≤ (wrap64 ((bt500.1.length : Int) - 1)) then (if (wrap64 ((bt500.1.length : Int) - 1)) < (bt500.1.length : Int) then (ephemeristop_TopContradict.j1 kj14 t471 y497 bt500.1 ((rd bt500.1 (wrap64 ((bt500.1.length : Int) - 1))) != (t472.length : Int))) else (none)) else (none))) else (ephemeristop_TopContradict.j1 kj14 t471 y497 bt500.1 true)) else (ephemeristop_TopContradict.j1 kj14 t471 y497 bt500.1 true))))) else (none)))) else (none)) = some r := by first | (rw [hy484]; with_reducible exact H) | (have H2_ := (Option.bind_some _ _).symm.trans H; rw [hy484]; with_reducible exact H2_) | (have H2_ := (Option.bind_some _ _).symm.trans H; with_reducible exact H2_) | with_reducible exact H | (rw [hy484]; exact H) | exact H
            have Ny484 := Aside0.mk hy484
            clear hy484
            by_cases c34 : y484.length + t472.length < 4398046511104
            ·rw [if_pos c34] at H
             have LMc34 := Aside0.mk c34
             clear c34
             obtain ⟨y487, hy487⟩ : ∃ y_ : List (S43), y_ = (y484 ++ t472) := ⟨_, rfl⟩
             replace H : ((some (([(⟨t475, (ji29), wrap64 (((rd_T35 (rd_L4 t477 t475) (ji29)).f1) + 1), wrap64 (((rd_T35 (rd_L4 t477 t475) (ji29)).f1) + 2)⟩ : S43)] : List (S43)) : List (S43))).bind fun y494 => (if y487.length + y494.length < 4398046511104 then ((some (y487 ++ y494 : List (S43))).bind fun y497 => ((contradict_Least.f kj14 t471 y497).bind fun bt500 => ((contradict_Least.f kj14 t471 t472).bind fun bt504 => (if bt500.2 = 0 then (if bt504.2 = 6 then (if (bt500.1.length : Int) < 2 then (ephemeristop_TopContradict.j1 kj14 t471 y497 bt500.1 true) else (if 0 ≤ (wrap64 ((bt500.1.length : Int) - 1)) then (if (wrap64 ((bt500.1.length : Int) - 1)) < (bt500.1.length : Int) then (ephemeristop_TopContradict.j1 kj14 t471 y497 bt500.1 ((rd bt500.1 (wrap64 ((bt500.1.length : Int) - 1))) != (t472.length : Int))) else (none)) else (none))) else (ephemeristop_TopContradict.j1 kj14 t471 y497 bt500.1 true)) else (ephemeristop_TopContradict.j1 kj14 t471 y497 bt500.1 true))))) else (none))) = some r := by first | (rw [hy487]; with_reducible exact H) | (have H2_ := (Option.bind_some _ _).symm.trans H; rw [hy487]; with_reducible exact H2_) | (have H2_ := (Option.bind_some _ _).symm.trans H; with_reducible exact H2_) | with_reducible exact H | (rw [hy487]; exact H) | exact H
             have Ny487 := Aside0.mk hy487
             clear hy487
             obtain ⟨y494, hy494⟩ : ∃ y_ : List (S43), y_ = (([(⟨t475, (ji29), wrap64 (((rd_T35 (rd_L4 t477 t475) (ji29)).f1) + 1), wrap64 (((rd_T35 (rd_L4 t477 t475) (ji29)).f1) + 2)⟩ : S43)] : List (S43))) := ⟨_, rfl⟩
             replace H : (if y487.length + y494.length < 4398046511104 then ((some (y487 ++ y494 : List (S43))).bind fun y497 => ((contradict_Least.f kj14 t471 y497).bind fun bt500 => ((contradict_Least.f kj14 t471 t472).bind fun bt504 => (if bt500.2 = 0 then (if bt504.2 = 6 then (if (bt500.1.length : Int) < 2 then (ephemeristop_TopContradict.j1 kj14 t471 y497 bt500.1 true) else (if 0 ≤ (wrap64 ((bt500.1.length : Int) - 1)) then (if (wrap64 ((bt500.1.length : Int) - 1)) < (bt500.1.length : Int) then (ephemeristop_TopContradict.j1 kj14 t471 y497 bt500.1 ((rd bt500.1 (wrap64 ((bt500.1.length : Int) - 1))) != (t472.length : Int))) else (none)) else (none))) else (ephemeristop_TopContradict.j1 kj14 t471 y497 bt500.1 true)) else (ephemeristop_TopContradict.j1 kj14 t471 y497 bt500.1 true))))) else (none)) = some r := by first | (rw [hy494]; with_reducible exact H) | (have H2_ := (Option.bind_some _ _).symm.trans H; rw [hy494]; with_reducible exact H2_) | (have H2_ := (Option.bind_some _ _).symm.trans H; with_reducible exact H2_) | with_reducible exact H | (rw [hy494]; exact H) | exact H
             have Ny494 := Aside0.mk hy494
             clear hy494
             by_cases c35 : y487.length + y494.length < 4398046511104
             ·rw [if_pos c35] at H
              have LMc35 := Aside0.mk c35
              clear c35
              obtain ⟨y497, hy497⟩ : ∃ y_ : List (S43), y_ = (y487 ++ y494) := ⟨_, rfl⟩
              replace H : ((contradict_Least.f kj14 t471 y497).bind fun bt500 => ((contradict_Least.f kj14 t471 t472).bind fun bt504 => (if bt500.2 = 0 then (if bt504.2 = 6 then (if (bt500.1.length : Int) < 2 then (ephemeristop_TopContradict.j1 kj14 t471 y497 bt500.1 true) else (if 0 ≤ (wrap64 ((bt500.1.length : Int) - 1)) then (if (wrap64 ((bt500.1.length : Int) - 1)) < (bt500.1.length : Int) then (ephemeristop_TopContradict.j1 kj14 t471 y497 bt500.1 ((rd bt500.1 (wrap64 ((bt500.1.length : Int) - 1))) != (t472.length : Int))) else (none)) else (none))) else (ephemeristop_TopContradict.j1 kj14 t471 y497 bt500.1 true)) else (ephemeristop_TopContradict.j1 kj14 t471 y497 bt500.1 true)))) = some r := by first | (rw [hy497]; with_reducible exact H) | (have H2_ := (Option.bind_some _ _).symm.trans H; rw [hy497]; with_reducible exact H2_) | (have H2_ := (Option.bind_some _ _).symm.trans H; with_reducible exact H2_) | with_reducible exact H | (rw [hy497]; exact H) | exact H
              have Ny497 := Aside0.mk hy497
              clear hy497
              replace H := Option.bind_eq_some_iff.mp H
              obtain ⟨⟨t500, t501⟩, A360, H⟩ := H
              replace H : ((contradict_Least.f kj14 t471 t472).bind fun bt504 => (if t501 = 0 then (if bt504.2 = 6 then (if (t500.length : Int) < 2 then (ephemeristop_TopContradict.j1 kj14 t471 y497 t500 true) else (if 0 ≤ (wrap64 ((t500.length : Int) - 1)) then (if (wrap64 ((t500.length : Int) - 1)) < (t500.length : Int) then (ephemeristop_TopContradict.j1 kj14 t471 y497 t500 ((rd t500 (wrap64 ((t500.length : Int) - 1))) != (t472.length : Int))) else (none)) else (none))) else (ephemeristop_TopContradict.j1 kj14 t471 y497 t500 true)) else (ephemeristop_TopContradict.j1 kj14 t471 y497 t500 true))) = some r := H
              have A36 := Aside0.mk A360
              clear A360
              replace H := Option.bind_eq_some_iff.mp H
              obtain ⟨⟨t504, t505⟩, A370, H⟩ := H
              replace H : (if t501 = 0 then (if t505 = 6 then (if (t500.length : Int) < 2 then (ephemeristop_TopContradict.j1 kj14 t471 y497 t500 true) else (if 0 ≤ (wrap64 ((t500.length : Int) - 1)) then (if (wrap64 ((t500.length : Int) - 1)) < (t500.length : Int) then (ephemeristop_TopContradict.j1 kj14 t471 y497 t500 ((rd t500 (wrap64 ((t500.length : Int) - 1))) != (t472.length : Int))) else (none)) else (none))) else (ephemeristop_TopContradict.j1 kj14 t471 y497 t500 true)) else (ephemeristop_TopContradict.j1 kj14 t471 y497 t500 true)) = some r := H
              have A37 := Aside0.mk A370
              clear A370
              have HC38 := Aside0.mk H
              clear H
              obtain ⟨Ao39, co39, eo39⟩ := Kd.S_slice HO_10.out
              subst eo39
              have p482 : 0 ≤ (t475 : Int) := of_decide_eq_true (by first | (with_reducible assumption) | assumption)
              have q482 : t475 < (t477.length : Int) := of_decide_eq_true (by first | (with_reducible assumption) | assumption)
              obtain ⟨ad482, A482_0, c482_0, e482, hx482_0, hl482_0, hi482_0⟩ := at_L4 (Kd.S_reads' HO_10.out).2.2 t475 p482 q482
              cases e482
              obtain ⟨ce482, hce482, hMe482, hcc482⟩ := Kd.S_get HO_10.out [] t475 p482 (by first | exact q482 | exact of_decide_eq_true (by first | (with_reducible assumption) | assumption) | (have e_ := (Kd.S_reads' HO_10.out).1; omega))
              obtain ⟨ve482_0, rfl, ge482_0⟩ := hMe482
              have hv482_0 := hcc482 0 _ rfl
              rw [Nat.add_zero, show ((Kd.slice 35 k35)).sz = 1 from rfl, Nat.mul_one] at hv482_0
              replace hv482_0 := Option.some.inj (hv482_0.symm.trans hx482_0)
              rw [hv482_0] at ge482_0
              have HL482_0 := Aside0.mk (show Kd.R k35 35 _ _ _ _ (rd_L4 t477 t475) from ge482_0)
              clear hv482_0 ge482_0
              clear hcc482 hce482
              have HR482_0 := Aside0.mk hi482_0
              have HC482_0 := Aside0.mk hl482_0
              clear hi482_0 hl482_0
              replace p482 := eq_true p482
              replace q482 := eq_true q482
              have p483 : 0 ≤ ((ji29) : Int) := of_decide_eq_true (by first | (with_reducible assumption) | assumption)
              have q483 : (ji29) < ((rd_L4 t477 t475).length : Int) := of_decide_eq_true (by first | (with_reducible assumption) | assumption)
              obtain ⟨ad483, e483, hx483_0, hx483_1⟩ := at_T35 (by repeat (first | (with_reducible exact HR482_0.out) | (with_reducible refine Kd.C_alloc ?_ _) | (with_reducible refine Kd.C_drewN ?_ _) | (with_reducible refine Kd.C_drew ?_) | exact HR482_0.out)) (ji29) p483 q483
              cases e483
              replace p483 := eq_true p483
              replace q483 := eq_true q483
              try go_wp2
              replace HO_1 := Aside0.mk (Kd.R_drew HO_1.out)
              replace HO_10 := Aside0.mk (Kd.S_drew HO_10.out)
              replace HL482_0 := Aside0.mk (Kd.R_drew HL482_0.out)
              replace HR482_0 := Aside0.mk (Kd.C_drew HR482_0.out)
              replace HB := Aside0.mk (below_drew1 HB.out)
              have p490 : 0 ≤ (t475 : Int) := of_decide_eq_true (by first | (with_reducible assumption) | assumption)
              have q490 : t475 < (t477.length : Int) := of_decide_eq_true (by first | (with_reducible assumption) | assumption)
              obtain ⟨ad490, A490_0, c490_0, e490, hx490_0, hl490_0, hi490_0⟩ := at_L4 (Kd.S_reads' HO_10.out).2.2 t475 p490 q490
              obtain rfl : ad482 = ad490 := (by injection e490)
              obtain ⟨ce490, hce490, hMe490, hcc490⟩ := Kd.S_get HO_10.out [] t475 p490 (by first | exact q490 | exact of_decide_eq_true (by first | (with_reducible assumption) | assumption) | (have e_ := (Kd.S_reads' HO_10.out).1; omega))
              obtain ⟨ve490_0, rfl, ge490_0⟩ := hMe490
              have hv490_0 := hcc490 0 _ rfl
              rw [Nat.add_zero, show ((Kd.slice 35 k35)).sz = 1 from rfl, Nat.mul_one] at hv490_0
              replace hv490_0 := Option.some.inj (hv490_0.symm.trans hx490_0)
              rw [hv490_0] at ge490_0
              have HL490_0 := Aside0.mk (show Kd.R k35 35 _ _ _ _ (rd_L4 t477 t475) from ge490_0)
              clear hv490_0 ge490_0
              clear hcc490 hce490
              have HR490_0 := Aside0.mk hi490_0
              have HC490_0 := Aside0.mk hl490_0
              clear hi490_0 hl490_0
              replace p490 := eq_true p490
              replace q490 := eq_true q490
              have p491 : 0 ≤ ((ji29) : Int) := of_decide_eq_true (by first | (with_reducible assumption) | assumption)
              have q491 : (ji29) < ((rd_L4 t477 t475).length : Int) := of_decide_eq_true (by first | (with_reducible assumption) | assumption)
              obtain ⟨ad491, e491, hx491_0, hx491_1⟩ := at_T35 (by repeat (first | (with_reducible exact HR490_0.out) | (with_reducible refine Kd.C_alloc ?_ _) | (with_reducible refine Kd.C_drewN ?_ _) | (with_reducible refine Kd.C_drew ?_) | exact HR490_0.out)) (ji29) p491 q491
              cases e491
              replace p491 := eq_true p491
              replace q491 := eq_true q491
              have p492 : 0 ≤ (t475 : Int) := of_decide_eq_true (by first | (with_reducible assumption) | assumption)
              have q492 : t475 < (t477.length : Int) := of_decide_eq_true (by first | (with_reducible assumption) | assumption)
              obtain ⟨ad492, A492_0, c492_0, e492, hx492_0, hl492_0, hi492_0⟩ := at_L4 (Kd.S_reads' HO_10.out).2.2 t475 p492 q492
              obtain rfl : ad482 = ad492 := (by injection e492)
              obtain ⟨ce492, hce492, hMe492, hcc492⟩ := Kd.S_get HO_10.out [] t475 p492 (by first | exact q492 | exact of_decide_eq_true (by first | (with_reducible assumption) | assumption) | (have e_ := (Kd.S_reads' HO_10.out).1; omega))
              obtain ⟨ve492_0, rfl, ge492_0⟩ := hMe492
              have hv492_0 := hcc492 0 _ rfl
              rw [Nat.add_zero, show ((Kd.slice 35 k35)).sz = 1 from rfl, Nat.mul_one] at hv492_0
              replace hv492_0 := Option.some.inj (hv492_0.symm.trans hx492_0)
              rw [hv492_0] at ge492_0
              have HL492_0 := Aside0.mk (show Kd.R k35 35 _ _ _ _ (rd_L4 t477 t475) from ge492_0)
              clear hv492_0 ge492_0
              clear hcc492 hce492
              have HR492_0 := Aside0.mk hi492_0
              have HC492_0 := Aside0.mk hl492_0
              clear hi492_0 hl492_0
              replace p492 := eq_true p492
              replace q492 := eq_true q492
              have ea_ := Option.some.inj (hx490_0.symm.trans hx492_0)
              injection ea_ with ea_ en_ ec_
              subst ea_
              subst ec_
              clear en_
              have p493 : 0 ≤ ((ji29) : Int) := of_decide_eq_true (by first | (with_reducible assumption) | assumption)
              have q493 : (ji29) < ((rd_L4 t477 t475).length : Int) := of_decide_eq_true (by first | (with_reducible assumption) | assumption)
              obtain ⟨ad493, e493, hx493_0, hx493_1⟩ := at_T35 (by repeat (first | (with_reducible exact HR492_0.out) | (with_reducible refine Kd.C_alloc ?_ _) | (with_reducible refine Kd.C_drewN ?_ _) | (with_reducible refine Kd.C_drew ?_) | exact HR492_0.out)) (ji29) p493 q493
              cases e493
              replace p493 := eq_true p493
              replace q493 := eq_true q493
              refine start_ (n := 27) (S := fun w' => w'.cell? (ad482.add (t475).toNat) = some (.slice (some ad491) (rd_L4 t477 t475).length c490_0) ∧ w'.cell? (ad491.add (((ji29)).toNat * 2)) = some (.int .i64 ((rd_T35 (rd_L4 t477 t475) (ji29)).f0)) ∧ w'.cell? ⟨(ad491.add (((ji29)).toNat * 2)).block, (ad491.add (((ji29)).toNat * 2)).off + 1, none⟩ = some (.int .i64 ((rd_T35 (rd_L4 t477 t475) (ji29)).f1)) ∧ w'.cell? (ad482.add (t475).toNat) = some (.slice (some ad491) (rd_L4 t477 t475).length c490_0) ∧ w'.cell? (ad491.add (((ji29)).toNat * 2)) = some (.int .i64 ((rd_T35 (rd_L4 t477 t475) (ji29)).f0)) ∧ w'.cell? ⟨(ad491.add (((ji29)).toNat * 2)).block, (ad491.add (((ji29)).toNat * 2)).off + 1, none⟩ = some (.int .i64 ((rd_T35 (rd_L4 t477 t475) (ji29)).f1))) (ds := []) #[false, false, false, false, false, false, false, false, false, false, false, false, false, false, false, false, false, false, false, false, false, false, false, false, false, false, false] (by kernel_rfl) rfl rfl ⟨hx490_0, hx491_0, hx491_1, hx492_0, hx493_0, hx493_1⟩ (fun hHeld => ?_); refine with_tabW ephemeristop_TopContradict.tab13 ephemeristop_TopContradict.bits13 (fun HT_ HW_ => ?_)
              generalize wc.drew = w40 at HO_1 HO_10 HL482_0 HR482_0 HB HL490_0 HL492_0 HR490_0 HR492_0 hx490_0 hx491_0 hx491_1 hx492_0 hx493_0 hx493_1 hHeld ⊢
              refine pure_ (i := 1) (N := some 77) (v := ?_) (a' := ?_) #[false, true, false, false, false, false, false, false, false, false, false, false, false, false, false, false, false, false, false, false, false, false, false, false, false, false, false] rfl rfl (any_of HT_.out (by kernel_rfl)) (fun _ _ _ h => h) (Or.inl ⟨by rfl, ?_⟩) ?_ ?_
              rotate_left
              ·intro w'
               go_simp
               with_reducible rfl
              rotate_left
              ·simp only [Act.put, List.setIfInBounds_toArray, List.set_cons_zero, List.set_cons_succ, i64_w, i32_w]
               rfl
              refine pure_ (i := 3) (N := some 79) (v := ?_) (a' := ?_) #[false, true, false, true, false, false, false, false, false, false, false, false, false, false, false, false, false, false, false, false, false, false, false, false, false, false, false] rfl rfl (any_of HT_.out (by kernel_rfl)) (fun _ _ _ h => h) (Or.inl ⟨by rfl, ?_⟩) ?_ ?_
              rotate_left
              ·intro w'
               go_simp
               with_reducible rfl
              rotate_left
              ·simp only [Act.put, List.setIfInBounds_toArray, List.set_cons_zero, List.set_cons_succ, i64_w, i32_w]
               rfl
              refine pure_ (i := 4) (N := some 80) (v := ?_) (a' := ?_) #[false, true, false, true, true, false, false, false, false, false, false, false, false, false, false, false, false, false, false, false, false, false, false, false, false, false, false] rfl rfl (any_of HT_.out (by kernel_rfl)) (fun _ _ _ h => h) (Or.inl ⟨by rfl, ?_⟩) ?_ ?_
              rotate_left
              ·intro w'
               go_simp
               with_reducible rfl
              rotate_left
              ·simp only [Act.put, List.setIfInBounds_toArray, List.set_cons_zero, List.set_cons_succ, i64_w, i32_w]
               rfl
              refine pure_ (i := 5) (N := some 81) (v := ?_) (a' := ?_) #[false, true, false, true, true, true, false, false, false, false, false, false, false, false, false, false, false, false, false, false, false, false, false, false, false, false, false] rfl rfl (any_of HT_.out (by kernel_rfl)) (fun _ _ _ h => h) (Or.inl ⟨by rfl, ?_⟩) ?_ ?_
              rotate_left
              ·intro w'
               go_simp
               with_reducible rfl
              rotate_left
              ·simp only [Act.put, List.setIfInBounds_toArray, List.set_cons_zero, List.set_cons_succ, i64_w, i32_w]
               rfl
              refine pure_ (i := 6) (N := some 82) (v := ?_) (a' := ?_) #[false, true, false, true, true, true, true, false, false, false, false, false, false, false, false, false, false, false, false, false, false, false, false, false, false, false, false] rfl rfl (any_of HT_.out (by kernel_rfl)) (fun _ _ _ h => h) (Or.inl ⟨by rfl, ?_⟩) ?_ ?_
              rotate_left
              ·intro w'
               go_simp
               with_reducible rfl
              rotate_left
              ·simp only [Act.put, List.setIfInBounds_toArray, List.set_cons_zero, List.set_cons_succ, i64_w, i32_w]
               rfl
              refine pure_ (i := 7) (N := some 83) (v := ?_) (a' := ?_) #[false, true, false, true, true, true, true, true, false, false, false, false, false, false, false, false, false, false, false, false, false, false, false, false, false, false, false] rfl rfl (any_of HT_.out (by kernel_rfl)) (fun _ _ _ h => h) (Or.inl ⟨by rfl, ?_⟩) ?_ ?_
              rotate_left
              ·intro w'
               go_simp
               with_reducible rfl
              rotate_left
              ·simp only [Act.put, List.setIfInBounds_toArray, List.set_cons_zero, List.set_cons_succ, i64_w, i32_w]
               rfl
              refine pure_ (i := 9) (N := some 85) (v := ?_) (a' := ?_) #[false, true, false, true, true, true, true, true, false, true, false, false, false, false, false, false, false, false, false, false, false, false, false, false, false, false, false] rfl rfl (any_of HT_.out (by kernel_rfl)) (fun _ _ _ h => h) (Or.inl ⟨by rfl, ?_⟩) ?_ ?_
              rotate_left
              ·intro w'
               go_simp
               with_reducible rfl
              rotate_left
              ·simp only [Act.put, List.setIfInBounds_toArray, List.set_cons_zero, List.set_cons_succ, i64_w, i32_w]
               rfl
              refine pure_ (i := 14) (N := some 90) (v := ?_) (a' := ?_) #[false, true, false, true, true, true, true, true, false, true, false, false, false, false, true, false, false, false, false, false, false, false, false, false, false, false, false] rfl rfl (any_of HT_.out (by kernel_rfl)) (fun _ _ _ h => h) (Or.inl ⟨by rfl, ?_⟩) ?_ ?_
              rotate_left
              ·intro w'
               go_simp
               with_reducible rfl
              rotate_left
              ·simp only [Act.put, List.setIfInBounds_toArray, List.set_cons_zero, List.set_cons_succ, i64_w, i32_w]
               rfl
              refine pure_ (i := 15) (N := some 91) (v := ?_) (a' := ?_) #[false, true, false, true, true, true, true, true, false, true, false, false, false, false, true, true, false, false, false, false, false, false, false, false, false, false, false] rfl rfl (any_of HT_.out (by kernel_rfl)) (fun _ _ _ h => h) (Or.inl ⟨by rfl, ?_⟩) ?_ ?_
              rotate_left
              ·intro w'
               go_simp
               with_reducible rfl
              rotate_left
              ·simp only [Act.put, List.setIfInBounds_toArray, List.set_cons_zero, List.set_cons_succ, i64_w, i32_w]
               rfl
              refine pure_ (i := 16) (N := some 92) (v := ?_) (a' := ?_) #[false, true, false, true, true, true, true, true, false, true, false, false, false, false, true, true, true, false, false, false, false, false, false, false, false, false, false] rfl rfl (any_of HT_.out (by kernel_rfl)) (fun _ _ _ h => h) (Or.inl ⟨by rfl, ?_⟩) ?_ ?_
              rotate_left
              ·intro w'
               go_simp
               with_reducible rfl
              rotate_left
              ·simp only [Act.put, List.setIfInBounds_toArray, List.set_cons_zero, List.set_cons_succ, i64_w, i32_w]
               rfl
              refine pure_ (i := 18) (N := some 94) (v := ?_) (a' := ?_) #[false, true, false, true, true, true, true, true, false, true, false, false, false, false, true, true, true, false, true, false, false, false, false, false, false, false, false] rfl rfl (any_of HT_.out (by kernel_rfl)) (fun _ _ _ h => h) (Or.inl ⟨by rfl, ?_⟩) ?_ ?_
              rotate_left
              ·intro w'
               go_simp
               with_reducible rfl
              rotate_left
              ·simp only [Act.put, List.setIfInBounds_toArray, List.set_cons_zero, List.set_cons_succ, i64_w, i32_w]
               rfl
              refine take_ (i := 8) (N := some 84) (v := ?_) (a' := ?_) #[false, true, false, true, true, true, true, true, true, true, false, false, false, false, true, true, true, false, true, false, false, false, false, false, false, false, false] rfl rfl (take_ofW HT_.out HW_.out (by kernel_rfl)) (fun _ _ _ h => h) (Or.inl ⟨by rfl, ?_⟩) hHeld ?_ ?_
              rotate_left
              ·rintro w' ⟨s0, s1, s2, s3, s4, s5⟩
               go_simp
               with_reducible rfl
              rotate_left
              ·simp only [Act.put, List.setIfInBounds_toArray, List.set_cons_zero, List.set_cons_succ, i64_w, i32_w]
               rfl
              refine pure_ (i := 10) (N := some 86) (v := ?_) (a' := ?_) #[false, true, false, true, true, true, true, true, true, true, true, false, false, false, true, true, true, false, true, false, false, false, false, false, false, false, false] rfl rfl (any_of HT_.out (by kernel_rfl)) (fun _ _ _ h => h) (Or.inl ⟨by rfl, ?_⟩) ?_ ?_
              rotate_left
              ·intro w'
               go_simp
               with_reducible rfl
              rotate_left
              ·simp only [Act.put, List.setIfInBounds_toArray, List.set_cons_zero, List.set_cons_succ, i64_w, i32_w]
               rfl
              refine pure_ (i := 11) (N := some 87) (v := ?_) (a' := ?_) #[false, true, false, true, true, true, true, true, true, true, true, true, false, false, true, true, true, false, true, false, false, false, false, false, false, false, false] rfl rfl (any_of HT_.out (by kernel_rfl)) (fun _ _ _ h => h) (Or.inl ⟨by rfl, ?_⟩) ?_ ?_
              rotate_left
              ·intro w'
               go_simp
               with_reducible rfl
              rotate_left
              ·simp only [Act.put, List.setIfInBounds_toArray, List.set_cons_zero, List.set_cons_succ, i64_w, i32_w]
               rfl
              refine take_ (i := 12) (N := some 88) (v := ?_) (a' := ?_) #[false, true, false, true, true, true, true, true, true, true, true, true, true, false, true, true, true, false, true, false, false, false, false, false, false, false, false] rfl rfl (take_ofW HT_.out HW_.out (by kernel_rfl)) (fun _ _ _ h => h) (Or.inl ⟨by rfl, ?_⟩) hHeld ?_ ?_
              rotate_left
              ·rintro w' ⟨s0, s1, s2, s3, s4, s5⟩
               go_simp
               with_reducible rfl
              rotate_left
              ·simp only [Act.put, List.setIfInBounds_toArray, List.set_cons_zero, List.set_cons_succ, i64_w, i32_w]
               rfl
              refine pure_ (i := 13) (N := some 89) (v := ?_) (a' := ?_) #[false, true, false, true, true, true, true, true, true, true, true, true, true, true, true, true, true, false, true, false, false, false, false, false, false, false, false] rfl rfl (any_of HT_.out (by kernel_rfl)) (fun _ _ _ h => h) (Or.inl ⟨by rfl, ?_⟩) ?_ ?_
              rotate_left
              ·intro w'
               go_simp
               with_reducible rfl
              rotate_left
              ·simp only [Act.put, List.setIfInBounds_toArray, List.set_cons_zero, List.set_cons_succ, i64_w, i32_w]
               rfl
              refine take_ (i := 17) (N := some 93) (v := ?_) (a' := ?_) #[false, true, false, true, true, true, true, true, true, true, true, true, true, true, true, true, true, true, true, false, false, false, false, false, false, false, false] rfl rfl (take_ofW HT_.out HW_.out (by kernel_rfl)) (fun _ _ _ h => h) (Or.inl ⟨by rfl, ?_⟩) hHeld ?_ ?_
              rotate_left
              ·rintro w' ⟨s0, s1, s2, s3, s4, s5⟩
               go_simp
               with_reducible rfl
              rotate_left
              ·simp only [Act.put, List.setIfInBounds_toArray, List.set_cons_zero, List.set_cons_succ, i64_w, i32_w]
               rfl
              refine pure_ (i := 19) (N := some 95) (v := ?_) (a' := ?_) #[false, true, false, true, true, true, true, true, true, true, true, true, true, true, true, true, true, true, true, true, false, false, false, false, false, false, false] rfl rfl (any_of HT_.out (by kernel_rfl)) (fun _ _ _ h => h) (Or.inl ⟨by rfl, ?_⟩) ?_ ?_
              rotate_left
              ·intro w'
               go_simp
               with_reducible rfl
              rotate_left
              ·simp only [Act.put, List.setIfInBounds_toArray, List.set_cons_zero, List.set_cons_succ, i64_w, i32_w]
               rfl
              refine pure_ (i := 20) (N := some 96) (v := ?_) (a' := ?_) #[false, true, false, true, true, true, true, true, true, true, true, true, true, true, true, true, true, true, true, true, true, false, false, false, false, false, false] rfl rfl (any_of HT_.out (by kernel_rfl)) (fun _ _ _ h => h) (Or.inl ⟨by rfl, ?_⟩) ?_ ?_
              rotate_left
              ·intro w'
               go_simp
               with_reducible rfl
              rotate_left
              ·simp only [Act.put, List.setIfInBounds_toArray, List.set_cons_zero, List.set_cons_succ, i64_w, i32_w]
               rfl
              refine take_ (i := 21) (N := some 97) (v := ?_) (a' := ?_) #[false, true, false, true, true, true, true, true, true, true, true, true, true, true, true, true, true, true, true, true, true, true, false, false, false, false, false] rfl rfl (take_ofW HT_.out HW_.out (by kernel_rfl)) (fun _ _ _ h => h) (Or.inl ⟨by rfl, ?_⟩) hHeld ?_ ?_
              rotate_left
              ·rintro w' ⟨s0, s1, s2, s3, s4, s5⟩
               go_simp
               with_reducible rfl
              rotate_left
              ·simp only [Act.put, List.setIfInBounds_toArray, List.set_cons_zero, List.set_cons_succ, i64_w, i32_w]
               rfl
              refine pure_ (i := 22) (N := some 98) (v := ?_) (a' := ?_) #[false, true, false, true, true, true, true, true, true, true, true, true, true, true, true, true, true, true, true, true, true, true, true, false, false, false, false] rfl rfl (any_of HT_.out (by kernel_rfl)) (fun _ _ _ h => h) (Or.inl ⟨by rfl, ?_⟩) ?_ ?_
              rotate_left
              ·intro w'
               go_simp
               with_reducible rfl
              rotate_left
              ·simp only [Act.put, List.setIfInBounds_toArray, List.set_cons_zero, List.set_cons_succ, i64_w, i32_w]
               rfl
              refine pure_ (i := 23) (N := some 99) (v := ?_) (a' := ?_) #[false, true, false, true, true, true, true, true, true, true, true, true, true, true, true, true, true, true, true, true, true, true, true, true, false, false, false] rfl rfl (any_of HT_.out (by kernel_rfl)) (fun _ _ _ h => h) (Or.inl ⟨by rfl, ?_⟩) ?_ ?_
              rotate_left
              ·intro w'
               go_simp
               with_reducible rfl
              rotate_left
              ·simp only [Act.put, List.setIfInBounds_toArray, List.set_cons_zero, List.set_cons_succ, i64_w, i32_w]
               rfl
              refine join_ (σ := Value × Value × Value) 2 #[true, true, true, true, true, true, true, true, true, true, true, true, true, true, true, true, true, true, true, true, true, true, true, true, true, false, false] (fun s_ => [(76, s_.1), (78, s_.2.1), (100, s_.2.2)]) (fun s_ w' => (w'.cell? (ad482.add (t475).toNat) = some (.slice (some ad491) (rd_L4 t477 t475).length c490_0) ∧ w'.cell? (ad491.add (((ji29)).toNat * 2)) = some (.int .i64 ((rd_T35 (rd_L4 t477 t475) (ji29)).f0)) ∧ w'.cell? ⟨(ad491.add (((ji29)).toNat * 2)).block, (ad491.add (((ji29)).toNat * 2)).off + 1, none⟩ = some (.int .i64 ((rd_T35 (rd_L4 t477 t475) (ji29)).f1)) ∧ w'.cell? (ad482.add (t475).toNat) = some (.slice (some ad491) (rd_L4 t477 t475).length c490_0) ∧ w'.cell? (ad491.add (((ji29)).toNat * 2)) = some (.int .i64 ((rd_T35 (rd_L4 t477 t475) (ji29)).f0)) ∧ w'.cell? ⟨(ad491.add (((ji29)).toNat * 2)).block, (ad491.add (((ji29)).toNat * 2)).off + 1, none⟩ = some (.int .i64 ((rd_T35 (rd_L4 t477 t475) (ji29)).f1))) ∧ (Kd.R k35 35 w' w.heap.size (fun k_ => some k_ ≠ (.slice (some ad482) t477.length co39 : Value).ownBlock) (.slice (some ad483) (rd_L4 t477 t475).length c482_0) (rd_L4 t477 t475)) ∧ (Kd.R k35 35 w' w.heap.size (fun k_ => some k_ ≠ (.slice (some ad482) t477.length co39 : Value).ownBlock) (.slice (some ad491) (rd_L4 t477 t475).length c490_0) (rd_L4 t477 t475)) ∧ (Kd.R k35 35 w' w.heap.size (fun k_ => some k_ ≠ (.slice (some ad482) t477.length co39 : Value).ownBlock) (.slice (some ad491) (rd_L4 t477 t475).length c490_0) (rd_L4 t477 t475)) ∧ (Kd.R k43 43 w' w.heap.size (fun k_ => some k_ ≠ (s_.2.2 : Value).ownBlock ∧ some k_ ≠ (.slice Ao18 t472.length co18 : Value).ownBlock) s_.2.1 y487) ∧ (Kd.R k43 43 w' w.heap.size (fun k_ => some k_ ≠ (s_.2.1 : Value).ownBlock ∧ some k_ ≠ (.slice Ao18 t472.length co18 : Value).ownBlock) s_.2.2 y494) ∧ (Kd.R k43 43 w' w.heap.size (fun k_ => some k_ ≠ (s_.2.1 : Value).ownBlock ∧ some k_ ≠ (s_.2.2 : Value).ownBlock) (.slice Ao18 t472.length co18) t472) ∧ (Kd.S (Kd.slice 35 k35) 33 w' w.heap.size (fun _ => True) (.slice (some ad482) t477.length co39) t477) ∧ (Below w.heap.size w w')) ?_ ?_
              rotate_left
              ·intro hCont
               refine two_ (i := 0) (j := 24) (Ni := some 76) (Nj := some 100) #[true, true, false, true, true, true, true, true, true, true, true, true, true, true, true, true, true, true, true, true, true, true, true, true, false, false, false] #[false, true, false, true, true, true, true, true, true, true, true, true, true, true, true, true, true, true, true, true, true, true, true, true, true, false, false] rfl rfl rfl rfl (two_of HT_.out (by kernel_rfl)) (by decide) (by decide) (fun K hK => ?_) (fun K hK => ?_)
               ·skip
                refine Kd.R_lit_step k43 _ 43 ?hg (N := 76) ?hd (xs := ([] : List (S43))) (inner := []) (ok := fun _ => True) (okp := fun _ => True) ?hr ?hp (fun _ hk => hk) trivial (Below.refl _ _) (Nat.le_refl _) (by simp) ?_; (case hd => rfl); (case hg => rfl); (case hr => first | (go_simp; done) | (go_simp; rfl)); (case hp => exact (Reps.none _ _))
                intro v485 w41 ho42 hb hg_ hnew_
                have HS0_ := (hb.cell (World.block_lt_of_cell? _ _ (hHeld.1))).trans (hHeld.1)
                have HS1_ := (hb.cell (World.block_lt_of_cell? _ _ (hHeld.2.1))).trans (hHeld.2.1)
                have HS2_ := (hb.cell (World.block_lt_of_cell? _ _ (hHeld.2.2.1))).trans (hHeld.2.2.1)
                have HS3_ := (hb.cell (World.block_lt_of_cell? _ _ (hHeld.2.2.2.1))).trans (hHeld.2.2.2.1)
                have HS4_ := (hb.cell (World.block_lt_of_cell? _ _ (hHeld.2.2.2.2.1))).trans (hHeld.2.2.2.2.1)
                have HS5_ := (hb.cell (World.block_lt_of_cell? _ _ (hHeld.2.2.2.2.2))).trans (hHeld.2.2.2.2.2)
                clear hg_ hnew_
                (first | rw [← Ny484.out] at ho42 | (simp only [Int.reduceToNat] at ho42; rw [← Ny484.out] at ho42))
                have n0_ := Aside0.mk (Kd.R_elder' (by (with_reducible repeat (first | apply Kd.R_alloc | apply Kd.R_drewN | apply Kd.R_drew)); exact HO_1.out) (Kd.R_base ho42) hb)
                have n1_ := Aside0.mk (Kd.S_below (by (with_reducible repeat (first | apply Kd.S_alloc | apply Kd.S_drewN | apply Kd.S_drew)); exact HO_10.out) hb)
                have n2_ := Aside0.mk (Kd.R_below (by (with_reducible repeat (first | apply Kd.R_alloc | apply Kd.R_drewN | apply Kd.R_drew)); exact HL482_0.out) hb)
                have n3_ := Aside0.mk (Kd.R_below (by (with_reducible repeat (first | apply Kd.R_alloc | apply Kd.R_drewN | apply Kd.R_drew)); exact HL490_0.out) hb)
                have n4_ := Aside0.mk (Kd.R_below (by (with_reducible repeat (first | apply Kd.R_alloc | apply Kd.R_drewN | apply Kd.R_drew)); exact HL492_0.out) hb)
                have n5_ := Aside0.mk (Kd.R_lower (Kd.R_new' ho42 (Kd.R_lt (by (with_reducible repeat (first | apply Kd.R_alloc | apply Kd.R_drewN | apply Kd.R_drew)); exact HO_1.out))) (below_size (be_ HB).out))
                have n6_ := Aside0.mk (Kd.C_below (by repeat (first | (with_reducible exact HR482_0.out) | (with_reducible refine Kd.C_alloc ?_ _) | (with_reducible refine Kd.C_drewN ?_ _) | (with_reducible refine Kd.C_drew ?_) | exact HR482_0.out)) hb)
                have n7_ := Aside0.mk (Kd.C_below (by repeat (first | (with_reducible exact HR490_0.out) | (with_reducible refine Kd.C_alloc ?_ _) | (with_reducible refine Kd.C_drewN ?_ _) | (with_reducible refine Kd.C_drew ?_) | exact HR490_0.out)) hb)
                have n8_ := Aside0.mk (Kd.C_below (by repeat (first | (with_reducible exact HR492_0.out) | (with_reducible refine Kd.C_alloc ?_ _) | (with_reducible refine Kd.C_drewN ?_ _) | (with_reducible refine Kd.C_drew ?_) | exact HR492_0.out)) hb)
                have n9_ := bs_ HB hb
                clear HO_1
                clear HO_10
                clear HL482_0
                clear HL490_0
                clear HL492_0
                clear HR482_0
                clear HR490_0
                clear HR492_0
                clear HB
                have HO_1 := n0_
                have HO_10 := n1_
                have HL482_0 := n2_
                have HL490_0 := n3_
                have HL492_0 := n4_
                have HO486 := n5_
                have HR482_0 := n6_
                have HR490_0 := n7_
                have HR492_0 := n8_
                have HB := n9_
                clear n0_ n1_ n2_ n3_ n4_ n5_ n6_ n7_ n8_ n9_
                clear hb ho42
                refine hK.out _ _ ⟨HS0_, HS1_, HS2_, HS3_, HS4_, HS5_⟩ (fun hHeld => ?_)
                clear hK K
                refine norm_ (a' := ?_) ?_ ?_
                rotate_left
                ·show Act.put _ (some 76) _ = _
                 simp only [Act.put, List.setIfInBounds_toArray, List.set_cons_zero, List.set_cons_succ, i64_w, i32_w]
                 rfl
                refine two_ (i := 2) (j := 24) (Ni := some 78) (Nj := some 100) #[true, true, true, true, true, true, true, true, true, true, true, true, true, true, true, true, true, true, true, true, true, true, true, true, false, false, false] #[true, true, false, true, true, true, true, true, true, true, true, true, true, true, true, true, true, true, true, true, true, true, true, true, true, false, false] rfl rfl rfl rfl (two_of HT_.out (by kernel_rfl)) (by decide) (by decide) (fun K hK => ?_) (fun K hK => ?_)
                ·skip
                 refine Kd.R_append_rows_step k43 (w0 := w) w.heap.size (by rfl) (.tmp 76) (.tmp 77) 22 43 (.agg #[(.int .i64 0), (.int .i64 0), (.int .i64 0), (.int .i64 0)]) 32 rfl Try.underlying22 info43 rfl (by decide) (by omega) v485 y484 t472 _ _ _ (fun k_ => some k_ ≠ (.slice Ao18 t472.length co18 : Value).ownBlock) (fun _ => False) rfl rfl ?aO ?aR (fun _ _ h => h) (fun _ h => h.elim) ?aF ?aB ?aS ?aL ?_
                 (case aR => repeat (first | exact (Kd.R_reads' HO_1.out).2.2 | (with_reducible refine Kd.C_alloc ?_ _) | (with_reducible refine Kd.C_drewN ?_ _) | (with_reducible refine Kd.C_drew ?_)))
                 (case aB => exact (be_ HB).out)
                 (case aF => exact (fun k_ hk => Kd.fresh' (Kd.R_lt (by (with_reducible repeat (first | apply Kd.R_alloc | apply Kd.R_drewN | apply Kd.R_drew)); exact HO_1.out)) k_ hk))
                 (case aO => exact (by (with_reducible repeat (first | apply Kd.R_alloc | apply Kd.R_drewN | apply Kd.R_drew)); exact Kd.R_mono HO486.out (fun _ hk => hk.2)))
                 (case aS => exact (below_size (be_ HB).out))
                 (case aL => have := LMc34.out; omega)
                 intro v488 w43 ho hb hg hat
                 have HS0_ := cell_grown hg (hHeld.1) (by first | (rw [add_block]; exact (fun e_ => two_types_ (Kd.S_typed HO_10.out _ rfl) (Kd.R_typed HO486.out _ e_.symm) (by decide))) | (show some (Addr.add _ _).block ≠ _; rw [add_block]; exact (fun e_ => two_types_ (Kd.S_typed HO_10.out _ rfl) (Kd.R_typed HO486.out _ e_.symm) (by decide))) | exact (fun e_ => two_types_ (Kd.S_typed HO_10.out _ rfl) (Kd.R_typed HO486.out _ e_.symm) (by decide)))
                 have HS1_ := cell_grown hg (hHeld.2.1) (by first | (rw [add_block]; exact (fun e_ => two_types_ (Kd.R_typed HL490_0.out _ rfl) (Kd.R_typed HO486.out _ e_.symm) (by decide))) | (show some (Addr.add _ _).block ≠ _; rw [add_block]; exact (fun e_ => two_types_ (Kd.R_typed HL490_0.out _ rfl) (Kd.R_typed HO486.out _ e_.symm) (by decide))) | exact (fun e_ => two_types_ (Kd.R_typed HL490_0.out _ rfl) (Kd.R_typed HO486.out _ e_.symm) (by decide)))
                 have HS2_ := cell_grown hg (hHeld.2.2.1) (by first | (rw [add_block]; exact (fun e_ => two_types_ (Kd.R_typed HL490_0.out _ rfl) (Kd.R_typed HO486.out _ e_.symm) (by decide))) | (show some (Addr.add _ _).block ≠ _; rw [add_block]; exact (fun e_ => two_types_ (Kd.R_typed HL490_0.out _ rfl) (Kd.R_typed HO486.out _ e_.symm) (by decide))) | exact (fun e_ => two_types_ (Kd.R_typed HL490_0.out _ rfl) (Kd.R_typed HO486.out _ e_.symm) (by decide)))
                 have HS3_ := cell_grown hg (hHeld.2.2.2.1) (by first | (rw [add_block]; exact (fun e_ => two_types_ (Kd.S_typed HO_10.out _ rfl) (Kd.R_typed HO486.out _ e_.symm) (by decide))) | (show some (Addr.add _ _).block ≠ _; rw [add_block]; exact (fun e_ => two_types_ (Kd.S_typed HO_10.out _ rfl) (Kd.R_typed HO486.out _ e_.symm) (by decide))) | exact (fun e_ => two_types_ (Kd.S_typed HO_10.out _ rfl) (Kd.R_typed HO486.out _ e_.symm) (by decide)))
                 have HS4_ := cell_grown hg (hHeld.2.2.2.2.1) (by first | (rw [add_block]; exact (fun e_ => two_types_ (Kd.R_typed HL492_0.out _ rfl) (Kd.R_typed HO486.out _ e_.symm) (by decide))) | (show some (Addr.add _ _).block ≠ _; rw [add_block]; exact (fun e_ => two_types_ (Kd.R_typed HL492_0.out _ rfl) (Kd.R_typed HO486.out _ e_.symm) (by decide))) | exact (fun e_ => two_types_ (Kd.R_typed HL492_0.out _ rfl) (Kd.R_typed HO486.out _ e_.symm) (by decide)))
                 have HS5_ := cell_grown hg (hHeld.2.2.2.2.2) (by first | (rw [add_block]; exact (fun e_ => two_types_ (Kd.R_typed HL492_0.out _ rfl) (Kd.R_typed HO486.out _ e_.symm) (by decide))) | (show some (Addr.add _ _).block ≠ _; rw [add_block]; exact (fun e_ => two_types_ (Kd.R_typed HL492_0.out _ rfl) (Kd.R_typed HO486.out _ e_.symm) (by decide))) | exact (fun e_ => two_types_ (Kd.R_typed HL492_0.out _ rfl) (Kd.R_typed HO486.out _ e_.symm) (by decide)))
                 rw [← Ny487.out] at ho
                 have n0_ := Aside0.mk (Kd.R_after (ok := (fun _ => True)) (by (with_reducible repeat (first | apply Kd.R_alloc | apply Kd.R_drewN | apply Kd.R_drew)); exact HO_1.out) hg hat)
                 have n1_ := Aside0.mk (Kd.S_over' (by (with_reducible repeat (first | apply Kd.S_alloc | apply Kd.S_drewN | apply Kd.S_drew)); exact HO_10.out) (Kd.R_typed (by (with_reducible repeat (first | apply Kd.R_alloc | apply Kd.R_drewN | apply Kd.R_drew)); exact HO486.out)) (by decide) hg)
                 have n2_ := Aside0.mk (Kd.R_over' (by (with_reducible repeat (first | apply Kd.R_alloc | apply Kd.R_drewN | apply Kd.R_drew)); exact HL482_0.out) (Kd.R_typed (by (with_reducible repeat (first | apply Kd.R_alloc | apply Kd.R_drewN | apply Kd.R_drew)); exact HO486.out)) (by decide) hg)
                 have n3_ := Aside0.mk (Kd.R_over' (by (with_reducible repeat (first | apply Kd.R_alloc | apply Kd.R_drewN | apply Kd.R_drew)); exact HL490_0.out) (Kd.R_typed (by (with_reducible repeat (first | apply Kd.R_alloc | apply Kd.R_drewN | apply Kd.R_drew)); exact HO486.out)) (by decide) hg)
                 have n4_ := Aside0.mk (Kd.R_over' (by (with_reducible repeat (first | apply Kd.R_alloc | apply Kd.R_drewN | apply Kd.R_drew)); exact HL492_0.out) (Kd.R_typed (by (with_reducible repeat (first | apply Kd.R_alloc | apply Kd.R_drewN | apply Kd.R_drew)); exact HO486.out)) (by decide) hg)
                 have n5_ := Aside0.mk (hb)
                 have n6_ := Aside0.mk (ho)
                 clear HO_1
                 clear HO_10
                 clear HL482_0
                 clear HL490_0
                 clear HL492_0
                 clear HB
                 clear HO486
                 have HO_1 := n0_
                 have HO_10 := n1_
                 have HL482_0 := n2_
                 have HL490_0 := n3_
                 have HL492_0 := n4_
                 have HB := n5_
                 have HO489 := n6_
                 clear n0_ n1_ n2_ n3_ n4_ n5_ n6_
                 clear ho hb hg hat
                 refine hK.out _ _ ⟨HS0_, HS1_, HS2_, HS3_, HS4_, HS5_⟩ (fun hHeld => ?_)
                 clear hK K
                 refine norm_ (a' := ?_) ?_ ?_
                 rotate_left
                 ·show Act.put _ (some 78) _ = _
                  simp only [Act.put, List.setIfInBounds_toArray, List.set_cons_zero, List.set_cons_succ, i64_w, i32_w]
                  rfl
                 refine one_ (i := 24) (N := some 100) #[true, true, true, true, true, true, true, true, true, true, true, true, true, true, true, true, true, true, true, true, true, true, true, true, true, false, false] rfl rfl (one_of HT_.out (by kernel_rfl)) (by decide) (fun K hK => ?_)
                 refine Kd.R_lit_step k43 _ 43 ?hg (N := 100) ?hd (xs := ([(⟨t475, (ji29), wrap64 (((rd_T35 (rd_L4 t477 t475) (ji29)).f1) + 1), wrap64 (((rd_T35 (rd_L4 t477 t475) (ji29)).f1) + 2)⟩ : S43)] : List (S43))) (inner := [.int .i64 t475, .int .i64 (ji29), .int .i64 (wrap64 (((rd_T35 (rd_L4 t477 t475) (ji29)).f1) + 1)), .int .i64 (wrap64 (((rd_T35 (rd_L4 t477 t475) (ji29)).f1) + 2))]) (ok := fun _ => True) (okp := fun _ => True) ?hr ?hp (fun _ hk => hk) trivial (Below.refl _ _) (Nat.le_refl _) (by simp) ?_; (case hd => rfl); (case hg => rfl); (case hr => first | (go_simp; done) | (go_simp; rfl)); (case hp => exact (Reps.c4 (show Kd.M k43 _ _ _ (⟨t475, (ji29), wrap64 (((rd_T35 (rd_L4 t477 t475) (ji29)).f1) + 1), wrap64 (((rd_T35 (rd_L4 t477 t475) (ji29)).f1) + 2)⟩ : S43) [.int .i64 t475, .int .i64 (ji29), .int .i64 (wrap64 (((rd_T35 (rd_L4 t477 t475) (ji29)).f1) + 1)), .int .i64 (wrap64 (((rd_T35 (rd_L4 t477 t475) (ji29)).f1) + 2))] from (k43_mkM _ _ _ (⟨t475, (ji29), wrap64 (((rd_T35 (rd_L4 t477 t475) (ji29)).f1) + 1), wrap64 (((rd_T35 (rd_L4 t477 t475) (ji29)).f1) + 2)⟩ : S43) )) (Reps.none _ _)))
                 intro v495 w44 ho45 hb hg_ hnew_
                 have HS0_ := (hb.cell (World.block_lt_of_cell? _ _ (hHeld.1))).trans (hHeld.1)
                 have HS1_ := (hb.cell (World.block_lt_of_cell? _ _ (hHeld.2.1))).trans (hHeld.2.1)
                 have HS2_ := (hb.cell (World.block_lt_of_cell? _ _ (hHeld.2.2.1))).trans (hHeld.2.2.1)
                 have HS3_ := (hb.cell (World.block_lt_of_cell? _ _ (hHeld.2.2.2.1))).trans (hHeld.2.2.2.1)
                 have HS4_ := (hb.cell (World.block_lt_of_cell? _ _ (hHeld.2.2.2.2.1))).trans (hHeld.2.2.2.2.1)
                 have HS5_ := (hb.cell (World.block_lt_of_cell? _ _ (hHeld.2.2.2.2.2))).trans (hHeld.2.2.2.2.2)
                 clear hg_ hnew_
                 (first | rw [← Ny494.out] at ho45 | (simp only [Int.reduceToNat] at ho45; rw [← Ny494.out] at ho45))
                 have n0_ := Aside0.mk (Kd.R_elder' (by (with_reducible repeat (first | apply Kd.R_alloc | apply Kd.R_drewN | apply Kd.R_drew)); exact HO_1.out) (Kd.R_base ho45) hb)
                 have n1_ := Aside0.mk (Kd.S_below (by (with_reducible repeat (first | apply Kd.S_alloc | apply Kd.S_drewN | apply Kd.S_drew)); exact HO_10.out) hb)
                 have n2_ := Aside0.mk (Kd.R_below (by (with_reducible repeat (first | apply Kd.R_alloc | apply Kd.R_drewN | apply Kd.R_drew)); exact HL482_0.out) hb)
                 have n3_ := Aside0.mk (Kd.R_below (by (with_reducible repeat (first | apply Kd.R_alloc | apply Kd.R_drewN | apply Kd.R_drew)); exact HL490_0.out) hb)
                 have n4_ := Aside0.mk (Kd.R_below (by (with_reducible repeat (first | apply Kd.R_alloc | apply Kd.R_drewN | apply Kd.R_drew)); exact HL492_0.out) hb)
                 have n5_ := Aside0.mk (Kd.R_elder' (by (with_reducible repeat (first | apply Kd.R_alloc | apply Kd.R_drewN | apply Kd.R_drew)); exact HO489.out) (Kd.R_base ho45) hb)
                 have n6_ := Aside0.mk (Kd.R_lower (Kd.R_new' (Kd.R_new' ho45 (Kd.R_lt (by (with_reducible repeat (first | apply Kd.R_alloc | apply Kd.R_drewN | apply Kd.R_drew)); exact HO_1.out))) (Kd.R_lt (by (with_reducible repeat (first | apply Kd.R_alloc | apply Kd.R_drewN | apply Kd.R_drew)); exact HO489.out))) (below_size (be_ HB).out))
                 have n7_ := bs_ HB hb
                 clear HO_1
                 clear HO_10
                 clear HL482_0
                 clear HL490_0
                 clear HL492_0
                 clear HO489
                 clear HB
                 have HO_1 := n0_
                 have HO_10 := n1_
                 have HL482_0 := n2_
                 have HL490_0 := n3_
                 have HL492_0 := n4_
                 have HO489 := n5_
                 have HO496 := n6_
                 have HB := n7_
                 clear n0_ n1_ n2_ n3_ n4_ n5_ n6_ n7_
                 clear hb ho45
                 refine hK.out _ _ ⟨HS0_, HS1_, HS2_, HS3_, HS4_, HS5_⟩ (fun hHeld => ?_)
                 clear hK K
                 refine norm_ (a' := ?_) ?_ ?_
                 rotate_left
                 ·show Act.put _ (some 100) _ = _
                  simp only [Act.put, List.setIfInBounds_toArray, List.set_cons_zero, List.set_cons_succ, i64_w, i32_w]
                  rfl
                 exact norm_ (by simp only [putAll, Act.put, List.setIfInBounds_toArray, List.set_cons_zero, List.set_cons_succ]) (hCont (v485, v488, v495) _ ⟨hHeld, (by (with_reducible repeat (first | apply Kd.R_alloc | apply Kd.R_drewN | apply Kd.R_drew)); exact Kd.R_mono HL482_0.out (fun _ hk => hk.2)), (by (with_reducible repeat (first | apply Kd.R_alloc | apply Kd.R_drewN | apply Kd.R_drew)); exact Kd.R_mono HL490_0.out (fun _ hk => hk.2)), (by (with_reducible repeat (first | apply Kd.R_alloc | apply Kd.R_drewN | apply Kd.R_drew)); exact Kd.R_mono HL492_0.out (fun _ hk => hk.2)), (by (with_reducible repeat (first | apply Kd.R_alloc | apply Kd.R_drewN | apply Kd.R_drew)); exact Kd.R_mono HO489.out (fun _ hk => ⟨hk.2, hk.1⟩)), (by (with_reducible repeat (first | apply Kd.R_alloc | apply Kd.R_drewN | apply Kd.R_drew)); exact Kd.R_mono HO496.out (fun _ hk => ⟨hk.2, hk.1.2⟩)), (by (with_reducible repeat (first | apply Kd.R_alloc | apply Kd.R_drewN | apply Kd.R_drew)); exact Kd.R_mono HO_1.out (fun _ hk => ⟨hk.1.2, hk.2⟩)), (by (with_reducible repeat (first | apply Kd.S_alloc | apply Kd.S_drewN | apply Kd.S_drew)); exact HO_10.out), (be_ HB).out⟩)
                ·skip
                 refine Kd.R_lit_step k43 _ 43 ?hg (N := 100) ?hd (xs := ([(⟨t475, (ji29), wrap64 (((rd_T35 (rd_L4 t477 t475) (ji29)).f1) + 1), wrap64 (((rd_T35 (rd_L4 t477 t475) (ji29)).f1) + 2)⟩ : S43)] : List (S43))) (inner := [.int .i64 t475, .int .i64 (ji29), .int .i64 (wrap64 (((rd_T35 (rd_L4 t477 t475) (ji29)).f1) + 1)), .int .i64 (wrap64 (((rd_T35 (rd_L4 t477 t475) (ji29)).f1) + 2))]) (ok := fun _ => True) (okp := fun _ => True) ?hr ?hp (fun _ hk => hk) trivial (Below.refl _ _) (Nat.le_refl _) (by simp) ?_; (case hd => rfl); (case hg => rfl); (case hr => first | (go_simp; done) | (go_simp; rfl)); (case hp => exact (Reps.c4 (show Kd.M k43 _ _ _ (⟨t475, (ji29), wrap64 (((rd_T35 (rd_L4 t477 t475) (ji29)).f1) + 1), wrap64 (((rd_T35 (rd_L4 t477 t475) (ji29)).f1) + 2)⟩ : S43) [.int .i64 t475, .int .i64 (ji29), .int .i64 (wrap64 (((rd_T35 (rd_L4 t477 t475) (ji29)).f1) + 1)), .int .i64 (wrap64 (((rd_T35 (rd_L4 t477 t475) (ji29)).f1) + 2))] from (k43_mkM _ _ _ (⟨t475, (ji29), wrap64 (((rd_T35 (rd_L4 t477 t475) (ji29)).f1) + 1), wrap64 (((rd_T35 (rd_L4 t477 t475) (ji29)).f1) + 2)⟩ : S43) )) (Reps.none _ _)))
                 intro v495 w43 ho44 hb hg_ hnew_
                 have HS0_ := (hb.cell (World.block_lt_of_cell? _ _ (hHeld.1))).trans (hHeld.1)
                 have HS1_ := (hb.cell (World.block_lt_of_cell? _ _ (hHeld.2.1))).trans (hHeld.2.1)
                 have HS2_ := (hb.cell (World.block_lt_of_cell? _ _ (hHeld.2.2.1))).trans (hHeld.2.2.1)
                 have HS3_ := (hb.cell (World.block_lt_of_cell? _ _ (hHeld.2.2.2.1))).trans (hHeld.2.2.2.1)
                 have HS4_ := (hb.cell (World.block_lt_of_cell? _ _ (hHeld.2.2.2.2.1))).trans (hHeld.2.2.2.2.1)
                 have HS5_ := (hb.cell (World.block_lt_of_cell? _ _ (hHeld.2.2.2.2.2))).trans (hHeld.2.2.2.2.2)
                 clear hg_ hnew_
                 (first | rw [← Ny494.out] at ho44 | (simp only [Int.reduceToNat] at ho44; rw [← Ny494.out] at ho44))
                 have n0_ := Aside0.mk (Kd.R_elder' (by (with_reducible repeat (first | apply Kd.R_alloc | apply Kd.R_drewN | apply Kd.R_drew)); exact HO_1.out) (Kd.R_base ho44) hb)
                 have n1_ := Aside0.mk (Kd.S_below (by (with_reducible repeat (first | apply Kd.S_alloc | apply Kd.S_drewN | apply Kd.S_drew)); exact HO_10.out) hb)
                 have n2_ := Aside0.mk (Kd.R_below (by (with_reducible repeat (first | apply Kd.R_alloc | apply Kd.R_drewN | apply Kd.R_drew)); exact HL482_0.out) hb)
                 have n3_ := Aside0.mk (Kd.R_below (by (with_reducible repeat (first | apply Kd.R_alloc | apply Kd.R_drewN | apply Kd.R_drew)); exact HL490_0.out) hb)
                 have n4_ := Aside0.mk (Kd.R_below (by (with_reducible repeat (first | apply Kd.R_alloc | apply Kd.R_drewN | apply Kd.R_drew)); exact HL492_0.out) hb)
                 have n5_ := Aside0.mk (Kd.R_elder' (by (with_reducible repeat (first | apply Kd.R_alloc | apply Kd.R_drewN | apply Kd.R_drew)); exact HO486.out) (Kd.R_base ho44) hb)
                 have n6_ := Aside0.mk (Kd.R_lower (Kd.R_new' (Kd.R_new' ho44 (Kd.R_lt (by (with_reducible repeat (first | apply Kd.R_alloc | apply Kd.R_drewN | apply Kd.R_drew)); exact HO_1.out))) (Kd.R_lt (by (with_reducible repeat (first | apply Kd.R_alloc | apply Kd.R_drewN | apply Kd.R_drew)); exact HO486.out))) (below_size (be_ HB).out))
                 have n7_ := Aside0.mk (Kd.C_below (by repeat (first | (with_reducible exact HR482_0.out) | (with_reducible refine Kd.C_alloc ?_ _) | (with_reducible refine Kd.C_drewN ?_ _) | (with_reducible refine Kd.C_drew ?_) | exact HR482_0.out)) hb)
                 have n8_ := Aside0.mk (Kd.C_below (by repeat (first | (with_reducible exact HR490_0.out) | (with_reducible refine Kd.C_alloc ?_ _) | (with_reducible refine Kd.C_drewN ?_ _) | (with_reducible refine Kd.C_drew ?_) | exact HR490_0.out)) hb)
                 have n9_ := Aside0.mk (Kd.C_below (by repeat (first | (with_reducible exact HR492_0.out) | (with_reducible refine Kd.C_alloc ?_ _) | (with_reducible refine Kd.C_drewN ?_ _) | (with_reducible refine Kd.C_drew ?_) | exact HR492_0.out)) hb)
                 have n10_ := bs_ HB hb
                 clear HO_1
                 clear HO_10
                 clear HL482_0
                 clear HL490_0
                 clear HL492_0
                 clear HO486
                 clear HR482_0
                 clear HR490_0
                 clear HR492_0
                 clear HB
                 have HO_1 := n0_
                 have HO_10 := n1_
                 have HL482_0 := n2_
                 have HL490_0 := n3_
                 have HL492_0 := n4_
                 have HO486 := n5_
                 have HO496 := n6_
                 have HR482_0 := n7_
                 have HR490_0 := n8_
                 have HR492_0 := n9_
                 have HB := n10_
                 clear n0_ n1_ n2_ n3_ n4_ n5_ n6_ n7_ n8_ n9_ n10_
                 clear hb ho44
                 refine hK.out _ _ ⟨HS0_, HS1_, HS2_, HS3_, HS4_, HS5_⟩ (fun hHeld => ?_)
                 clear hK K
                 refine norm_ (a' := ?_) ?_ ?_
                 rotate_left
                 ·show Act.put _ (some 100) _ = _
                  simp only [Act.put, List.setIfInBounds_toArray, List.set_cons_zero, List.set_cons_succ, i64_w, i32_w]
                  rfl
                 refine one_ (i := 2) (N := some 78) #[true, true, true, true, true, true, true, true, true, true, true, true, true, true, true, true, true, true, true, true, true, true, true, true, true, false, false] rfl rfl (one_of HT_.out (by kernel_rfl)) (by decide) (fun K hK => ?_)
                 refine Kd.R_append_rows_step k43 (w0 := w) w.heap.size (by rfl) (.tmp 76) (.tmp 77) 22 43 (.agg #[(.int .i64 0), (.int .i64 0), (.int .i64 0), (.int .i64 0)]) 32 rfl Try.underlying22 info43 rfl (by decide) (by omega) v485 y484 t472 _ _ _ (fun k_ => some k_ ≠ (.slice Ao18 t472.length co18 : Value).ownBlock ∧ some k_ ≠ (v495 : Value).ownBlock) (fun _ => False) rfl rfl ?aO ?aR (fun _ _ h => h) (fun _ h => h.elim) ?aF ?aB ?aS ?aL ?_
                 (case aR => repeat (first | exact (Kd.R_reads' HO_1.out).2.2 | (with_reducible refine Kd.C_alloc ?_ _) | (with_reducible refine Kd.C_drewN ?_ _) | (with_reducible refine Kd.C_drew ?_)))
                 (case aB => exact (be_ HB).out)
                 (case aF => exact (fun k_ hk => ⟨Kd.fresh' (Kd.R_lt (by (with_reducible repeat (first | apply Kd.R_alloc | apply Kd.R_drewN | apply Kd.R_drew)); exact HO_1.out)) k_ hk, Kd.fresh' (Kd.R_lt (by (with_reducible repeat (first | apply Kd.R_alloc | apply Kd.R_drewN | apply Kd.R_drew)); exact HO496.out)) k_ hk⟩))
                 (case aO => exact (by (with_reducible repeat (first | apply Kd.R_alloc | apply Kd.R_drewN | apply Kd.R_drew)); exact Kd.R_mono HO486.out (fun _ hk => ⟨hk.1.2, hk.2⟩)))
                 (case aS => exact (below_size (be_ HB).out))
                 (case aL => have := LMc34.out; omega)
                 intro v488 w45 ho hb hg hat
                 have HS0_ := cell_grown hg (hHeld.1) (by first | (rw [add_block]; exact (fun e_ => two_types_ (Kd.S_typed HO_10.out _ rfl) (Kd.R_typed HO486.out _ e_.symm) (by decide))) | (show some (Addr.add _ _).block ≠ _; rw [add_block]; exact (fun e_ => two_types_ (Kd.S_typed HO_10.out _ rfl) (Kd.R_typed HO486.out _ e_.symm) (by decide))) | exact (fun e_ => two_types_ (Kd.S_typed HO_10.out _ rfl) (Kd.R_typed HO486.out _ e_.symm) (by decide)))
                 have HS1_ := cell_grown hg (hHeld.2.1) (by first | (rw [add_block]; exact (fun e_ => two_types_ (Kd.R_typed HL490_0.out _ rfl) (Kd.R_typed HO486.out _ e_.symm) (by decide))) | (show some (Addr.add _ _).block ≠ _; rw [add_block]; exact (fun e_ => two_types_ (Kd.R_typed HL490_0.out _ rfl) (Kd.R_typed HO486.out _ e_.symm) (by decide))) | exact (fun e_ => two_types_ (Kd.R_typed HL490_0.out _ rfl) (Kd.R_typed HO486.out _ e_.symm) (by decide)))
                 have HS2_ := cell_grown hg (hHeld.2.2.1) (by first | (rw [add_block]; exact (fun e_ => two_types_ (Kd.R_typed HL490_0.out _ rfl) (Kd.R_typed HO486.out _ e_.symm) (by decide))) | (show some (Addr.add _ _).block ≠ _; rw [add_block]; exact (fun e_ => two_types_ (Kd.R_typed HL490_0.out _ rfl) (Kd.R_typed HO486.out _ e_.symm) (by decide))) | exact (fun e_ => two_types_ (Kd.R_typed HL490_0.out _ rfl) (Kd.R_typed HO486.out _ e_.symm) (by decide)))
                 have HS3_ := cell_grown hg (hHeld.2.2.2.1) (by first | (rw [add_block]; exact (fun e_ => two_types_ (Kd.S_typed HO_10.out _ rfl) (Kd.R_typed HO486.out _ e_.symm) (by decide))) | (show some (Addr.add _ _).block ≠ _; rw [add_block]; exact (fun e_ => two_types_ (Kd.S_typed HO_10.out _ rfl) (Kd.R_typed HO486.out _ e_.symm) (by decide))) | exact (fun e_ => two_types_ (Kd.S_typed HO_10.out _ rfl) (Kd.R_typed HO486.out _ e_.symm) (by decide)))
                 have HS4_ := cell_grown hg (hHeld.2.2.2.2.1) (by first | (rw [add_block]; exact (fun e_ => two_types_ (Kd.R_typed HL492_0.out _ rfl) (Kd.R_typed HO486.out _ e_.symm) (by decide))) | (show some (Addr.add _ _).block ≠ _; rw [add_block]; exact (fun e_ => two_types_ (Kd.R_typed HL492_0.out _ rfl) (Kd.R_typed HO486.out _ e_.symm) (by decide))) | exact (fun e_ => two_types_ (Kd.R_typed HL492_0.out _ rfl) (Kd.R_typed HO486.out _ e_.symm) (by decide)))
                 have HS5_ := cell_grown hg (hHeld.2.2.2.2.2) (by first | (rw [add_block]; exact (fun e_ => two_types_ (Kd.R_typed HL492_0.out _ rfl) (Kd.R_typed HO486.out _ e_.symm) (by decide))) | (show some (Addr.add _ _).block ≠ _; rw [add_block]; exact (fun e_ => two_types_ (Kd.R_typed HL492_0.out _ rfl) (Kd.R_typed HO486.out _ e_.symm) (by decide))) | exact (fun e_ => two_types_ (Kd.R_typed HL492_0.out _ rfl) (Kd.R_typed HO486.out _ e_.symm) (by decide)))
                 rw [← Ny487.out] at ho
                 have n0_ := Aside0.mk (Kd.R_after (ok := (fun k_ => some k_ ≠ (v495 : Value).ownBlock)) (by (with_reducible repeat (first | apply Kd.R_alloc | apply Kd.R_drewN | apply Kd.R_drew)); exact Kd.R_mono HO_1.out (fun _ hk => ⟨hk.2, hk.1.2⟩)) hg hat)
                 have n1_ := Aside0.mk (Kd.S_over' (by (with_reducible repeat (first | apply Kd.S_alloc | apply Kd.S_drewN | apply Kd.S_drew)); exact HO_10.out) (Kd.R_typed (by (with_reducible repeat (first | apply Kd.R_alloc | apply Kd.R_drewN | apply Kd.R_drew)); exact HO486.out)) (by decide) hg)
                 have n2_ := Aside0.mk (Kd.R_over' (by (with_reducible repeat (first | apply Kd.R_alloc | apply Kd.R_drewN | apply Kd.R_drew)); exact HL482_0.out) (Kd.R_typed (by (with_reducible repeat (first | apply Kd.R_alloc | apply Kd.R_drewN | apply Kd.R_drew)); exact HO486.out)) (by decide) hg)
                 have n3_ := Aside0.mk (Kd.R_over' (by (with_reducible repeat (first | apply Kd.R_alloc | apply Kd.R_drewN | apply Kd.R_drew)); exact HL490_0.out) (Kd.R_typed (by (with_reducible repeat (first | apply Kd.R_alloc | apply Kd.R_drewN | apply Kd.R_drew)); exact HO486.out)) (by decide) hg)
                 have n4_ := Aside0.mk (Kd.R_over' (by (with_reducible repeat (first | apply Kd.R_alloc | apply Kd.R_drewN | apply Kd.R_drew)); exact HL492_0.out) (Kd.R_typed (by (with_reducible repeat (first | apply Kd.R_alloc | apply Kd.R_drewN | apply Kd.R_drew)); exact HO486.out)) (by decide) hg)
                 have n5_ := Aside0.mk (Kd.R_after (ok := (fun k_ => some k_ ≠ (.slice Ao18 t472.length co18 : Value).ownBlock)) (by (with_reducible repeat (first | apply Kd.R_alloc | apply Kd.R_drewN | apply Kd.R_drew)); exact Kd.R_mono HO496.out (fun _ hk => ⟨hk.1.2, hk.2⟩)) hg hat)
                 have n6_ := Aside0.mk (hb)
                 have n7_ := Aside0.mk (ho)
                 clear HO_1
                 clear HO_10
                 clear HL482_0
                 clear HL490_0
                 clear HL492_0
                 clear HO496
                 clear HB
                 clear HO486
                 have HO_1 := n0_
                 have HO_10 := n1_
                 have HL482_0 := n2_
                 have HL490_0 := n3_
                 have HL492_0 := n4_
                 have HO496 := n5_
                 have HB := n6_
                 have HO489 := n7_
                 clear n0_ n1_ n2_ n3_ n4_ n5_ n6_ n7_
                 clear ho hb hg hat
                 refine hK.out _ _ ⟨HS0_, HS1_, HS2_, HS3_, HS4_, HS5_⟩ (fun hHeld => ?_)
                 clear hK K
                 refine norm_ (a' := ?_) ?_ ?_
                 rotate_left
                 ·show Act.put _ (some 78) _ = _
                  simp only [Act.put, List.setIfInBounds_toArray, List.set_cons_zero, List.set_cons_succ, i64_w, i32_w]
                  rfl
                 exact norm_ (by simp only [putAll, Act.put, List.setIfInBounds_toArray, List.set_cons_zero, List.set_cons_succ]) (hCont (v485, v488, v495) _ ⟨hHeld, (by (with_reducible repeat (first | apply Kd.R_alloc | apply Kd.R_drewN | apply Kd.R_drew)); exact Kd.R_mono HL482_0.out (fun _ hk => hk.2)), (by (with_reducible repeat (first | apply Kd.R_alloc | apply Kd.R_drewN | apply Kd.R_drew)); exact Kd.R_mono HL490_0.out (fun _ hk => hk.2)), (by (with_reducible repeat (first | apply Kd.R_alloc | apply Kd.R_drewN | apply Kd.R_drew)); exact Kd.R_mono HL492_0.out (fun _ hk => hk.2)), (by (with_reducible repeat (first | apply Kd.R_alloc | apply Kd.R_drewN | apply Kd.R_drew)); exact Kd.R_mono HO489.out (fun _ hk => ⟨hk.2, hk.1⟩)), (by (with_reducible repeat (first | apply Kd.R_alloc | apply Kd.R_drewN | apply Kd.R_drew)); exact Kd.R_mono HO496.out (fun _ hk => ⟨hk.2, hk.1⟩)), (by (with_reducible repeat (first | apply Kd.R_alloc | apply Kd.R_drewN | apply Kd.R_drew)); exact Kd.R_mono HO_1.out (fun _ hk => ⟨hk.2, hk.1⟩)), (by (with_reducible repeat (first | apply Kd.S_alloc | apply Kd.S_drewN | apply Kd.S_drew)); exact HO_10.out), (be_ HB).out⟩)
               ·skip
                refine Kd.R_lit_step k43 _ 43 ?hg (N := 100) ?hd (xs := ([(⟨t475, (ji29), wrap64 (((rd_T35 (rd_L4 t477 t475) (ji29)).f1) + 1), wrap64 (((rd_T35 (rd_L4 t477 t475) (ji29)).f1) + 2)⟩ : S43)] : List (S43))) (inner := [.int .i64 t475, .int .i64 (ji29), .int .i64 (wrap64 (((rd_T35 (rd_L4 t477 t475) (ji29)).f1) + 1)), .int .i64 (wrap64 (((rd_T35 (rd_L4 t477 t475) (ji29)).f1) + 2))]) (ok := fun _ => True) (okp := fun _ => True) ?hr ?hp (fun _ hk => hk) trivial (Below.refl _ _) (Nat.le_refl _) (by simp) ?_; (case hd => rfl); (case hg => rfl); (case hr => first | (go_simp; done) | (go_simp; rfl)); (case hp => exact (Reps.c4 (show Kd.M k43 _ _ _ (⟨t475, (ji29), wrap64 (((rd_T35 (rd_L4 t477 t475) (ji29)).f1) + 1), wrap64 (((rd_T35 (rd_L4 t477 t475) (ji29)).f1) + 2)⟩ : S43) [.int .i64 t475, .int .i64 (ji29), .int .i64 (wrap64 (((rd_T35 (rd_L4 t477 t475) (ji29)).f1) + 1)), .int .i64 (wrap64 (((rd_T35 (rd_L4 t477 t475) (ji29)).f1) + 2))] from (k43_mkM _ _ _ (⟨t475, (ji29), wrap64 (((rd_T35 (rd_L4 t477 t475) (ji29)).f1) + 1), wrap64 (((rd_T35 (rd_L4 t477 t475) (ji29)).f1) + 2)⟩ : S43) )) (Reps.none _ _)))
                intro v495 w41 ho42 hb hg_ hnew_
                have HS0_ := (hb.cell (World.block_lt_of_cell? _ _ (hHeld.1))).trans (hHeld.1)
                have HS1_ := (hb.cell (World.block_lt_of_cell? _ _ (hHeld.2.1))).trans (hHeld.2.1)
                have HS2_ := (hb.cell (World.block_lt_of_cell? _ _ (hHeld.2.2.1))).trans (hHeld.2.2.1)
                have HS3_ := (hb.cell (World.block_lt_of_cell? _ _ (hHeld.2.2.2.1))).trans (hHeld.2.2.2.1)
                have HS4_ := (hb.cell (World.block_lt_of_cell? _ _ (hHeld.2.2.2.2.1))).trans (hHeld.2.2.2.2.1)
                have HS5_ := (hb.cell (World.block_lt_of_cell? _ _ (hHeld.2.2.2.2.2))).trans (hHeld.2.2.2.2.2)
                clear hg_ hnew_
                (first | rw [← Ny494.out] at ho42 | (simp only [Int.reduceToNat] at ho42; rw [← Ny494.out] at ho42))
                have n0_ := Aside0.mk (Kd.R_elder' (by (with_reducible repeat (first | apply Kd.R_alloc | apply Kd.R_drewN | apply Kd.R_drew)); exact HO_1.out) (Kd.R_base ho42) hb)
                have n1_ := Aside0.mk (Kd.S_below (by (with_reducible repeat (first | apply Kd.S_alloc | apply Kd.S_drewN | apply Kd.S_drew)); exact HO_10.out) hb)
                have n2_ := Aside0.mk (Kd.R_below (by (with_reducible repeat (first | apply Kd.R_alloc | apply Kd.R_drewN | apply Kd.R_drew)); exact HL482_0.out) hb)
                have n3_ := Aside0.mk (Kd.R_below (by (with_reducible repeat (first | apply Kd.R_alloc | apply Kd.R_drewN | apply Kd.R_drew)); exact HL490_0.out) hb)
                have n4_ := Aside0.mk (Kd.R_below (by (with_reducible repeat (first | apply Kd.R_alloc | apply Kd.R_drewN | apply Kd.R_drew)); exact HL492_0.out) hb)
                have n5_ := Aside0.mk (Kd.R_lower (Kd.R_new' ho42 (Kd.R_lt (by (with_reducible repeat (first | apply Kd.R_alloc | apply Kd.R_drewN | apply Kd.R_drew)); exact HO_1.out))) (below_size (be_ HB).out))
                have n6_ := Aside0.mk (Kd.C_below (by repeat (first | (with_reducible exact HR482_0.out) | (with_reducible refine Kd.C_alloc ?_ _) | (with_reducible refine Kd.C_drewN ?_ _) | (with_reducible refine Kd.C_drew ?_) | exact HR482_0.out)) hb)
                have n7_ := Aside0.mk (Kd.C_below (by repeat (first | (with_reducible exact HR490_0.out) | (with_reducible refine Kd.C_alloc ?_ _) | (with_reducible refine Kd.C_drewN ?_ _) | (with_reducible refine Kd.C_drew ?_) | exact HR490_0.out)) hb)
                have n8_ := Aside0.mk (Kd.C_below (by repeat (first | (with_reducible exact HR492_0.out) | (with_reducible refine Kd.C_alloc ?_ _) | (with_reducible refine Kd.C_drewN ?_ _) | (with_reducible refine Kd.C_drew ?_) | exact HR492_0.out)) hb)
                have n9_ := bs_ HB hb
                clear HO_1
                clear HO_10
                clear HL482_0
                clear HL490_0
                clear HL492_0
                clear HR482_0
                clear HR490_0
                clear HR492_0
                clear HB
                have HO_1 := n0_
                have HO_10 := n1_
                have HL482_0 := n2_
                have HL490_0 := n3_
                have HL492_0 := n4_
                have HO496 := n5_
                have HR482_0 := n6_
                have HR490_0 := n7_
                have HR492_0 := n8_
                have HB := n9_
                clear n0_ n1_ n2_ n3_ n4_ n5_ n6_ n7_ n8_ n9_
                clear hb ho42
                refine hK.out _ _ ⟨HS0_, HS1_, HS2_, HS3_, HS4_, HS5_⟩ (fun hHeld => ?_)
                clear hK K
                refine norm_ (a' := ?_) ?_ ?_
                rotate_left
                ·show Act.put _ (some 100) _ = _
                 simp only [Act.put, List.setIfInBounds_toArray, List.set_cons_zero, List.set_cons_succ, i64_w, i32_w]
                 rfl
                refine one_ (i := 0) (N := some 76) #[true, true, false, true, true, true, true, true, true, true, true, true, true, true, true, true, true, true, true, true, true, true, true, true, true, false, false] rfl rfl (one_of HT_.out (by kernel_rfl)) (by decide) (fun K hK => ?_)
                refine Kd.R_lit_step k43 _ 43 ?hg (N := 76) ?hd (xs := ([] : List (S43))) (inner := []) (ok := fun _ => True) (okp := fun _ => True) ?hr ?hp (fun _ hk => hk) trivial (Below.refl _ _) (Nat.le_refl _) (by simp) ?_; (case hd => rfl); (case hg => rfl); (case hr => first | (go_simp; done) | (go_simp; rfl)); (case hp => exact (Reps.none _ _))
                intro v485 w43 ho44 hb hg_ hnew_
                have HS0_ := (hb.cell (World.block_lt_of_cell? _ _ (hHeld.1))).trans (hHeld.1)
                have HS1_ := (hb.cell (World.block_lt_of_cell? _ _ (hHeld.2.1))).trans (hHeld.2.1)
                have HS2_ := (hb.cell (World.block_lt_of_cell? _ _ (hHeld.2.2.1))).trans (hHeld.2.2.1)
                have HS3_ := (hb.cell (World.block_lt_of_cell? _ _ (hHeld.2.2.2.1))).trans (hHeld.2.2.2.1)
                have HS4_ := (hb.cell (World.block_lt_of_cell? _ _ (hHeld.2.2.2.2.1))).trans (hHeld.2.2.2.2.1)
                have HS5_ := (hb.cell (World.block_lt_of_cell? _ _ (hHeld.2.2.2.2.2))).trans (hHeld.2.2.2.2.2)
                clear hg_ hnew_
                (first | rw [← Ny484.out] at ho44 | (simp only [Int.reduceToNat] at ho44; rw [← Ny484.out] at ho44))
                have n0_ := Aside0.mk (Kd.R_elder' (by (with_reducible repeat (first | apply Kd.R_alloc | apply Kd.R_drewN | apply Kd.R_drew)); exact HO_1.out) (Kd.R_base ho44) hb)
                have n1_ := Aside0.mk (Kd.S_below (by (with_reducible repeat (first | apply Kd.S_alloc | apply Kd.S_drewN | apply Kd.S_drew)); exact HO_10.out) hb)
                have n2_ := Aside0.mk (Kd.R_below (by (with_reducible repeat (first | apply Kd.R_alloc | apply Kd.R_drewN | apply Kd.R_drew)); exact HL482_0.out) hb)
                have n3_ := Aside0.mk (Kd.R_below (by (with_reducible repeat (first | apply Kd.R_alloc | apply Kd.R_drewN | apply Kd.R_drew)); exact HL490_0.out) hb)
                have n4_ := Aside0.mk (Kd.R_below (by (with_reducible repeat (first | apply Kd.R_alloc | apply Kd.R_drewN | apply Kd.R_drew)); exact HL492_0.out) hb)
                have n5_ := Aside0.mk (Kd.R_elder' (by (with_reducible repeat (first | apply Kd.R_alloc | apply Kd.R_drewN | apply Kd.R_drew)); exact HO496.out) (Kd.R_base ho44) hb)
                have n6_ := Aside0.mk (Kd.R_lower (Kd.R_new' (Kd.R_new' ho44 (Kd.R_lt (by (with_reducible repeat (first | apply Kd.R_alloc | apply Kd.R_drewN | apply Kd.R_drew)); exact HO_1.out))) (Kd.R_lt (by (with_reducible repeat (first | apply Kd.R_alloc | apply Kd.R_drewN | apply Kd.R_drew)); exact HO496.out))) (below_size (be_ HB).out))
                have n7_ := Aside0.mk (Kd.C_below (by repeat (first | (with_reducible exact HR482_0.out) | (with_reducible refine Kd.C_alloc ?_ _) | (with_reducible refine Kd.C_drewN ?_ _) | (with_reducible refine Kd.C_drew ?_) | exact HR482_0.out)) hb)
                have n8_ := Aside0.mk (Kd.C_below (by repeat (first | (with_reducible exact HR490_0.out) | (with_reducible refine Kd.C_alloc ?_ _) | (with_reducible refine Kd.C_drewN ?_ _) | (with_reducible refine Kd.C_drew ?_) | exact HR490_0.out)) hb)
                have n9_ := Aside0.mk (Kd.C_below (by repeat (first | (with_reducible exact HR492_0.out) | (with_reducible refine Kd.C_alloc ?_ _) | (with_reducible refine Kd.C_drewN ?_ _) | (with_reducible refine Kd.C_drew ?_) | exact HR492_0.out)) hb)
                have n10_ := bs_ HB hb
                clear HO_1
                clear HO_10
                clear HL482_0
                clear HL490_0
                clear HL492_0
                clear HO496
                clear HR482_0
                clear HR490_0
                clear HR492_0
                clear HB
                have HO_1 := n0_
                have HO_10 := n1_
                have HL482_0 := n2_
                have HL490_0 := n3_
                have HL492_0 := n4_
                have HO496 := n5_
                have HO486 := n6_
                have HR482_0 := n7_
                have HR490_0 := n8_
                have HR492_0 := n9_
                have HB := n10_
                clear n0_ n1_ n2_ n3_ n4_ n5_ n6_ n7_ n8_ n9_ n10_
                clear hb ho44
                refine hK.out _ _ ⟨HS0_, HS1_, HS2_, HS3_, HS4_, HS5_⟩ (fun hHeld => ?_)
                clear hK K
                refine norm_ (a' := ?_) ?_ ?_
                rotate_left
                ·show Act.put _ (some 76) _ = _
                 simp only [Act.put, List.setIfInBounds_toArray, List.set_cons_zero, List.set_cons_succ, i64_w, i32_w]
                 rfl
                refine one_ (i := 2) (N := some 78) #[true, true, true, true, true, true, true, true, true, true, true, true, true, true, true, true, true, true, true, true, true, true, true, true, true, false, false] rfl rfl (one_of HT_.out (by kernel_rfl)) (by decide) (fun K hK => ?_)
                refine Kd.R_append_rows_step k43 (w0 := w) w.heap.size (by rfl) (.tmp 76) (.tmp 77) 22 43 (.agg #[(.int .i64 0), (.int .i64 0), (.int .i64 0), (.int .i64 0)]) 32 rfl Try.underlying22 info43 rfl (by decide) (by omega) v485 y484 t472 _ _ _ (fun k_ => some k_ ≠ (.slice Ao18 t472.length co18 : Value).ownBlock ∧ some k_ ≠ (v495 : Value).ownBlock) (fun _ => False) rfl rfl ?aO ?aR (fun _ _ h => h) (fun _ h => h.elim) ?aF ?aB ?aS ?aL ?_
                (case aR => repeat (first | exact (Kd.R_reads' HO_1.out).2.2 | (with_reducible refine Kd.C_alloc ?_ _) | (with_reducible refine Kd.C_drewN ?_ _) | (with_reducible refine Kd.C_drew ?_)))
                (case aB => exact (be_ HB).out)
                (case aF => exact (fun k_ hk => ⟨Kd.fresh' (Kd.R_lt (by (with_reducible repeat (first | apply Kd.R_alloc | apply Kd.R_drewN | apply Kd.R_drew)); exact HO_1.out)) k_ hk, Kd.fresh' (Kd.R_lt (by (with_reducible repeat (first | apply Kd.R_alloc | apply Kd.R_drewN | apply Kd.R_drew)); exact HO496.out)) k_ hk⟩))
                (case aO => exact (by (with_reducible repeat (first | apply Kd.R_alloc | apply Kd.R_drewN | apply Kd.R_drew)); exact Kd.R_mono HO486.out (fun _ hk => ⟨hk.1.2, hk.2⟩)))
                (case aS => exact (below_size (be_ HB).out))
                (case aL => have := LMc34.out; omega)
                intro v488 w45 ho hb hg hat
                have HS0_ := cell_grown hg (hHeld.1) (by first | (rw [add_block]; exact (fun e_ => two_types_ (Kd.S_typed HO_10.out _ rfl) (Kd.R_typed HO486.out _ e_.symm) (by decide))) | (show some (Addr.add _ _).block ≠ _; rw [add_block]; exact (fun e_ => two_types_ (Kd.S_typed HO_10.out _ rfl) (Kd.R_typed HO486.out _ e_.symm) (by decide))) | exact (fun e_ => two_types_ (Kd.S_typed HO_10.out _ rfl) (Kd.R_typed HO486.out _ e_.symm) (by decide)))
                have HS1_ := cell_grown hg (hHeld.2.1) (by first | (rw [add_block]; exact (fun e_ => two_types_ (Kd.R_typed HL490_0.out _ rfl) (Kd.R_typed HO486.out _ e_.symm) (by decide))) | (show some (Addr.add _ _).block ≠ _; rw [add_block]; exact (fun e_ => two_types_ (Kd.R_typed HL490_0.out _ rfl) (Kd.R_typed HO486.out _ e_.symm) (by decide))) | exact (fun e_ => two_types_ (Kd.R_typed HL490_0.out _ rfl) (Kd.R_typed HO486.out _ e_.symm) (by decide)))
                have HS2_ := cell_grown hg (hHeld.2.2.1) (by first | (rw [add_block]; exact (fun e_ => two_types_ (Kd.R_typed HL490_0.out _ rfl) (Kd.R_typed HO486.out _ e_.symm) (by decide))) | (show some (Addr.add _ _).block ≠ _; rw [add_block]; exact (fun e_ => two_types_ (Kd.R_typed HL490_0.out _ rfl) (Kd.R_typed HO486.out _ e_.symm) (by decide))) | exact (fun e_ => two_types_ (Kd.R_typed HL490_0.out _ rfl) (Kd.R_typed HO486.out _ e_.symm) (by decide)))
                have HS3_ := cell_grown hg (hHeld.2.2.2.1) (by first | (rw [add_block]; exact (fun e_ => two_types_ (Kd.S_typed HO_10.out _ rfl) (Kd.R_typed HO486.out _ e_.symm) (by decide))) | (show some (Addr.add _ _).block ≠ _; rw [add_block]; exact (fun e_ => two_types_ (Kd.S_typed HO_10.out _ rfl) (Kd.R_typed HO486.out _ e_.symm) (by decide))) | exact (fun e_ => two_types_ (Kd.S_typed HO_10.out _ rfl) (Kd.R_typed HO486.out _ e_.symm) (by decide)))
                have HS4_ := cell_grown hg (hHeld.2.2.2.2.1) (by first | (rw [add_block]; exact (fun e_ => two_types_ (Kd.R_typed HL492_0.out _ rfl) (Kd.R_typed HO486.out _ e_.symm) (by decide))) | (show some (Addr.add _ _).block ≠ _; rw [add_block]; exact (fun e_ => two_types_ (Kd.R_typed HL492_0.out _ rfl) (Kd.R_typed HO486.out _ e_.symm) (by decide))) | exact (fun e_ => two_types_ (Kd.R_typed HL492_0.out _ rfl) (Kd.R_typed HO486.out _ e_.symm) (by decide)))
                have HS5_ := cell_grown hg (hHeld.2.2.2.2.2) (by first | (rw [add_block]; exact (fun e_ => two_types_ (Kd.R_typed HL492_0.out _ rfl) (Kd.R_typed HO486.out _ e_.symm) (by decide))) | (show some (Addr.add _ _).block ≠ _; rw [add_block]; exact (fun e_ => two_types_ (Kd.R_typed HL492_0.out _ rfl) (Kd.R_typed HO486.out _ e_.symm) (by decide))) | exact (fun e_ => two_types_ (Kd.R_typed HL492_0.out _ rfl) (Kd.R_typed HO486.out _ e_.symm) (by decide)))
                rw [← Ny487.out] at ho
                have n0_ := Aside0.mk (Kd.R_after (ok := (fun k_ => some k_ ≠ (v495 : Value).ownBlock)) (by (with_reducible repeat (first | apply Kd.R_alloc | apply Kd.R_drewN | apply Kd.R_drew)); exact Kd.R_mono HO_1.out (fun _ hk => ⟨hk.1.2, hk.2⟩)) hg hat)
                have n1_ := Aside0.mk (Kd.S_over' (by (with_reducible repeat (first | apply Kd.S_alloc | apply Kd.S_drewN | apply Kd.S_drew)); exact HO_10.out) (Kd.R_typed (by (with_reducible repeat (first | apply Kd.R_alloc | apply Kd.R_drewN | apply Kd.R_drew)); exact HO486.out)) (by decide) hg)
                have n2_ := Aside0.mk (Kd.R_over' (by (with_reducible repeat (first | apply Kd.R_alloc | apply Kd.R_drewN | apply Kd.R_drew)); exact HL482_0.out) (Kd.R_typed (by (with_reducible repeat (first | apply Kd.R_alloc | apply Kd.R_drewN | apply Kd.R_drew)); exact HO486.out)) (by decide) hg)
                have n3_ := Aside0.mk (Kd.R_over' (by (with_reducible repeat (first | apply Kd.R_alloc | apply Kd.R_drewN | apply Kd.R_drew)); exact HL490_0.out) (Kd.R_typed (by (with_reducible repeat (first | apply Kd.R_alloc | apply Kd.R_drewN | apply Kd.R_drew)); exact HO486.out)) (by decide) hg)
                have n4_ := Aside0.mk (Kd.R_over' (by (with_reducible repeat (first | apply Kd.R_alloc | apply Kd.R_drewN | apply Kd.R_drew)); exact HL492_0.out) (Kd.R_typed (by (with_reducible repeat (first | apply Kd.R_alloc | apply Kd.R_drewN | apply Kd.R_drew)); exact HO486.out)) (by decide) hg)
                have n5_ := Aside0.mk (Kd.R_after (ok := (fun k_ => some k_ ≠ (.slice Ao18 t472.length co18 : Value).ownBlock)) (by (with_reducible repeat (first | apply Kd.R_alloc | apply Kd.R_drewN | apply Kd.R_drew)); exact Kd.R_mono HO496.out (fun _ hk => ⟨hk.1.2, hk.2⟩)) hg hat)
                have n6_ := Aside0.mk (hb)
                have n7_ := Aside0.mk (ho)
                clear HO_1
                clear HO_10
                clear HL482_0
                clear HL490_0
                clear HL492_0
                clear HO496
                clear HB
                clear HO486
                have HO_1 := n0_
                have HO_10 := n1_
                have HL482_0 := n2_
                have HL490_0 := n3_
                have HL492_0 := n4_
                have HO496 := n5_
                have HB := n6_
                have HO489 := n7_
                clear n0_ n1_ n2_ n3_ n4_ n5_ n6_ n7_
                clear ho hb hg hat
                refine hK.out _ _ ⟨HS0_, HS1_, HS2_, HS3_, HS4_, HS5_⟩ (fun hHeld => ?_)
                clear hK K
                refine norm_ (a' := ?_) ?_ ?_
                rotate_left
                ·show Act.put _ (some 78) _ = _
                 simp only [Act.put, List.setIfInBounds_toArray, List.set_cons_zero, List.set_cons_succ, i64_w, i32_w]
                 rfl
                exact norm_ (by simp only [putAll, Act.put, List.setIfInBounds_toArray, List.set_cons_zero, List.set_cons_succ]) (hCont (v485, v488, v495) _ ⟨hHeld, (by (with_reducible repeat (first | apply Kd.R_alloc | apply Kd.R_drewN | apply Kd.R_drew)); exact Kd.R_mono HL482_0.out (fun _ hk => hk.2)), (by (with_reducible repeat (first | apply Kd.R_alloc | apply Kd.R_drewN | apply Kd.R_drew)); exact Kd.R_mono HL490_0.out (fun _ hk => hk.2)), (by (with_reducible repeat (first | apply Kd.R_alloc | apply Kd.R_drewN | apply Kd.R_drew)); exact Kd.R_mono HL492_0.out (fun _ hk => hk.2)), (by (with_reducible repeat (first | apply Kd.R_alloc | apply Kd.R_drewN | apply Kd.R_drew)); exact Kd.R_mono HO489.out (fun _ hk => ⟨hk.2, hk.1⟩)), (by (with_reducible repeat (first | apply Kd.R_alloc | apply Kd.R_drewN | apply Kd.R_drew)); exact Kd.R_mono HO496.out (fun _ hk => ⟨hk.2, hk.1⟩)), (by (with_reducible repeat (first | apply Kd.R_alloc | apply Kd.R_drewN | apply Kd.R_drew)); exact Kd.R_mono HO_1.out (fun _ hk => ⟨hk.2, hk.1⟩)), (by (with_reducible repeat (first | apply Kd.S_alloc | apply Kd.S_drewN | apply Kd.S_drew)); exact HO_10.out), (be_ HB).out⟩)
              rintro ⟨v485, v488, v495⟩ w46 ⟨hS_, h0_, h1_, h2_, h3_, h4_, h5_, h6_, h7_⟩
              have n0_ := Aside0.mk h0_
              have n1_ := Aside0.mk h1_
              have n2_ := Aside0.mk h2_
              have n3_ := Aside0.mk h3_
              have n4_ := Aside0.mk h4_
              have n5_ := Aside0.mk h5_
              have n6_ := Aside0.mk h6_
              have n7_ := Aside0.mk h7_
              clear HO_1
              clear HO_10
              clear HL482_0
              clear HR482_0
              clear HB
              clear h0_ h1_ h2_ h3_ h4_ h5_ h6_ h7_
              have HL482_0 := n0_
              have HL490_0 := n1_
              have HL492_0 := n2_
              have HO489 := n3_
              have HO496 := n4_
              have HO_1 := n5_
              have HO_10 := n6_
              have HB := n7_
              clear n0_ n1_ n2_ n3_ n4_ n5_ n6_ n7_
              have hHeld : w46.cell? (ad482.add (t475).toNat) = some (.slice (some ad491) (rd_L4 t477 t475).length c490_0) ∧ w46.cell? (ad491.add (((ji29)).toNat * 2)) = some (.int .i64 ((rd_T35 (rd_L4 t477 t475) (ji29)).f0)) ∧ w46.cell? ⟨(ad491.add (((ji29)).toNat * 2)).block, (ad491.add (((ji29)).toNat * 2)).off + 1, none⟩ = some (.int .i64 ((rd_T35 (rd_L4 t477 t475) (ji29)).f1)) ∧ w46.cell? (ad482.add (t475).toNat) = some (.slice (some ad491) (rd_L4 t477 t475).length c490_0) ∧ w46.cell? (ad491.add (((ji29)).toNat * 2)) = some (.int .i64 ((rd_T35 (rd_L4 t477 t475) (ji29)).f0)) ∧ w46.cell? ⟨(ad491.add (((ji29)).toNat * 2)).block, (ad491.add (((ji29)).toNat * 2)).off + 1, none⟩ = some (.int .i64 ((rd_T35 (rd_L4 t477 t475) (ji29)).f1)) := hS_
              obtain ⟨Ao48, co48, eo48⟩ := Kd.R_slice HO496.out
              (first | subst eo48 | (injection eo48 with f1_ f2_ f3_; have f4_ := f1_.symm; have f5_ := f3_.symm; clear f1_ f2_ f3_; subst f4_; subst f5_))
              refine norm_ (a' := ?_) ?_ ?_
              rotate_left
              ·simp only [putAll, Act.put, List.setIfInBounds_toArray, List.set_cons_zero, List.set_cons_succ]
               rfl
              refine one_ (i := 25) (N := some 101) #[true, true, true, true, true, true, true, true, true, true, true, true, true, true, true, true, true, true, true, true, true, true, true, true, true, true, false] rfl rfl (one_of HT_.out (by kernel_rfl)) (by decide) (fun K hK => ?_)
              refine Kd.R_append_rows_step k43 (w0 := w) w.heap.size (by rfl) (.tmp 78) (.tmp 100) 22 43 (.agg #[(.int .i64 0), (.int .i64 0), (.int .i64 0), (.int .i64 0)]) 32 rfl Try.underlying22 info43 rfl (by decide) (by omega) v488 y487 y494 _ _ _ (fun k_ => some k_ ≠ (.slice Ao18 t472.length co18 : Value).ownBlock ∧ some k_ ≠ (.slice Ao48 y494.length co48 : Value).ownBlock) (fun _ => False) rfl rfl ?aO ?aR (fun _ _ h => h) (fun _ h => h.elim) ?aF ?aB ?aS ?aL ?_
              (case aR => repeat (first | exact (Kd.R_reads' HO496.out).2.2 | (with_reducible refine Kd.C_alloc ?_ _) | (with_reducible refine Kd.C_drewN ?_ _) | (with_reducible refine Kd.C_drew ?_)))
              (case aB => exact (be_ HB).out)
              (case aF => exact (fun k_ hk => ⟨Kd.fresh' (Kd.R_lt (by (with_reducible repeat (first | apply Kd.R_alloc | apply Kd.R_drewN | apply Kd.R_drew)); exact HO_1.out)) k_ hk, Kd.fresh' (Kd.R_lt (by (with_reducible repeat (first | apply Kd.R_alloc | apply Kd.R_drewN | apply Kd.R_drew)); exact HO496.out)) k_ hk⟩))
              (case aO => exact (by (with_reducible repeat (first | apply Kd.R_alloc | apply Kd.R_drewN | apply Kd.R_drew)); exact Kd.R_mono HO489.out (fun _ hk => ⟨hk.2, hk.1⟩)))
              (case aS => exact (below_size (be_ HB).out))
              (case aL => have := LMc35.out; omega)
              intro v498 w47 ho hb hg hat
              have HS0_ := cell_grown hg (hHeld.1) (by first | (rw [add_block]; exact (fun e_ => two_types_ (Kd.S_typed HO_10.out _ rfl) (Kd.R_typed HO489.out _ e_.symm) (by decide))) | (show some (Addr.add _ _).block ≠ _; rw [add_block]; exact (fun e_ => two_types_ (Kd.S_typed HO_10.out _ rfl) (Kd.R_typed HO489.out _ e_.symm) (by decide))) | exact (fun e_ => two_types_ (Kd.S_typed HO_10.out _ rfl) (Kd.R_typed HO489.out _ e_.symm) (by decide)))
              have HS1_ := cell_grown hg (hHeld.2.1) (by first | (rw [add_block]; exact (fun e_ => two_types_ (Kd.R_typed HL490_0.out _ rfl) (Kd.R_typed HO489.out _ e_.symm) (by decide))) | (show some (Addr.add _ _).block ≠ _; rw [add_block]; exact (fun e_ => two_types_ (Kd.R_typed HL490_0.out _ rfl) (Kd.R_typed HO489.out _ e_.symm) (by decide))) | exact (fun e_ => two_types_ (Kd.R_typed HL490_0.out _ rfl) (Kd.R_typed HO489.out _ e_.symm) (by decide)))
              have HS2_ := cell_grown hg (hHeld.2.2.1) (by first | (rw [add_block]; exact (fun e_ => two_types_ (Kd.R_typed HL490_0.out _ rfl) (Kd.R_typed HO489.out _ e_.symm) (by decide))) | (show some (Addr.add _ _).block ≠ _; rw [add_block]; exact (fun e_ => two_types_ (Kd.R_typed HL490_0.out _ rfl) (Kd.R_typed HO489.out _ e_.symm) (by decide))) | exact (fun e_ => two_types_ (Kd.R_typed HL490_0.out _ rfl) (Kd.R_typed HO489.out _ e_.symm) (by decide)))
              have HS3_ := cell_grown hg (hHeld.2.2.2.1) (by first | (rw [add_block]; exact (fun e_ => two_types_ (Kd.S_typed HO_10.out _ rfl) (Kd.R_typed HO489.out _ e_.symm) (by decide))) | (show some (Addr.add _ _).block ≠ _; rw [add_block]; exact (fun e_ => two_types_ (Kd.S_typed HO_10.out _ rfl) (Kd.R_typed HO489.out _ e_.symm) (by decide))) | exact (fun e_ => two_types_ (Kd.S_typed HO_10.out _ rfl) (Kd.R_typed HO489.out _ e_.symm) (by decide)))
              have HS4_ := cell_grown hg (hHeld.2.2.2.2.1) (by first | (rw [add_block]; exact (fun e_ => two_types_ (Kd.R_typed HL492_0.out _ rfl) (Kd.R_typed HO489.out _ e_.symm) (by decide))) | (show some (Addr.add _ _).block ≠ _; rw [add_block]; exact (fun e_ => two_types_ (Kd.R_typed HL492_0.out _ rfl) (Kd.R_typed HO489.out _ e_.symm) (by decide))) | exact (fun e_ => two_types_ (Kd.R_typed HL492_0.out _ rfl) (Kd.R_typed HO489.out _ e_.symm) (by decide)))
              have HS5_ := cell_grown hg (hHeld.2.2.2.2.2) (by first | (rw [add_block]; exact (fun e_ => two_types_ (Kd.R_typed HL492_0.out _ rfl) (Kd.R_typed HO489.out _ e_.symm) (by decide))) | (show some (Addr.add _ _).block ≠ _; rw [add_block]; exact (fun e_ => two_types_ (Kd.R_typed HL492_0.out _ rfl) (Kd.R_typed HO489.out _ e_.symm) (by decide))) | exact (fun e_ => two_types_ (Kd.R_typed HL492_0.out _ rfl) (Kd.R_typed HO489.out _ e_.symm) (by decide)))
              rw [← Ny497.out] at ho
              have n0_ := Aside0.mk (Kd.R_after (ok := (fun k_ => some k_ ≠ (.slice Ao48 y494.length co48 : Value).ownBlock)) (by (with_reducible repeat (first | apply Kd.R_alloc | apply Kd.R_drewN | apply Kd.R_drew)); exact Kd.R_mono HO_1.out (fun _ hk => ⟨hk.2, hk.1⟩)) hg hat)
              have n1_ := Aside0.mk (Kd.S_over' (by (with_reducible repeat (first | apply Kd.S_alloc | apply Kd.S_drewN | apply Kd.S_drew)); exact HO_10.out) (Kd.R_typed (by (with_reducible repeat (first | apply Kd.R_alloc | apply Kd.R_drewN | apply Kd.R_drew)); exact HO489.out)) (by decide) hg)
              have n2_ := Aside0.mk (Kd.R_over' (by (with_reducible repeat (first | apply Kd.R_alloc | apply Kd.R_drewN | apply Kd.R_drew)); exact HL482_0.out) (Kd.R_typed (by (with_reducible repeat (first | apply Kd.R_alloc | apply Kd.R_drewN | apply Kd.R_drew)); exact HO489.out)) (by decide) hg)
              have n3_ := Aside0.mk (Kd.R_over' (by (with_reducible repeat (first | apply Kd.R_alloc | apply Kd.R_drewN | apply Kd.R_drew)); exact HL490_0.out) (Kd.R_typed (by (with_reducible repeat (first | apply Kd.R_alloc | apply Kd.R_drewN | apply Kd.R_drew)); exact HO489.out)) (by decide) hg)
              have n4_ := Aside0.mk (Kd.R_over' (by (with_reducible repeat (first | apply Kd.R_alloc | apply Kd.R_drewN | apply Kd.R_drew)); exact HL492_0.out) (Kd.R_typed (by (with_reducible repeat (first | apply Kd.R_alloc | apply Kd.R_drewN | apply Kd.R_drew)); exact HO489.out)) (by decide) hg)
              have n5_ := Aside0.mk (Kd.R_after (ok := (fun k_ => some k_ ≠ (.slice Ao18 t472.length co18 : Value).ownBlock)) (by (with_reducible repeat (first | apply Kd.R_alloc | apply Kd.R_drewN | apply Kd.R_drew)); exact Kd.R_mono HO496.out (fun _ hk => ⟨hk.2, hk.1⟩)) hg hat)
              have n6_ := Aside0.mk (hb)
              have n7_ := Aside0.mk (ho)
              clear HO_1
              clear HO_10
              clear HL482_0
              clear HL490_0
              clear HL492_0
              clear HO496
              clear HB
              clear HO489
              have HO_1 := n0_
              have HO_10 := n1_
              have HL482_0 := n2_
              have HL490_0 := n3_
              have HL492_0 := n4_
              have HO496 := n5_
              have HB := n6_
              have HO499 := n7_
              clear n0_ n1_ n2_ n3_ n4_ n5_ n6_ n7_
              clear ho hb hg hat
              refine hK.out _ _ ⟨HS0_, HS1_, HS2_, HS3_, HS4_, HS5_⟩ (fun hHeld => ?_)
              clear hK K
              refine norm_ (a' := ?_) ?_ ?_
              rotate_left
              ·show Act.put _ (some 101) _ = _
               simp only [Act.put, List.setIfInBounds_toArray, List.set_cons_zero, List.set_cons_succ, i64_w, i32_w]
               rfl
              refine pure_ (i := 26) (N := some 12) (v := ?_) (a' := ?_) #[true, true, true, true, true, true, true, true, true, true, true, true, true, true, true, true, true, true, true, true, true, true, true, true, true, true, true] rfl rfl (any_of HT_.out (by kernel_rfl)) (fun _ _ _ h => h) (Or.inl ⟨by rfl, ?_⟩) ?_ ?_
              rotate_left
              ·intro w'
               go_simp
               with_reducible rfl
              rotate_left
              ·simp only [Act.put, List.setIfInBounds_toArray, List.set_cons_zero, List.set_cons_succ, i64_w, i32_w]
               rfl
              refine done_ (done_of HT_.out (by kernel_rfl)) ?_
              obtain ⟨Ao49, co49, eo49⟩ := Kd.R_slice HO499.out
              subst eo49
              go_upto_region 16 with (first | ((with_reducible refine gate_callee (f := 20) rfl ?_); refine goesL_ (some 105) rfl rfl Try.func20 (by kernel_rfl) rfl #[.int .i64 t471, .slice Ao49 y497.length co49] rfl (by (try simp only [List.map_toArray, List.map_cons, List.map_nil]); first | done | rfl | (simp only [List.length_drop, List.length_take]; rfl)) ?_; (with_reducible refine (contradict_Least.calls kj14 t471 _ _ y497 t500 t501 _ ?side1 ?side2 A36.out).mono ?_); (case side1 => repeat (first | exact (Kd.R_reads' HO499.out).2.2 | (with_reducible refine Kd.C_alloc ?_ _) | (with_reducible refine Kd.C_drewN ?_ _) | (with_reducible refine Kd.C_drew ?_))); (case side2 => exact (Kd.R_reads' HO499.out).2.1); rintro e w50 ⟨v502, rfl, ho0, hb⟩; refine ⟨_, rfl, ?_⟩; have n0_ := Aside0.mk (Kd.R_below (by (with_reducible repeat (first | apply Kd.R_alloc | apply Kd.R_drewN | apply Kd.R_drew)); exact HO_1.out) hb); have n1_ := Aside0.mk (Kd.S_below (by (with_reducible repeat (first | apply Kd.S_alloc | apply Kd.S_drewN | apply Kd.S_drew)); exact HO_10.out) hb); have n2_ := Aside0.mk (Kd.R_below (by (with_reducible repeat (first | apply Kd.R_alloc | apply Kd.R_drewN | apply Kd.R_drew)); exact HL482_0.out) hb); have n3_ := Aside0.mk (Kd.R_below (by (with_reducible repeat (first | apply Kd.R_alloc | apply Kd.R_drewN | apply Kd.R_drew)); exact HL490_0.out) hb); have n4_ := Aside0.mk (Kd.R_below (by (with_reducible repeat (first | apply Kd.R_alloc | apply Kd.R_drewN | apply Kd.R_drew)); exact HL492_0.out) hb); have n5_ := Aside0.mk (Kd.R_below (by (with_reducible repeat (first | apply Kd.R_alloc | apply Kd.R_drewN | apply Kd.R_drew)); exact HO496.out) hb); have n6_ := Aside0.mk (Kd.R_below (by (with_reducible repeat (first | apply Kd.R_alloc | apply Kd.R_drewN | apply Kd.R_drew)); exact HO499.out) hb); have n7_ := Aside0.mk (Kd.R_lower ho0 (below_size (be_ HB).out)); have n8_ := bs_ HB hb; clear HO_1; clear HO_10; clear HL482_0; clear HL490_0; clear HL492_0; clear HO496; clear HO499; clear HB; have HO_1 := n0_; have HO_10 := n1_; have HL482_0 := n2_; have HL490_0 := n3_; have HL492_0 := n4_; have HO496 := n5_; have HO499 := n6_; have HO503 := n7_; have HB := n8_; clear n0_ n1_ n2_ n3_ n4_ n5_ n6_ n7_ n8_; (try clear hb); (try clear hb2); (try clear hk); (try clear hi); (try clear ho0)) | ((with_reducible refine gate_callee (f := 20) rfl ?_); refine goesL_ (some 111) rfl rfl Try.func20 (by kernel_rfl) rfl #[.int .i64 t471, .slice Ao18 t472.length co18] rfl (by (try simp only [List.map_toArray, List.map_cons, List.map_nil]); first | done | rfl | (simp only [List.length_drop, List.length_take]; rfl)) ?_; (with_reducible refine (contradict_Least.calls kj14 t471 _ _ t472 t504 t505 _ ?side1 ?side2 A37.out).mono ?_); (case side1 => repeat (first | exact (Kd.R_reads' HO_1.out).2.2 | (with_reducible refine Kd.C_alloc ?_ _) | (with_reducible refine Kd.C_drewN ?_ _) | (with_reducible refine Kd.C_drew ?_))); (case side2 => exact (Kd.R_reads' HO_1.out).2.1); rintro e w51 ⟨v506, rfl, ho0, hb⟩; refine ⟨_, rfl, ?_⟩; have n0_ := Aside0.mk (Kd.R_below (by (with_reducible repeat (first | apply Kd.R_alloc | apply Kd.R_drewN | apply Kd.R_drew)); exact HO_1.out) hb); have n1_ := Aside0.mk (Kd.S_below (by (with_reducible repeat (first | apply Kd.S_alloc | apply Kd.S_drewN | apply Kd.S_drew)); exact HO_10.out) hb); have n2_ := Aside0.mk (Kd.R_below (by (with_reducible repeat (first | apply Kd.R_alloc | apply Kd.R_drewN | apply Kd.R_drew)); exact HL482_0.out) hb); have n3_ := Aside0.mk (Kd.R_below (by (with_reducible repeat (first | apply Kd.R_alloc | apply Kd.R_drewN | apply Kd.R_drew)); exact HL490_0.out) hb); have n4_ := Aside0.mk (Kd.R_below (by (with_reducible repeat (first | apply Kd.R_alloc | apply Kd.R_drewN | apply Kd.R_drew)); exact HL492_0.out) hb); have n5_ := Aside0.mk (Kd.R_below (by (with_reducible repeat (first | apply Kd.R_alloc | apply Kd.R_drewN | apply Kd.R_drew)); exact HO496.out) hb); have n6_ := Aside0.mk (Kd.R_below (by (with_reducible repeat (first | apply Kd.R_alloc | apply Kd.R_drewN | apply Kd.R_drew)); exact HO499.out) hb); have n7_ := Aside0.mk (Kd.R_elder' (by (with_reducible repeat (first | apply Kd.R_alloc | apply Kd.R_drewN | apply Kd.R_drew)); exact HO503.out) (Kd.R_base ho0) hb); have n8_ := Aside0.mk (Kd.R_lower (Kd.R_new' ho0 (Kd.R_lt (by (with_reducible repeat (first | apply Kd.R_alloc | apply Kd.R_drewN | apply Kd.R_drew)); exact HO503.out))) (below_size (be_ HB).out)); have n9_ := bs_ HB hb; clear HO_1; clear HO_10; clear HL482_0; clear HL490_0; clear HL492_0; clear HO496; clear HO499; clear HO503; clear HB; have HO_1 := n0_; have HO_10 := n1_; have HL482_0 := n2_; have HL490_0 := n3_; have HL492_0 := n4_; have HO496 := n5_; have HO499 := n6_; have HO503 := n7_; have HO507 := n8_; have HB := n9_; clear n0_ n1_ n2_ n3_ n4_ n5_ n6_ n7_ n8_ n9_; (try clear hb); (try clear hb2); (try clear hk); (try clear hi); (try clear ho0)))
              (try simp only [Act.put, List.setIfInBounds_toArray, List.set_cons_zero, List.set_cons_succ])
              go_cut [135] (fun v135 wc => ∃ (kq : Nat) (x135_37 : Bool), v135 = .bool x135_37 ∧ Aside0 (ephemeristop_TopContradict.j1 kq t471 y497 t500 x135_37 = some r) ∧ Aside0 (kq ≤ kj14) ∧ Aside0 (Kd.R k43 43 wc w.heap.size (fun _ => True) (.slice Ao49 y497.length co49) y497) ∧ Aside0 (Kd.R (Kd.int .i64) 3 wc w.heap.size (fun _ => True) v502 t500) ∧ Aside0 (Below w.heap.size w wc))
              case first =>
               have H := HC38.out
               clear HC38
               by_cases c52 : t501 = 0
               ·rw [if_pos c52] at H
                have c52b0 : (t501 == 0) = true := beq_iff_eq.mpr c52
                have c52b1 : (t501 != 0) = false := bne_eq_false_iff_eq.mpr c52
                clear c52
                (first | rw [c52b0] | (simp only [i64_w, i32_w]; rw [c52b0]) | skip)
                by_cases c53 : t505 = 6
                ·rw [if_pos c53] at H
                 have c53b0 : (t505 == 6) = true := beq_iff_eq.mpr c53
                 have c53b1 : (t505 != 6) = false := bne_eq_false_iff_eq.mpr c53
                 clear c53
                 by_cases c54 : (t500.length : Int) < 2
                 ·rw [if_pos c54] at H
                  have c54b0 : decide ((t500.length : Int) < 2) = true := decide_eq_true c54
                  have c54b1 : decide (t500.length < 2) = true := decide_eq_true (by omega)
                  clear c54
                  have H' := Aside0.mk H
                  clear H
                  obtain ⟨Ao55, co55, eo55⟩ := Kd.R_slice HO503.out
                  subst eo55
                  go_wp2
                  go_meet
                  case rel => exact ⟨_, (true), (by first | rfl | (simp; done) | (simp [*]; done)), H', ⟨by have := HJ14.out; first | omega | exact Nat.le_refl _⟩, ⟨by (with_reducible repeat (first | apply Kd.R_alloc | apply Kd.R_drewN | apply Kd.R_drew)); exact Kd.R_mono HO499.out (fun _ hk => trivial)⟩, ⟨by (with_reducible repeat (first | apply Kd.R_alloc | apply Kd.R_drewN | apply Kd.R_drew)); exact Kd.R_mono HO503.out (fun _ hk => trivial)⟩, (be_ HB)⟩
                 ·rw [if_neg c54] at H
                  have c54b0 : decide ((t500.length : Int) < 2) = false := decide_eq_false c54
                  have c54b1 : decide (t500.length < 2) = false := decide_eq_false (by omega)
                  clear c54
                  obtain ⟨ji56, hji56⟩ : ∃ j_ : Int, (wrap64 ((t500.length : Int) - 1)) = j_ := ⟨_, rfl⟩
                  replace H : (if 0 ≤ (ji56) then (if (ji56) < (t500.length : Int) then (ephemeristop_TopContradict.j1 kj14 t471 y497 t500 ((rd t500 (ji56)) != (t472.length : Int))) else (none)) else (none)) = some r := by first | (rw [hji56] at H; exact H) | (simp only [hji56] at H ⊢; exact H)
                  have hji56w : (IntKind.i64.wrap ((t500.length : Int) - 1)) = ji56 := (i64_w _).trans hji56
                  by_cases c57 : 0 ≤ (ji56)
                  ·rw [if_pos c57] at H
                   have c57b0 : decide (0 ≤ (ji56)) = true := decide_eq_true c57
                   clear c57
                   by_cases c58 : (ji56) < (t500.length : Int)
                   ·rw [if_pos c58] at H
                    have c58b0 : decide ((ji56) < (t500.length : Int)) = true := decide_eq_true c58
                    clear c58
                    have H' := Aside0.mk H
                    clear H
                    obtain ⟨Ao59, co59, eo59⟩ := Kd.R_slice HO503.out
                    subst eo59
                    have p508 : 0 ≤ ((ji56) : Int) := of_decide_eq_true (by first | (with_reducible assumption) | assumption)
                    have q508 : (ji56) < (t500.length : Int) := of_decide_eq_true (by first | (with_reducible assumption) | assumption)
                    obtain ⟨ad508, e508, hx508_0⟩ := Kd.at_int (Kd.R_reads' HO503.out).2.2 (ji56) p508 q508
                    cases e508
                    replace p508 := eq_true p508
                    replace q508 := eq_true q508
                    go_wp2
                    go_meet
                    case rel => exact ⟨_, (((rd t500 (ji56)) != (t472.length : Int))), (by first | rfl | (simp; done) | (simp only [← hji56] <;> (first | rfl | simp)) | (simp [*]; done)), H', ⟨by have := HJ14.out; first | omega | exact Nat.le_refl _⟩, ⟨by (with_reducible repeat (first | apply Kd.R_alloc | apply Kd.R_drewN | apply Kd.R_drew)); exact Kd.R_mono HO499.out (fun _ hk => trivial)⟩, ⟨by (with_reducible repeat (first | apply Kd.R_alloc | apply Kd.R_drewN | apply Kd.R_drew)); exact Kd.R_mono HO503.out (fun _ hk => trivial)⟩, (be_ HB)⟩
                   ·rw [if_neg c58] at H
                    exact absurd H (by simp)
                  ·rw [if_neg c57] at H
                   exact absurd H (by simp)
                ·rw [if_neg c53] at H
                 have c53b0 : (t505 == 6) = false := beq_eq_false_iff_ne.mpr c53
                 have c53b1 : (t505 != 6) = true := bne_iff_ne.mpr c53
                 have H' := Aside0.mk H
                 clear H
                 go_wp2
                 go_meet
                 case rel => exact ⟨_, (true), (by first | rfl | (simp; done) | (simp [*]; done)), H', ⟨by have := HJ14.out; first | omega | exact Nat.le_refl _⟩, ⟨by (with_reducible repeat (first | apply Kd.R_alloc | apply Kd.R_drewN | apply Kd.R_drew)); exact Kd.R_mono HO499.out (fun _ hk => trivial)⟩, ⟨by (with_reducible repeat (first | apply Kd.R_alloc | apply Kd.R_drewN | apply Kd.R_drew)); exact Kd.R_mono HO503.out (fun _ hk => trivial)⟩, (be_ HB)⟩
               ·rw [if_neg c52] at H
                have c52b0 : (t501 == 0) = false := beq_eq_false_iff_ne.mpr c52
                have c52b1 : (t501 != 0) = true := bne_iff_ne.mpr c52
                (first | rw [c52b0] | (simp only [i64_w, i32_w]; rw [c52b0]) | skip)
                have H' := Aside0.mk H
                clear H
                go_wp2
                go_meet
                case rel => exact ⟨_, (true), (by first | rfl | (simp; done) | (simp [*]; done)), H', ⟨by have := HJ14.out; first | omega | exact Nat.le_refl _⟩, ⟨by (with_reducible repeat (first | apply Kd.R_alloc | apply Kd.R_drewN | apply Kd.R_drew)); exact Kd.R_mono HO499.out (fun _ hk => trivial)⟩, ⟨by (with_reducible repeat (first | apply Kd.R_alloc | apply Kd.R_drewN | apply Kd.R_drew)); exact Kd.R_mono HO503.out (fun _ hk => trivial)⟩, (be_ HB)⟩
              case rest =>
               clear HC38
               try clear c2
               try clear p2
               try clear c3
               try clear c4
               try clear c5
               try clear p5
               try clear q5
               try clear hx5
               try clear p6
               try clear c20
               try clear c34
               try clear c35
               try clear c48
               try clear c49
               try clear p50
               try clear q50
               try clear hx50
               try clear c52
               try clear c52b0
               try clear c52b1
               try clear c53
               try clear c53b0
               try clear c53b1
               try clear c54
               try clear c54b0
               try clear c54b1
               try clear c57
               try clear c57b0
               try clear c58
               try clear c58b0
               try clear hx508_0
               try clear p508
               try clear q508
               obtain ⟨kq, x135_37, rfl, HA, HJ37, HO_12, HO_13, HB⟩ := hcut
               cases kq with
               | zero => exact absurd HA.out (by simp [ephemeristop_TopContradict.j1])
               | succ kj37 =>
                have H := HA.out
                clear HA
                simp only [ephemeristop_TopContradict.j1] at H
                by_cases c60 : x135_37 = true
                ·subst c60
                 have H1 : (some false) = some r := by rw [if_pos rfl] at H; exact H
                 clear H
                 have H := H1
                 clear H1
                 obtain rfl := Option.some.inj H
                 exact absurd hT (by decide)
                ·replace c60 := Bool.eq_false_iff.mpr c60
                 subst c60
                 have H1 : (if 1 ≤ (t500.length : Int) then ((some (t500.drop 1 : List Int)).bind fun y509 => (ephemeristop_TopContradict.l0 kj37 t471 y497 ([] : List (S43)) y509 (y509.length : Int) 0)) else (none)) = some r := by rw [if_neg (show ¬ (false = true) by decide)] at H; exact H
                 clear H
                 have H := H1
                 clear H1
                 by_cases c61 : 1 ≤ (t500.length : Int)
                 ·rw [if_pos c61] at H
                  have c61b0 := eq_true c61
                  have c61b1 : decide (1 ≤ (t500.length : Int)) = true := decide_eq_true c61
                  clear c61
                  obtain ⟨y509, hy509⟩ : ∃ y_ : List Int, y_ = (t500.drop 1) := ⟨_, rfl⟩
                  replace H : (ephemeristop_TopContradict.l0 kj37 t471 y497 ([] : List (S43)) y509 (y509.length : Int) 0) = some r := by first | (rw [hy509]; with_reducible exact H) | (have H2_ := (Option.bind_some _ _).symm.trans H; rw [hy509]; with_reducible exact H2_) | (have H2_ := (Option.bind_some _ _).symm.trans H; with_reducible exact H2_) | with_reducible exact H | (rw [hy509]; exact H) | exact H
                  have Ny509 := Aside0.mk hy509
                  clear hy509
                  have H' := Aside0.mk H
                  clear H
                  obtain ⟨Ao63, co63, eo63⟩ := Kd.R_slice HO_13.out
                  subst eo63
                  have q62 : (1 : Int) ≤ ((t500.length : Int) : Int) := of_decide_eq_true (by first | (with_reducible assumption) | assumption)
                  obtain ⟨i062, hi062, _, hsz62, _⟩ := info_parts info3
                  have hroom62 : t500.length ≤ co63 := (Kd.R_reads' HO_13.out).2.1
                  have hC62 : Kd.C (Kd.int .i64) _ Ao63 t500.length t500 := (Kd.R_reads' HO_13.out).2.2
                  have hcut62 := cut_from (P := Try.prog) 30 3 .i64 Try.underlying30 hi062 1 hsz62 Ao63 t500.length co63 1 (by omega) q62
                  have hr62 := Kd.C_drop (m := (1 : Int).toNat) (c := co63) hC62 (by omega) hroom62
                  obtain ⟨A62, hA62⟩ : ∃ A1, A1 = (if co63 = (1 : Int).toNat then Ao63 else (Ao63 : Option Addr).map (·.add ((1 : Int).toNat * 1))) := ⟨_, rfl⟩
                  obtain ⟨c62, hc62⟩ : ∃ c1, c1 = co63 - (1 : Int).toNat := ⟨_, rfl⟩
                  have hy62 : y509.length = t500.length - (1 : Int).toNat := (by rw [Ny509.out, List.length_drop] <;> omega)
                  rw [show (t500).drop (1 : Int).toNat = y509 from Ny509.out.symm] at hr62
                  replace hr62 : Kd.C (Kd.int .i64) _ A62 y509.length y509 := (by rw [hA62]; exact hr62)
                  rw [← hy62, ← hA62, ← hc62] at hcut62
                  have HR512 := Aside0.mk hr62
                  have HC512 := Aside0.mk (show y509.length ≤ c62 from by rw [hy62, hc62]; exact Nat.sub_le_sub_right hroom62 _)
                  clear hr62 hC62 hroom62 hi062 hsz62 hc62
                  have KY62 := Aside0.mk hy62
                  have KA62 := Aside0.mk hA62
                  clear hy62 hA62
                  have KL62 := Aside0.mk (show 1 ≤ t500.length from by omega)
                  replace q62 := eq_true q62
                  go_wp2
                  go_loopg [17, 139] kj37 (fun kq v17 v139 w' => ∃ (x17_3 : List (S43)) (x139_3 : Int), v139 = .int .i64 x139_3 ∧ Aside0 (ephemeristop_TopContradict.l0 kq t471 y497 x17_3 y509 (y509.length : Int) x139_3 = some r) ∧ Aside0 (kq ≤ kj37) ∧ Aside0 (Kd.R k43 43 w' w.heap.size (fun k_ => some k_ ≠ (v17 : Value).ownBlock) (.slice Ao49 y497.length co49) y497) ∧ Aside0 (Kd.R k43 43 w' w.heap.size (fun k_ => some k_ ≠ ((.slice Ao49 y497.length co49) : Value).ownBlock) v17 x17_3) ∧ Aside0 (Kd.R (Kd.int .i64) 3 w' w.heap.size (fun _ => True) (.slice Ao63 t500.length co63) t500) ∧ Aside0 (Below w.heap.size w w'))
                  case atStart => exact ⟨(([] : List (S43))), (0), (by first | rfl | (simp; done) | (simp [*]; done)), H', ⟨Nat.le_refl _⟩, ⟨by (with_reducible repeat (first | apply Kd.R_alloc | apply Kd.R_drewN | apply Kd.R_drew)); exact Kd.R_mono HO_12.out (fun _ hk => (by simp [Value.ownBlock]))⟩, ⟨by first | exact Kd.R_nil _ _ _ _ _ | exact Kd.N_nil _ _ _ _ _ | exact Kd.V_nil _ _ _ _ _ | exact Kd.Q_nil _ _ _ _ _ | exact Kd.S_nil _ _ _ _ _⟩, ⟨by (with_reducible repeat (first | apply Kd.R_alloc | apply Kd.R_drewN | apply Kd.R_drew)); exact Kd.R_mono HO_13.out (fun _ _ => trivial)⟩, (be_ HB)⟩
                  case round =>
                   clear H'
                   try clear c1
                   try clear c2
                   try clear p2
                   try clear c3
                   try clear c4
                   try clear c5
                   try clear p5
                   try clear q5
                   try clear hx5
                   try clear c6
                   try clear p6
                   try clear q6
                   try clear c20
                   try clear c34
                   try clear c35
                   try clear c48
                   try clear c49
                   try clear p50
                   try clear q50
                   try clear hx50
                   try clear c52
                   try clear c52b0
                   try clear c52b1
                   try clear c53
                   try clear c53b0
                   try clear c53b1
                   try clear c54
                   try clear c54b0
                   try clear c54b1
                   try clear c57
                   try clear c57b0
                   try clear c58
                   try clear c58b0
                   try clear c60
                   try clear c61
                   try clear c61b0
                   try clear c61b1
                   try clear c62
                   try clear q62
                   try clear hx508_0
                   try clear p2
                   try clear p5
                   try clear p50
                   try clear p508
                   try clear p6
                   try clear q5
                   try clear q50
                   try clear q508
                   try clear q62
                   obtain ⟨x17_3, x139_3, rfl, HA, HK3, HO_12, HO_17, HOT63, HB⟩ := hrel
                   cases gk with
                   | zero => exact absurd HA.out (by simp [ephemeristop_TopContradict.l0])
                   | succ k3 =>
                    have H := HA.out
                    clear HA
                    simp only [ephemeristop_TopContradict.l0] at H
                    by_cases c64 : x139_3 < (y509.length : Int)
                    ·rw [if_pos c64] at H
                     have c64b0 : decide (x139_3 < (y509.length : Int)) = true := decide_eq_true c64
                     clear c64
                     by_cases c65 : 0 ≤ x139_3
                     ·rw [if_pos c65] at H
                      have c65b0 : decide (0 ≤ x139_3) = true := decide_eq_true c65
                      clear c65
                      by_cases c66 : x139_3 < (y509.length : Int)
                      ·rw [if_pos c66] at H
                       have c66b0 : decide (x139_3 < (y509.length : Int)) = true := decide_eq_true c66
                       clear c66
                       by_cases c67 : (rd y509 x139_3) < 0
                       ·rw [if_pos c67] at H
                        have c67b0 : decide ((rd y509 x139_3) < 0) = true := decide_eq_true c67
                        clear c67
                        obtain rfl := Option.some.inj H
                        exact absurd hT (by decide)
                       ·rw [if_neg c67] at H
                        have c67b0 : decide ((rd y509 x139_3) < 0) = false := decide_eq_false c67
                        clear c67
                        by_cases c68 : (rd y509 x139_3) ≥ (y497.length : Int)
                        ·rw [if_pos c68] at H
                         have c68b0 : decide ((y497.length : Int) ≤ (rd y509 x139_3)) = true := decide_eq_true c68
                         clear c68
                         obtain rfl := Option.some.inj H
                         exact absurd hT (by decide)
                        ·rw [if_neg c68] at H
                         have c68b0 : decide ((y497.length : Int) ≤ (rd y509 x139_3)) = false := decide_eq_false c68
                         clear c68
                         by_cases c69 : 0 ≤ (rd y509 x139_3)
                         ·rw [if_pos c69] at H
                          have c69b0 : decide (0 ≤ (rd y509 x139_3)) = true := decide_eq_true c69
                          clear c69
                          by_cases c70 : (rd y509 x139_3) < (y497.length : Int)
                          ·rw [if_pos c70] at H
                           have c70b0 : decide ((rd y509 x139_3) < (y497.length : Int)) = true := decide_eq_true c70
                           clear c70
                           obtain ⟨y515, hy515⟩ : ∃ y_ : List (S43), y_ = (([(⟨(rd_T43 y497 (rd y509 x139_3)).f0, (rd_T43 y497 (rd y509 x139_3)).f1, (rd_T43 y497 (rd y509 x139_3)).f2, (rd_T43 y497 (rd y509 x139_3)).f3⟩ : S43)] : List (S43))) := ⟨_, rfl⟩
                           replace H : (if x17_3.length + y515.length < 4398046511104 then (ephemeristop_TopContradict.l0 k3 t471 y497 (x17_3 ++ y515) y509 (y509.length : Int) (wrap64 (x139_3 + 1))) else (none)) = some r := by first | (rw [hy515]; with_reducible exact H) | (have H2_ := (Option.bind_some _ _).symm.trans H; rw [hy515]; with_reducible exact H2_) | (have H2_ := (Option.bind_some _ _).symm.trans H; with_reducible exact H2_) | with_reducible exact H | (rw [hy515]; exact H) | exact H
                           have Ny515 := Aside0.mk hy515
                           clear hy515
                           by_cases c71 : x17_3.length + y515.length < 4398046511104
                           ·rw [if_pos c71] at H
                            have LMc71 := Aside0.mk c71
                            clear c71
                            obtain ⟨y518, hy518⟩ : ∃ y_ : List (S43), y_ = (x17_3 ++ y515) := ⟨_, rfl⟩
                            replace H : (ephemeristop_TopContradict.l0 k3 t471 y497 y518 y509 (y509.length : Int) (wrap64 (x139_3 + 1))) = some r := by first | (rw [hy518]; with_reducible exact H) | (have H2_ := (Option.bind_some _ _).symm.trans H; rw [hy518]; with_reducible exact H2_) | (have H2_ := (Option.bind_some _ _).symm.trans H; with_reducible exact H2_) | with_reducible exact H | (rw [hy518]; exact H) | exact H
                            have Ny518 := Aside0.mk hy518
                            clear hy518
                            have H' := Aside0.mk H
                            clear H
                            have p513 : 0 ≤ (x139_3 : Int) := of_decide_eq_true (by first | (with_reducible assumption) | assumption)
                            have q513 : x139_3 < (y509.length : Int) := of_decide_eq_true (by first | (with_reducible assumption) | assumption)
                            have hC62b : Kd.C (Kd.int .i64) _ Ao63 t500.length t500 := (Kd.R_reads' HOT63.out).2.2
                            have hr62b := Kd.C_drop (m := (1 : Int).toNat) (c := co63) hC62b (by have := KL62.out; omega) (Kd.R_reads' HOT63.out).2.1
                            rw [show (t500).drop (1 : Int).toNat = y509 from Ny509.out.symm] at hr62b
                            replace hr62b : Kd.C (Kd.int .i64) _ A62 y509.length y509 := (by rw [KA62.out]; exact hr62b)
                            obtain ⟨ad513, e513, hx513_0⟩ := Kd.at_int hr62b x139_3 p513 q513
                            cases e513
                            skip
                            replace p513 := eq_true p513
                            replace q513 := eq_true q513
                            have p514 : 0 ≤ ((rd y509 x139_3) : Int) := of_decide_eq_true (by first | (with_reducible assumption) | assumption)
                            have q514 : (rd y509 x139_3) < (y497.length : Int) := of_decide_eq_true (by first | (with_reducible assumption) | assumption)
                            obtain ⟨ad514, e514, hx514_0, hx514_1, hx514_2, hx514_3⟩ := at_T43 (Kd.R_reads' HO_12.out).2.2 (rd y509 x139_3) p514 q514
                            cases e514
                            replace p514 := eq_true p514
                            replace q514 := eq_true q514
                            go_wp2_with (first | ((with_reducible refine gate_dst (N := 156) rfl ?_); (try (refine gate_guard (by rfl) ?_; dsimp only)); refine Kd.R_lit k43 _ 43 ?hg (N := 156) ?hd (xs := ([(⟨(rd_T43 y497 (rd y509 x139_3)).f0, (rd_T43 y497 (rd y509 x139_3)).f1, (rd_T43 y497 (rd y509 x139_3)).f2, (rd_T43 y497 (rd y509 x139_3)).f3⟩ : S43)] : List (S43))) (inner := [.int .i64 ((rd_T43 y497 (rd y509 x139_3)).f0), .int .i64 ((rd_T43 y497 (rd y509 x139_3)).f1), .int .i64 ((rd_T43 y497 (rd y509 x139_3)).f2), .int .i64 ((rd_T43 y497 (rd y509 x139_3)).f3)]) (ok := fun _ => True) (okp := fun _ => True) ?hr ?hp (fun _ hk => hk) trivial (Below.refl _ _) (Nat.le_refl _) (by simp) ?_; (case hd => rfl); (case hg => rfl); (case hr => first | (go_simp; done) | (go_simp; rfl)); (case hp => exact (Reps.c4 (show Kd.M k43 _ _ _ (⟨(rd_T43 y497 (rd y509 x139_3)).f0, (rd_T43 y497 (rd y509 x139_3)).f1, (rd_T43 y497 (rd y509 x139_3)).f2, (rd_T43 y497 (rd y509 x139_3)).f3⟩ : S43) [.int .i64 ((rd_T43 y497 (rd y509 x139_3)).f0), .int .i64 ((rd_T43 y497 (rd y509 x139_3)).f1), .int .i64 ((rd_T43 y497 (rd y509 x139_3)).f2), .int .i64 ((rd_T43 y497 (rd y509 x139_3)).f3)] from (k43_mkM _ _ _ (⟨(rd_T43 y497 (rd y509 x139_3)).f0, (rd_T43 y497 (rd y509 x139_3)).f1, (rd_T43 y497 (rd y509 x139_3)).f2, (rd_T43 y497 (rd y509 x139_3)).f3⟩ : S43) )) (Reps.none _ _))); intro v516 w72 ho73 hb hg_ hnew_; clear hg_ hnew_; (first | rw [← Ny515.out] at ho73 | (simp only [Int.reduceToNat] at ho73; rw [← Ny515.out] at ho73)); have n0_ := Aside0.mk (Kd.R_elder' (by (with_reducible repeat (first | apply Kd.R_alloc | apply Kd.R_drewN | apply Kd.R_drew)); exact HO_12.out) (Kd.R_base ho73) hb); have n1_ := Aside0.mk (Kd.R_elder' (by (with_reducible repeat (first | apply Kd.R_alloc | apply Kd.R_drewN | apply Kd.R_drew)); exact HO_17.out) (Kd.R_base ho73) hb); have n2_ := Aside0.mk (Kd.R_lower (Kd.R_new' (Kd.R_new' ho73 (Kd.R_lt (by (with_reducible repeat (first | apply Kd.R_alloc | apply Kd.R_drewN | apply Kd.R_drew)); exact HO_12.out))) (Kd.R_lt (by (with_reducible repeat (first | apply Kd.R_alloc | apply Kd.R_drewN | apply Kd.R_drew)); exact HO_17.out))) (below_size (be_ HB).out)); have n3_ := bs_ HB hb; have nT_ := Aside0.mk (Kd.R_below (by (with_reducible repeat (first | apply Kd.R_alloc | apply Kd.R_drewN | apply Kd.R_drew)); exact HOT63.out) hb); clear HOT63; have HOT63 := nT_; clear nT_; clear HO_12; clear HO_17; clear HB; have HO_12 := n0_; have HO_17 := n1_; have HO517 := n2_; have HB := n3_; clear n0_ n1_ n2_ n3_; clear hb ho73; obtain ⟨Ao75, co75, eo75⟩ := Kd.R_slice HO517.out; subst eo75) | ((with_reducible refine gate_builtin (b := .append) (xs := #[.tmp 151, .tmp 156]) rfl ?_); (try (refine gate_guard (by rfl) ?_; dsimp only)); at_builtin; refine Kd.R_append_rows k43 (w0 := w) w.heap.size rfl (.tmp 151) (.tmp 156) 22 43 (.agg #[(.int .i64 0), (.int .i64 0), (.int .i64 0), (.int .i64 0)]) 32 rfl Try.underlying22 info43 rfl (by decide) (by omega) u17 x17_3 y515 _ _ _ (fun k_ => some k_ ≠ (.slice (some ad514) y497.length co49 : Value).ownBlock ∧ some k_ ≠ (.slice Ao75 y515.length co75 : Value).ownBlock) (fun _ => False) rfl rfl ?aO ?aR (fun _ _ h => h) (fun _ h => h.elim) ?aF ?aB ?aS ?aL ?_; (case aR => repeat (first | exact (Kd.R_reads' HO517.out).2.2 | (with_reducible refine Kd.C_alloc ?_ _) | (with_reducible refine Kd.C_drewN ?_ _) | (with_reducible refine Kd.C_drew ?_))); (case aB => exact (be_ HB).out); (case aF => exact (fun k_ hk => ⟨Kd.fresh' (Kd.R_lt (by (with_reducible repeat (first | apply Kd.R_alloc | apply Kd.R_drewN | apply Kd.R_drew)); exact HO_12.out)) k_ hk, Kd.fresh' (Kd.R_lt (by (with_reducible repeat (first | apply Kd.R_alloc | apply Kd.R_drewN | apply Kd.R_drew)); exact HO517.out)) k_ hk⟩)); (case aO => exact (by (with_reducible repeat (first | apply Kd.R_alloc | apply Kd.R_drewN | apply Kd.R_drew)); exact HO_17.out)); (case aS => exact (below_size (be_ HB).out)); (case aL => have := LMc71.out; omega); intro v519 w74 ho hb hg hat; rw [← Ny518.out] at ho; have n0_ := Aside0.mk (Kd.R_after (ok := (fun k_ => some k_ ≠ (.slice Ao75 y515.length co75 : Value).ownBlock)) (by (with_reducible repeat (first | apply Kd.R_alloc | apply Kd.R_drewN | apply Kd.R_drew)); exact Kd.R_mono HO_12.out (fun _ hk => ⟨hk.2, hk.1⟩)) hg hat); have n1_ := Aside0.mk (Kd.R_after (ok := (fun k_ => some k_ ≠ (.slice (some ad514) y497.length co49 : Value).ownBlock)) (by (with_reducible repeat (first | apply Kd.R_alloc | apply Kd.R_drewN | apply Kd.R_drew)); exact Kd.R_mono HO517.out (fun _ hk => ⟨hk.1.2, hk.2⟩)) hg hat); have n2_ := Aside0.mk (hb); have n3_ := Aside0.mk (ho); have nT_ := Aside0.mk (Kd.R_over' (by (with_reducible repeat (first | apply Kd.R_alloc | apply Kd.R_drewN | apply Kd.R_drew)); exact HOT63.out) (Kd.R_typed (by (with_reducible repeat (first | apply Kd.R_alloc | apply Kd.R_drewN | apply Kd.R_drew)); exact HO_17.out)) (by decide) hg); clear HOT63; have HOT63 := nT_; clear nT_; clear HO_12; clear HO517; clear HB; clear HO_17; have HO_12 := n0_; have HO517 := n1_; have HB := n2_; have HO520 := n3_; clear n0_ n1_ n2_ n3_; clear ho hb hg hat))
                            go_roundg k3
                            case measure => have := HJ14.out; have := HJ37.out; have := HK3.out; omega
                            case rel => exact ⟨(y518), (wrap64 (x139_3 + 1)), (by first | rfl | (simp; done) | (simp [*]; done)), H', ⟨by have := HJ14.out; have := HJ37.out; have := HK3.out; omega⟩, ⟨by (with_reducible repeat (first | apply Kd.R_alloc | apply Kd.R_drewN | apply Kd.R_drew)); exact Kd.R_mono HO_12.out (fun _ hk => hk.2)⟩, ⟨by (with_reducible repeat (first | apply Kd.R_alloc | apply Kd.R_drewN | apply Kd.R_drew)); exact Kd.R_mono HO520.out (fun _ hk => hk.1)⟩, ⟨by (with_reducible repeat (first | apply Kd.R_alloc | apply Kd.R_drewN | apply Kd.R_drew)); exact HOT63.out⟩, (be_ HB)⟩
                           ·rw [if_neg c71] at H
                            exact absurd H (by simp)
                          ·rw [if_neg c70] at H
                           exact absurd H (by simp)
                         ·rw [if_neg c69] at H
                          exact absurd H (by simp)
                      ·rw [if_neg c66] at H
                       exact absurd H (by simp)
                     ·rw [if_neg c65] at H
                      exact absurd H (by simp)
                    ·rw [if_neg c64] at H
                     have c64b0 : decide (x139_3 < (y509.length : Int)) = false := decide_eq_false c64
                     clear c64
                     replace H := Option.bind_eq_some_iff.mp H
                     obtain ⟨⟨t521, t522⟩, A760, H⟩ := H
                     replace H : (some (t522 == 0)) = some r := H
                     have A76 := Aside0.mk A760
                     clear A760
                     obtain rfl := Option.some.inj H
                     simp only [Option.some.injEq, Prod.mk.injEq] at H
                     obtain ⟨rfl⟩ := H
                     obtain ⟨Ao77, co77, eo77⟩ := Kd.R_slice HO_17.out
                     subst eo77
                     go_wp2_with (first | ((with_reducible refine gate_callee (f := 11) rfl ?_); refine goesL_ (some 162) rfl rfl Try.func11 (by kernel_rfl) rfl #[.int .i64 t471, .slice Ao77 x17_3.length co77] rfl (by (try simp only [List.map_toArray, List.map_cons, List.map_nil]); first | done | rfl | (simp only [List.length_drop, List.length_take]; rfl)) ?_; (with_reducible refine (chron_Tightest.calls k3 t471 _ _ x17_3 t521 t522 _ ?side1 ?side2 A76.out).mono ?_); (case side1 => repeat (first | exact (Kd.R_reads' HO_17.out).2.2 | (with_reducible refine Kd.C_alloc ?_ _) | (with_reducible refine Kd.C_drewN ?_ _) | (with_reducible refine Kd.C_drew ?_))); (case side2 => exact (Kd.R_reads' HO_17.out).2.1); rintro e w78 ⟨v523, rfl, ho0, hb⟩; refine ⟨_, rfl, ?_⟩; have n0_ := Aside0.mk (Kd.R_below (by (with_reducible repeat (first | apply Kd.R_alloc | apply Kd.R_drewN | apply Kd.R_drew)); exact HO_12.out) hb); have n1_ := Aside0.mk (Kd.R_below (by (with_reducible repeat (first | apply Kd.R_alloc | apply Kd.R_drewN | apply Kd.R_drew)); exact HO_17.out) hb); have n2_ := Aside0.mk (Kd.S_lower ho0 (below_size (be_ HB).out)); have n3_ := bs_ HB hb; clear HO_12; clear HO_17; clear HB; have HO_12 := n0_; have HO_17 := n1_; have HO524 := n2_; have HB := n3_; clear n0_ n1_ n2_ n3_; (try clear hb); (try clear hb2); (try clear hk); (try clear hi); (try clear ho0)))
                     go_ret
                     exact ⟨by first | rfl | (simp [errW_none, errW_some] <;> rfl) | (simp only [← hji29]; first | rfl | (simp [errW_none, errW_some] <;> rfl)) | (simp [*, errW_none, errW_some] <;> rfl), (be_ HB).out⟩
                 ·rw [if_neg c61] at H
                  exact absurd H (by simp)
             ·rw [if_neg c35] at H
              exact absurd H (by simp)
            ·rw [if_neg c34] at H
             exact absurd H (by simp)
          ·rw [if_neg c31] at H
           exact absurd H (by simp)
         ·rw [if_neg c30] at H
          exact absurd H (by simp)
        ·rw [if_neg c28] at H
         exact absurd H (by simp)
       ·rw [if_neg c27] at H
        exact absurd H (by simp)
 ·replace c6 := Bool.eq_false_iff.mpr c6
  subst c6
  have H1 : (some false) = some r := by rw [if_neg (show ¬ (false = true) by decide)] at H; exact H
  clear H
  have H := H1
  clear H1
  obtain rfl := Option.some.inj H
  exact absurd hT (by decide)
end Go.Proofs.Ytfbjpdiaicaagaa.PAll
