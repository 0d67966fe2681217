/- Written by a program of this session out of the translation. -/
import Derived.Test.YtmahlfjnejbcnaaEclipseFindsn18
namespace Go.Proofs.Ytmahlfjnejbcnaa.PAll
open Go.RowKit YtmahlfjnejbcnaaW.PrintWords YtmahlfjnejbcnaaW.PrintLast YtmahlfjnejbcnaaW.PrintMore More2 Sq
attribute [local go_sem] max2_int min2_int max_two min_two max_three min_three max_four min_four tdiv2e18_ tdiv1e18_ cellSS_  -- for this text's walks alone
set_option linter.unusedVariables false
set_option linter.unusedSimpArgs false
attribute [local go_sem high] eqA24 eqA37
mutual
def ephemerislaw2_EclipseFinds.j0 : Nat → Int → Int → Int → Int → Bool → Int → Int → Int → Int → Int → Int → Int → Option (Bool)
 | 0, _, _, _, _, _, _, _, _, _, _, _, _ => none
 | k + 1, x0, x1, x2, x8, x32, x490000, x490001, x490002, x490003, x490004, x490005, x490006 => if x32 = true then (if x8 = 1 then (some (x490000 == 0 && ((x490001 == 0 && (x490002 == 0)) && ((x490003 == 0 && (x490004 == 0)) && ((x490005 == 0 && (x490006 == 0))))))) else (some false)) else ((phase_Find.f k x0 x1).bind fun bt490 => (if bt490.2.2 = 0 then (if x1 = 2 then (ephemerislaw2_EclipseFinds.j1 k x2 x8 1300000 2700000 x490000 x490001 x490002 x490003 x490004 x490005 x490006 bt490.1 bt490.2.1) else (ephemerislaw2_EclipseFinds.j1 k x2 x8 2500000 4100000 x490000 x490001 x490002 x490003 x490004 x490005 x490006 bt490.1 bt490.2.1)) else (if x8 = bt490.2.2 then (some (x490000 == 0 && ((x490001 == 0 && (x490002 == 0)) && ((x490003 == 0 && (x490004 == 0)) && ((x490005 == 0 && (x490006 == 0))))))) else (some false))))
def ephemerislaw2_EclipseFinds.j1 : Nat → Int → Int → Int → Int → Int → Int → Int → Int → Int → Int → Int → Int → Int → Option (Bool)
 | 0, _, _, _, _, _, _, _, _, _, _, _, _, _ => none
 | k + 1, x2, x8, x11, x12, x490000, x490001, x490002, x490003, x490004, x490005, x490006, x494000, x494001 => (ephemerislaw2_at.f x2 (wrap64 ((wrap64 (x494001 - x494000)) + 1))).bind fun t494 => ((ephemerislaw2_at.f x2 17).bind fun t495 => ((ephemerisref2_MoonLat.f k (wrap64 (x494000 + t494)) (wrap64 (t495 - 8))).bind fun t496 => (if x8 = 0 then (if (mx t496 (wrap64 (-t496))) < (wrap64 (x12 * 1048576)) then (ephemerislaw2_EclipseFinds.j2 k x11 x12 t496 (mx t496 (wrap64 (-t496))) 1 x490000 x490001 x490002 x490003 x490004 x490005 x490006 x494000 x494001) else (ephemerislaw2_EclipseFinds.j2 k x11 x12 t496 (mx t496 (wrap64 (-t496))) 0 x490000 x490001 x490002 x490003 x490004 x490005 x490006 x494000 x494001)) else (if x8 = 11 then (if (x490000 == 0 && ((x490001 == 0 && (x490002 == 0)) && ((x490003 == 0 && (x490004 == 0)) && ((x490005 == 0 && (x490006 == 0)))))) = true then (if (mx (wrap64 ((mx t496 (wrap64 (-t496))) - (wrap64 (x11 * 1048576)))) (wrap64 (-(wrap64 ((mx t496 (wrap64 (-t496))) - (wrap64 (x11 * 1048576))))))) < 104857600000 then (some true) else (some (decide ((mx (wrap64 ((mx t496 (wrap64 (-t496))) - (wrap64 (x12 * 1048576)))) (wrap64 (-(wrap64 ((mx t496 (wrap64 (-t496))) - (wrap64 (x12 * 1048576))))))) < 104857600000)))) else (some false)) else (some false)))))
def ephemerislaw2_EclipseFinds.j2 : Nat → Int → Int → Int → Int → Int → Int → Int → Int → Int → Int → Int → Int → Int → Int → Option (Bool)
 | 0, _, _, _, _, _, _, _, _, _, _, _, _, _, _ => none
 | k + 1, x11, x12, x13, x14, x17, x490000, x490001, x490002, x490003, x490004, x490005, x490006, x494000, x494001 => if x14 < (wrap64 (x11 * 1048576)) then (ephemerislaw2_EclipseFinds.j3 k x12 x13 x14 2 x490000 x490001 x490002 x490003 x490004 x490005 x490006 x494000 x494001) else (ephemerislaw2_EclipseFinds.j3 k x12 x13 x14 x17 x490000 x490001 x490002 x490003 x490004 x490005 x490006 x494000 x494001)
def ephemerislaw2_EclipseFinds.j3 : Nat → Int → Int → Int → Int → Int → Int → Int → Int → Int → Int → Int → Int → Int → Option (Bool)
 | 0, _, _, _, _, _, _, _, _, _, _, _, _, _ => none
 | k + 1, x12, x13, x14, x17, x490000, x490001, x490002, x490003, x490004, x490005, x490006, x494000, x494001 => if (!(x490001 == x494000) || (!(x490002 == x494001))) = true then (ephemerislaw2_EclipseFinds.j4 k x12 x14 x17 true x490000 x490001 x490002 x490003 x490004 x490005 x490006) else (if x490000 = x17 then ((ephemerisref2_Contains.f x490003 x490004 x13 0).bind fun t497 => (if t497 = true then (ephemerislaw2_EclipseFinds.j4 k x12 x14 x17 (decide ((wrap64 (x490004 - x490003)) > 91000)) x490000 x490001 x490002 x490003 x490004 x490005 x490006) else (ephemerislaw2_EclipseFinds.j4 k x12 x14 x17 true x490000 x490001 x490002 x490003 x490004 x490005 x490006))) else (ephemerislaw2_EclipseFinds.j4 k x12 x14 x17 true x490000 x490001 x490002 x490003 x490004 x490005 x490006))
def ephemerislaw2_EclipseFinds.j4 : Nat → Int → Int → Int → Bool → Int → Int → Int → Int → Int → Int → Int → Option (Bool)
 | 0, _, _, _, _, _, _, _, _, _, _, _ => none
 | k + 1, x12, x14, x17, x142, x490000, x490001, x490002, x490003, x490004, x490005, x490006 => if x142 = true then (some false) else (if x17 = 0 then (some (x490005 == 0 && (x490006 == 0))) else (if x12 = 0 then (none) else (if (wrap64 (x490005 * 1048576)) ≤ (wrap64 ((wrap64 ((wrap64 (Int.tdiv (wrap64 ((wrap64 (x12 * 1048576)) - x14)) x12)) * 1000)) + 4096)) then (if (wrap64 ((wrap64 (Int.tdiv (wrap64 ((wrap64 (x12 * 1048576)) - x14)) x12)) * 1000)) ≤ (wrap64 ((wrap64 (x490006 * 1048576)) + 4096)) then (some (decide ((wrap64 (x490006 - x490005)) ≤ 80))) else (some false)) else (some false))))
end
def ephemerislaw2_EclipseFinds.f (k : Nat) (a0 : Int) (a1 : Int) (a2 : Int) : Option (Bool) := (ephemerislaw2_eclipseWorks.f k).bind fun t480 => (if t480 = true then ((eclipse_Find.f k a0 a1).bind fun bt481 => (if a1 = 0 then (ephemerislaw2_EclipseFinds.j0 k a0 a1 a2 bt481.2.2.2.2.2.2.2 false bt481.1 bt481.2.1 bt481.2.2.1 bt481.2.2.2.1 bt481.2.2.2.2.1 bt481.2.2.2.2.2.1 bt481.2.2.2.2.2.2.1) else (ephemerislaw2_EclipseFinds.j0 k a0 a1 a2 bt481.2.2.2.2.2.2.2 (a1 != 2) bt481.1 bt481.2.1 bt481.2.2.1 bt481.2.2.2.1 bt481.2.2.2.2.1 bt481.2.2.2.2.2.1 bt481.2.2.2.2.2.2.1))) else (some false))
def ephemerislaw2_EclipseFinds.T12 : Bool × List (List Nat × List Nat) := (true, [([], []), ([0], [0]), ([], []), ([], []), ([3], [3]), ([], []), ([5], [5]), ([4, 6], [4, 6]), ([7], [7]), ([2, 8], [2, 8]), ([1, 9], [1, 9]), ([], []), ([11, 9], [11]), ([12], [12]), ([10, 13, 12], [10, 13]), ([14, 14, 0, 1, 2, 3, 4, 5, 6, 7, 8, 9, 10, 11, 12, 13, 14], [14])])
def ephemerislaw2_EclipseFinds.B12 : List Nat := [0, 1, 0, 0, 8, 0, 32, 120, 248, 508, 1023, 0, 3068, 7164, 16383, 32767]
theorem ephemerislaw2_EclipseFinds.tab12 : rtab .any (opsOf Try.f6 12) = ephemerislaw2_EclipseFinds.T12 := by kernel_rfl
theorem ephemerislaw2_EclipseFinds.bits12 : waitsOk ephemerislaw2_EclipseFinds.T12.2 ephemerislaw2_EclipseFinds.B12 = true := by kernel_rfl
set_option maxHeartbeats 8000000 in
set_option maxRecDepth 100000 in
theorem ephemerislaw2_EclipseFinds.calls (k : Nat) (a0 : Int) (a1 : Int) (a2 : Int) (r : Bool) (w : World) (h : ephemerislaw2_EclipseFinds.f k a0 a1 a2 = some r) (hT : r = true) :
  Calls Try.prog 6 #[.int .i64 a0, .int .i64 a1, .int .i64 a2] w fun e w' => e = .returned (.bool r) ∧ Below w.heap.size w w' := by
 have hu37 := Try.underlying37
 have hu24 := Try.underlying24
 have HB := Aside0.mk (Below.refl w.heap.size w)
 have H : ((ephemerislaw2_eclipseWorks.f k).bind fun t480 => (if t480 = true then ((eclipse_Find.f k a0 a1).bind fun bt481 => (if a1 = 0 then (ephemerislaw2_EclipseFinds.j0 k a0 a1 a2 bt481.2.2.2.2.2.2.2 false bt481.1 bt481.2.1 bt481.2.2.1 bt481.2.2.2.1 bt481.2.2.2.2.1 bt481.2.2.2.2.2.1 bt481.2.2.2.2.2.2.1) else (ephemerislaw2_EclipseFinds.j0 k a0 a1 a2 bt481.2.2.2.2.2.2.2 (a1 != 2) bt481.1 bt481.2.1 bt481.2.2.1 bt481.2.2.2.1 bt481.2.2.2.2.1 bt481.2.2.2.2.2.1 bt481.2.2.2.2.2.2.1))) else (some false))) = some r := h
 clear h
 replace H := Option.bind_eq_some_iff.mp H
 obtain ⟨t480, A40, H⟩ := H
 replace H : (if t480 = true then ((eclipse_Find.f k a0 a1).bind fun bt481 => (if a1 = 0 then (ephemerislaw2_EclipseFinds.j0 k a0 a1 a2 bt481.2.2.2.2.2.2.2 false bt481.1 bt481.2.1 bt481.2.2.1 bt481.2.2.2.1 bt481.2.2.2.2.1 bt481.2.2.2.2.2.1 bt481.2.2.2.2.2.2.1) else (ephemerislaw2_EclipseFinds.j0 k a0 a1 a2 bt481.2.2.2.2.2.2.2 (a1 != 2) bt481.1 bt481.2.1 bt481.2.2.1 bt481.2.2.2.1 bt481.2.2.2.2.1 bt481.2.2.2.2.2.1 bt481.2.2.2.2.2.2.1))) else (some false)) = some r := H
 have A4 := Aside0.mk A40
 clear A40
 by_cases c5 : t480 = true
 ·subst c5
  have H1 : ((eclipse_Find.f k a0 a1).bind fun bt481 => (if a1 = 0 then (ephemerislaw2_EclipseFinds.j0 k a0 a1 a2 bt481.2.2.2.2.2.2.2 false bt481.1 bt481.2.1 bt481.2.2.1 bt481.2.2.2.1 bt481.2.2.2.2.1 bt481.2.2.2.2.2.1 bt481.2.2.2.2.2.2.1) else (ephemerislaw2_EclipseFinds.j0 k a0 a1 a2 bt481.2.2.2.2.2.2.2 (a1 != 2) bt481.1 bt481.2.1 bt481.2.2.1 bt481.2.2.2.1 bt481.2.2.2.2.1 bt481.2.2.2.2.2.1 bt481.2.2.2.2.2.2.1))) = some r := by rw [if_pos rfl] at H; exact H
  clear H
  have H := H1
  clear H1
  replace H := Option.bind_eq_some_iff.mp H
  obtain ⟨⟨t481, t482, t483, t484, t485, t486, t487, t488⟩, A60, H⟩ := H
  replace H : (if a1 = 0 then (ephemerislaw2_EclipseFinds.j0 k a0 a1 a2 t488 false t481 t482 t483 t484 t485 t486 t487) else (ephemerislaw2_EclipseFinds.j0 k a0 a1 a2 t488 (a1 != 2) t481 t482 t483 t484 t485 t486 t487)) = some r := H
  have A6 := Aside0.mk A60
  clear A60
  have HC7 := Aside0.mk H
  clear H
  go_enter Try.func6, Try.ntmps6
  go_upto_region 4 with (first | ((with_reducible refine gate_callee (f := 21) rfl ?_); refine goesL_ (some 19) rfl rfl Try.func21 (by kernel_rfl) rfl #[] rfl (by (try simp only [List.map_toArray, List.map_cons, List.map_nil]); first | done | rfl | (simp only [List.length_drop, List.length_take]; rfl)) ?_; (with_reducible refine (ephemerislaw2_eclipseWorks.calls k  true _ A4.out rfl).mono ?_); rintro e w8 ⟨rfl, hb⟩; refine ⟨_, rfl, ?_⟩; replace HB := bs_ HB hb; (try clear hb); (try clear hb2); (try clear hk); (try clear hi)) | ((with_reducible refine gate_callee (f := 22) rfl ?_); refine goesL_ (some 24) rfl rfl Try.func22 (by kernel_rfl) rfl #[.int .i64 a0, .int .i64 a1] rfl (by (try simp only [List.map_toArray, List.map_cons, List.map_nil]); first | done | rfl | (simp only [List.length_drop, List.length_take]; rfl)) ?_; (with_reducible refine (eclipse_Find.calls k a0 a1 t481 t482 t483 t484 t485 t486 t487 t488 _ A6.out).mono ?_); rintro e w9 ⟨rfl, hb⟩; refine ⟨_, rfl, ?_⟩; replace HB := bs_ HB hb; (try clear hb); (try clear hb2); (try clear hk); (try clear hi)) | ((with_reducible refine gate_dst (N := 7) rfl ?_); (try (refine gate_guard (by rfl) ?_; dsimp only)); refine box_event ?hg (N := 7) ?hd (cs := #[.int .i64 0, .int .i64 0, .int .i64 0, .int .i64 0, .int .i64 0, .int .i64 0, .int .i64 0]) (t := 37) ?hr ?_; (case hd => rfl); (case hg => rfl); (case hr => first | (go_simp; done) | (go_simp; rfl)); intro gb489 hg w10 hbox hb; have BK489 := Aside0.mk (hbox); have GW489 := ge_ hg HB; have GE489 := ge_ hg HB; replace HB := bs_ HB hb; clear hb hbox hg; have hcz11_0 : w10.cell? ⟨gb489, 0, none⟩ = some (.int .i64 0) := (blk_cell BK489.out 0).trans rfl; have hcz11_1 : w10.cell? ⟨gb489, 1, none⟩ = some (.int .i64 0) := (blk_cell BK489.out 1).trans rfl; have hcz11_2 : w10.cell? ⟨gb489, 2, none⟩ = some (.int .i64 0) := (blk_cell BK489.out 2).trans rfl; have hcz11_3 : w10.cell? ⟨gb489, 3, none⟩ = some (.int .i64 0) := (blk_cell BK489.out 3).trans rfl; have hcz11_4 : w10.cell? ⟨gb489, 4, none⟩ = some (.int .i64 0) := (blk_cell BK489.out 4).trans rfl; have hcz11_5 : w10.cell? ⟨gb489, 5, none⟩ = some (.int .i64 0) := (blk_cell BK489.out 5).trans rfl; have hcz11_6 : w10.cell? ⟨gb489, 6, none⟩ = some (.int .i64 0) := (blk_cell BK489.out 6).trans rfl; have hfz11_0 := blk_frozen BK489.out 0; have hfz11_1 := blk_frozen BK489.out 1; have hfz11_2 := blk_frozen BK489.out 2; have hfz11_3 := blk_frozen BK489.out 3; have hfz11_4 := blk_frozen BK489.out 4; have hfz11_5 := blk_frozen BK489.out 5; have hfz11_6 := blk_frozen BK489.out 6))
  (try simp only [Act.put, List.setIfInBounds_toArray, List.set_cons_zero, List.set_cons_succ])
  go_cut [32] (fun v32 wc => ∃ (kq : Nat) (x32_6 : Bool), v32 = .bool x32_6 ∧ Aside0 (ephemerislaw2_EclipseFinds.j0 kq a0 a1 a2 t488 x32_6 t481 t482 t483 t484 t485 t486 t487 = some r) ∧ Aside0 (kq ≤ k) ∧ Aside0 (wc.heap[gb489]? = some (.cells #[.int .i64 t481, .int .i64 t482, .int .i64 t483, .int .i64 t484, .int .i64 t485, .int .i64 t486, .int .i64 t487] 37 (0, 0))) ∧ Aside0 (Below w.heap.size w wc))
  case first =>
   have H := HC7.out
   clear HC7
   by_cases c12 : a1 = 0
   ·rw [if_pos c12] at H
    have c12b0 : (a1 == 0) = true := beq_iff_eq.mpr c12
    have c12b1 : (a1 != 0) = false := bne_eq_false_iff_eq.mpr c12
    clear c12
    (first | rw [c12b0] | (simp only [i64_w, i32_w]; rw [c12b0]) | skip)
    have H' := Aside0.mk H
    clear H
    go_wp2
    go_meet
    case rel => exact ⟨_, (false), (by first | rfl | (simp; done) | (simp [*]; done)), H', ⟨by first | omega | exact Nat.le_refl _⟩, ⟨by (with_reducible repeat (first | refine blk_drewN ?_ _ | refine blk_drew ?_ | refine blk_alloc ?_ _)); refine blk_put (cs := #[.int .i64 t481, .int .i64 t482, .int .i64 t483, .int .i64 t484, .int .i64 t485, .int .i64 t486, .int .i64 0]) ?_ 6 _ rfl; (with_reducible repeat (first | refine blk_drewN ?_ _ | refine blk_drew ?_ | refine blk_alloc ?_ _)); refine blk_put (cs := #[.int .i64 t481, .int .i64 t482, .int .i64 t483, .int .i64 t484, .int .i64 t485, .int .i64 0, .int .i64 0]) ?_ 5 _ rfl; (with_reducible repeat (first | refine blk_drewN ?_ _ | refine blk_drew ?_ | refine blk_alloc ?_ _)); refine blk_put (cs := #[.int .i64 t481, .int .i64 t482, .int .i64 t483, .int .i64 t484, .int .i64 0, .int .i64 0, .int .i64 0]) ?_ 4 _ rfl; (with_reducible repeat (first | refine blk_drewN ?_ _ | refine blk_drew ?_ | refine blk_alloc ?_ _)); refine blk_put (cs := #[.int .i64 t481, .int .i64 t482, .int .i64 t483, .int .i64 0, .int .i64 0, .int .i64 0, .int .i64 0]) ?_ 3 _ rfl; (with_reducible repeat (first | refine blk_drewN ?_ _ | refine blk_drew ?_ | refine blk_alloc ?_ _)); refine blk_put (cs := #[.int .i64 t481, .int .i64 t482, .int .i64 0, .int .i64 0, .int .i64 0, .int .i64 0, .int .i64 0]) ?_ 2 _ rfl; (with_reducible repeat (first | refine blk_drewN ?_ _ | refine blk_drew ?_ | refine blk_alloc ?_ _)); refine blk_put (cs := #[.int .i64 t481, .int .i64 0, .int .i64 0, .int .i64 0, .int .i64 0, .int .i64 0, .int .i64 0]) ?_ 1 _ rfl; (with_reducible repeat (first | refine blk_drewN ?_ _ | refine blk_drew ?_ | refine blk_alloc ?_ _)); refine blk_put (cs := #[.int .i64 0, .int .i64 0, .int .i64 0, .int .i64 0, .int .i64 0, .int .i64 0, .int .i64 0]) ?_ 0 _ rfl; (with_reducible repeat (first | refine blk_drewN ?_ _ | refine blk_drew ?_ | refine blk_alloc ?_ _)); exact BK489.out⟩, (be_ HB)⟩
   ·rw [if_neg c12] at H
    have c12b0 : (a1 == 0) = false := beq_eq_false_iff_ne.mpr c12
    have c12b1 : (a1 != 0) = true := bne_iff_ne.mpr c12
    (first | rw [c12b0] | (simp only [i64_w, i32_w]; rw [c12b0]) | skip)
    have H' := Aside0.mk H
    clear H
    go_wp2
    go_meet
    case rel => exact ⟨_, ((a1 != 2)), (by first | rfl | (simp; done) | (simp [*]; done)), H', ⟨by first | omega | exact Nat.le_refl _⟩, ⟨by (with_reducible repeat (first | refine blk_drewN ?_ _ | refine blk_drew ?_ | refine blk_alloc ?_ _)); refine blk_put (cs := #[.int .i64 t481, .int .i64 t482, .int .i64 t483, .int .i64 t484, .int .i64 t485, .int .i64 t486, .int .i64 0]) ?_ 6 _ rfl; (with_reducible repeat (first | refine blk_drewN ?_ _ | refine blk_drew ?_ | refine blk_alloc ?_ _)); refine blk_put (cs := #[.int .i64 t481, .int .i64 t482, .int .i64 t483, .int .i64 t484, .int .i64 t485, .int .i64 0, .int .i64 0]) ?_ 5 _ rfl; (with_reducible repeat (first | refine blk_drewN ?_ _ | refine blk_drew ?_ | refine blk_alloc ?_ _)); refine blk_put (cs := #[.int .i64 t481, .int .i64 t482, .int .i64 t483, .int .i64 t484, .int .i64 0, .int .i64 0, .int .i64 0]) ?_ 4 _ rfl; (with_reducible repeat (first | refine blk_drewN ?_ _ | refine blk_drew ?_ | refine blk_alloc ?_ _)); refine blk_put (cs := #[.int .i64 t481, .int .i64 t482, .int .i64 t483, .int .i64 0, .int .i64 0, .int .i64 0, .int .i64 0]) ?_ 3 _ rfl; (with_reducible repeat (first | refine blk_drewN ?_ _ | refine blk_drew ?_ | refine blk_alloc ?_ _)); refine blk_put (cs := #[.int .i64 t481, .int .i64 t482, .int .i64 0, .int .i64 0, .int .i64 0, .int .i64 0, .int .i64 0]) ?_ 2 _ rfl; (with_reducible repeat (first | refine blk_drewN ?_ _ | refine blk_drew ?_ | refine blk_alloc ?_ _)); refine blk_put (cs := #[.int .i64 t481, .int .i64 0, .int .i64 0, .int .i64 0, .int .i64 0, .int .i64 0, .int .i64 0]) ?_ 1 _ rfl; (with_reducible repeat (first | refine blk_drewN ?_ _ | refine blk_drew ?_ | refine blk_alloc ?_ _)); refine blk_put (cs := #[.int .i64 0, .int .i64 0, .int .i64 0, .int .i64 0, .int .i64 0, .int .i64 0, .int .i64 0]) ?_ 0 _ rfl; (with_reducible repeat (first | refine blk_drewN ?_ _ | refine blk_drew ?_ | refine blk_alloc ?_ _)); exact BK489.out⟩, (be_ HB)⟩
  case rest =>
   clear HC7
   try clear c1
   try clear c2
   try clear p2
   try clear c5
   try clear c6
   try clear c12
   try clear c12b0
   try clear c12b1
   try clear hcz11_0
   try clear hcz11_1
   try clear hcz11_2
   try clear hcz11_3
   try clear hcz11_4
   try clear hcz11_5
   try clear hcz11_6
   try clear hfz11_0
   try clear hfz11_1
   try clear hfz11_2
   try clear hfz11_3
   try clear hfz11_4
   try clear hfz11_5
   try clear hfz11_6
   obtain ⟨kq, x32_6, rfl, HA, HJ6, BK489, HB⟩ := hcut
   cases kq with
   | zero => exact absurd HA.out (by simp [ephemerislaw2_EclipseFinds.j0])
   | succ kj6 =>
    have H := HA.out
    clear HA
    simp only [ephemerislaw2_EclipseFinds.j0] at H
    by_cases c13 : x32_6 = true
    ·subst c13
     have H1 : (if t488 = 1 then (some (t481 == 0 && ((t482 == 0 && (t483 == 0)) && ((t484 == 0 && (t485 == 0)) && ((t486 == 0 && (t487 == 0))))))) else (some false)) = some r := by rw [if_pos rfl] at H; exact H
     clear H
     have H := H1
     clear H1
     by_cases c14 : t488 = 1
     ·rw [if_pos c14] at H
      have c14b0 : (t488 == 1) = true := beq_iff_eq.mpr c14
      have c14b1 : (t488 != 1) = false := bne_eq_false_iff_eq.mpr c14
      clear c14
      obtain rfl := Option.some.inj H
      simp only [Option.some.injEq, Prod.mk.injEq] at H
      obtain ⟨rfl⟩ := H
      have hcz15_0 : wc.cell? ⟨gb489, 0, none⟩ = some (.int .i64 t481) := (blk_cell BK489.out 0).trans rfl
      have hcz15_1 : wc.cell? ⟨gb489, 1, none⟩ = some (.int .i64 t482) := (blk_cell BK489.out 1).trans rfl
      have hcz15_2 : wc.cell? ⟨gb489, 2, none⟩ = some (.int .i64 t483) := (blk_cell BK489.out 2).trans rfl
      have hcz15_3 : wc.cell? ⟨gb489, 3, none⟩ = some (.int .i64 t484) := (blk_cell BK489.out 3).trans rfl
      have hcz15_4 : wc.cell? ⟨gb489, 4, none⟩ = some (.int .i64 t485) := (blk_cell BK489.out 4).trans rfl
      have hcz15_5 : wc.cell? ⟨gb489, 5, none⟩ = some (.int .i64 t486) := (blk_cell BK489.out 5).trans rfl
      have hcz15_6 : wc.cell? ⟨gb489, 6, none⟩ = some (.int .i64 t487) := (blk_cell BK489.out 6).trans rfl
      have hfz15_0 := blk_frozen BK489.out 0
      have hfz15_1 := blk_frozen BK489.out 1
      have hfz15_2 := blk_frozen BK489.out 2
      have hfz15_3 := blk_frozen BK489.out 3
      have hfz15_4 := blk_frozen BK489.out 4
      have hfz15_5 := blk_frozen BK489.out 5
      have hfz15_6 := blk_frozen BK489.out 6
      go_wp2
      go_ret
      exact ⟨by first | rfl | (simp [errW_none, errW_some] <;> rfl) | (simp [*, errW_none, errW_some] <;> rfl), (be_ HB).out⟩
     ·rw [if_neg c14] at H
      have c14b0 : (t488 == 1) = false := beq_eq_false_iff_ne.mpr c14
      have c14b1 : (t488 != 1) = true := bne_iff_ne.mpr c14
      obtain rfl := Option.some.inj H
      exact absurd hT (by decide)
    ·replace c13 := Bool.eq_false_iff.mpr c13
     subst c13
     have H1 : ((phase_Find.f kj6 a0 a1).bind fun bt490 => (if bt490.2.2 = 0 then (if a1 = 2 then (ephemerislaw2_EclipseFinds.j1 kj6 a2 t488 1300000 2700000 t481 t482 t483 t484 t485 t486 t487 bt490.1 bt490.2.1) else (ephemerislaw2_EclipseFinds.j1 kj6 a2 t488 2500000 4100000 t481 t482 t483 t484 t485 t486 t487 bt490.1 bt490.2.1)) else (if t488 = bt490.2.2 then (some (t481 == 0 && ((t482 == 0 && (t483 == 0)) && ((t484 == 0 && (t485 == 0)) && ((t486 == 0 && (t487 == 0))))))) else (some false)))) = some r := by rw [if_neg (show ¬ (false = true) by decide)] at H; exact H
     clear H
     have H := H1
     clear H1
     replace H := Option.bind_eq_some_iff.mp H
     obtain ⟨⟨t490, t491, t492⟩, A160, H⟩ := H
     replace H : (if t492 = 0 then (if a1 = 2 then (ephemerislaw2_EclipseFinds.j1 kj6 a2 t488 1300000 2700000 t481 t482 t483 t484 t485 t486 t487 t490 t491) else (ephemerislaw2_EclipseFinds.j1 kj6 a2 t488 2500000 4100000 t481 t482 t483 t484 t485 t486 t487 t490 t491)) else (if t488 = t492 then (some (t481 == 0 && ((t482 == 0 && (t483 == 0)) && ((t484 == 0 && (t485 == 0)) && ((t486 == 0 && (t487 == 0))))))) else (some false))) = some r := H
     have A16 := Aside0.mk A160
     clear A160
     by_cases c17 : t492 = 0
     ·rw [if_pos c17] at H
      have c17b0 : (t492 == 0) = true := beq_iff_eq.mpr c17
      have c17b1 : (t492 != 0) = false := bne_eq_false_iff_eq.mpr c17
      clear c17
      have HC18 := Aside0.mk H
      clear H
      go_upto_if 57 with (first | ((with_reducible refine gate_callee (f := 18) rfl ?_); refine goesL_ (some 43) rfl rfl Try.func18 (by kernel_rfl) rfl #[.int .i64 a0, .int .i64 a1] rfl (by (try simp only [List.map_toArray, List.map_cons, List.map_nil]); first | done | rfl | (simp only [List.length_drop, List.length_take]; rfl)) ?_; (with_reducible refine (phase_Find.calls kj6 a0 a1 t490 t491 t492 _ A16.out).mono ?_); rintro e w19 ⟨rfl, hb⟩; refine ⟨_, rfl, ?_⟩; replace BK489 := kb_ BK489 hb; replace HB := bs_ HB hb; (try clear hb); (try clear hb2); (try clear hk); (try clear hi)) | ((with_reducible refine gate_dst (N := 9) rfl ?_); (try (refine gate_guard (by rfl) ?_; dsimp only)); refine box_event ?hg (N := 9) ?hd (cs := #[.int .i64 0, .int .i64 0]) (t := 24) ?hr ?_; (case hd => rfl); (case hg => rfl); (case hr => first | (go_simp; done) | (go_simp; rfl)); intro gb493 hg w20 hbox hb; have BK493 := Aside0.mk (hbox); have GW493 := ge_ hg HB; have GE493 := ge_ hg HB; have NB489_493 := nl_ hg BK489; have NB493_489 := ng_ hg BK489; replace BK489 := kb_ BK489 hb; replace HB := bs_ HB hb; clear hb hbox hg; have hnb21 := NB493_489.out; have hnc21 := NB489_493.out; have hcz22_0 : w20.cell? ⟨gb493, 0, none⟩ = some (.int .i64 0) := (blk_cell BK493.out 0).trans rfl; have hcz22_1 : w20.cell? ⟨gb493, 1, none⟩ = some (.int .i64 0) := (blk_cell BK493.out 1).trans rfl; have hfz22_0 := blk_frozen BK493.out 0; have hfz22_1 := blk_frozen BK493.out 1))
      (try simp only [Act.put, List.setIfInBounds_toArray, List.set_cons_zero, List.set_cons_succ])
      go_cut [11, 12] (fun v11 v12 wc => ∃ (kq : Nat) (x11_17 : Int) (x12_17 : Int), v11 = .int .i64 x11_17 ∧ v12 = .int .i64 x12_17 ∧ Aside0 (ephemerislaw2_EclipseFinds.j1 kq a2 t488 x11_17 x12_17 t481 t482 t483 t484 t485 t486 t487 t490 t491 = some r) ∧ Aside0 (kq ≤ kj6) ∧ Aside0 (wc.heap[gb489]? = some (.cells #[.int .i64 t481, .int .i64 t482, .int .i64 t483, .int .i64 t484, .int .i64 t485, .int .i64 t486, .int .i64 t487] 37 (0, 0))) ∧ Aside0 (wc.heap[gb493]? = some (.cells #[.int .i64 t490, .int .i64 t491] 24 (0, 0))) ∧ Aside0 (Below w.heap.size w wc))
      case first =>
       have H := HC18.out
       clear HC18
       by_cases c23 : a1 = 2
       ·rw [if_pos c23] at H
        have c23b0 : (a1 == 2) = true := beq_iff_eq.mpr c23
        have c23b1 : (a1 != 2) = false := bne_eq_false_iff_eq.mpr c23
        clear c23
        (first | rw [c23b0] | (simp only [i64_w, i32_w]; rw [c23b0]) | skip)
        have H' := Aside0.mk H
        clear H
        go_wp2
        go_meet
        case rel => exact ⟨_, (1300000), (2700000), (by first | rfl | (simp; done) | (simp [*]; done)), (by first | rfl | (simp; done) | (simp [*]; done)), H', ⟨by have := HJ6.out; first | omega | exact Nat.le_refl _⟩, ⟨kk_ BK489⟩, ⟨by (with_reducible repeat (first | refine blk_drewN ?_ _ | refine blk_drew ?_ | refine blk_alloc ?_ _)); refine blk_put (cs := #[.int .i64 t490, .int .i64 0]) ?_ 1 _ rfl; (with_reducible repeat (first | refine blk_drewN ?_ _ | refine blk_drew ?_ | refine blk_alloc ?_ _)); refine blk_put (cs := #[.int .i64 0, .int .i64 0]) ?_ 0 _ rfl; (with_reducible repeat (first | refine blk_drewN ?_ _ | refine blk_drew ?_ | refine blk_alloc ?_ _)); exact BK493.out⟩, (be_ HB)⟩
       ·rw [if_neg c23] at H
        have c23b0 : (a1 == 2) = false := beq_eq_false_iff_ne.mpr c23
        have c23b1 : (a1 != 2) = true := bne_iff_ne.mpr c23
        (first | rw [c23b0] | (simp only [i64_w, i32_w]; rw [c23b0]) | skip)
        have H' := Aside0.mk H
        clear H
        go_wp2
        go_meet
        case rel => exact ⟨_, (2500000), (4100000), (by first | rfl | (simp; done) | (simp [*]; done)), (by first | rfl | (simp; done) | (simp [*]; done)), H', ⟨by have := HJ6.out; first | omega | exact Nat.le_refl _⟩, ⟨kk_ BK489⟩, ⟨by (with_reducible repeat (first | refine blk_drewN ?_ _ | refine blk_drew ?_ | refine blk_alloc ?_ _)); refine blk_put (cs := #[.int .i64 t490, .int .i64 0]) ?_ 1 _ rfl; (with_reducible repeat (first | refine blk_drewN ?_ _ | refine blk_drew ?_ | refine blk_alloc ?_ _)); refine blk_put (cs := #[.int .i64 0, .int .i64 0]) ?_ 0 _ rfl; (with_reducible repeat (first | refine blk_drewN ?_ _ | refine blk_drew ?_ | refine blk_alloc ?_ _)); exact BK493.out⟩, (be_ HB)⟩
      case rest =>
       clear HC18
       try clear c1
       try clear c2
       try clear p2
       try clear c5
       try clear c6
       try clear c12
       try clear c12b0
       try clear c12b1
       try clear c13
       try clear c14
       try clear c14b0
       try clear c14b1
       try clear c17
       try clear c17b0
       try clear c17b1
       try clear c18
       try clear c21
       try clear c22
       try clear c23
       try clear c23b0
       try clear c23b1
       try clear hcz11_0
       try clear hcz11_1
       try clear hcz11_2
       try clear hcz11_3
       try clear hcz11_4
       try clear hcz11_5
       try clear hcz11_6
       try clear hcz15_0
       try clear hcz15_1
       try clear hcz15_2
       try clear hcz15_3
       try clear hcz15_4
       try clear hcz15_5
       try clear hcz15_6
       try clear hcz22_0
       try clear hcz22_1
       try clear hfz11_0
       try clear hfz11_1
       try clear hfz11_2
       try clear hfz11_3
       try clear hfz11_4
       try clear hfz11_5
       try clear hfz11_6
       try clear hfz15_0
       try clear hfz15_1
       try clear hfz15_2
       try clear hfz15_3
       try clear hfz15_4
       try clear hfz15_5
       try clear hfz15_6
       try clear hfz22_0
       try clear hfz22_1
       try clear p2
       obtain ⟨kq, x11_17, x12_17, rfl, rfl, HA, HJ17, BK489, BK493, HB⟩ := hcut
       cases kq with
       | zero => exact absurd HA.out (by simp [ephemerislaw2_EclipseFinds.j1])
       | succ kj17 =>
        have H := HA.out
        clear HA
        simp only [ephemerislaw2_EclipseFinds.j1] at H
        replace H := Option.bind_eq_some_iff.mp H
        obtain ⟨t494, A240, H⟩ := H
        replace H : ((ephemerislaw2_at.f a2 17).bind fun t495 => ((ephemerisref2_MoonLat.f kj17 (wrap64 (t490 + t494)) (wrap64 (t495 - 8))).bind fun t496 => (if t488 = 0 then (if (mx t496 (wrap64 (-t496))) < (wrap64 (x12_17 * 1048576)) then (ephemerislaw2_EclipseFinds.j2 kj17 x11_17 x12_17 t496 (mx t496 (wrap64 (-t496))) 1 t481 t482 t483 t484 t485 t486 t487 t490 t491) else (ephemerislaw2_EclipseFinds.j2 kj17 x11_17 x12_17 t496 (mx t496 (wrap64 (-t496))) 0 t481 t482 t483 t484 t485 t486 t487 t490 t491)) else (if t488 = 11 then (if (t481 == 0 && ((t482 == 0 && (t483 == 0)) && ((t484 == 0 && (t485 == 0)) && ((t486 == 0 && (t487 == 0)))))) = true then (if (mx (wrap64 ((mx t496 (wrap64 (-t496))) - (wrap64 (x11_17 * 1048576)))) (wrap64 (-(wrap64 ((mx t496 (wrap64 (-t496))) - (wrap64 (x11_17 * 1048576))))))) < 104857600000 then (some true) else (some (decide ((mx (wrap64 ((mx t496 (wrap64 (-t496))) - (wrap64 (x12_17 * 1048576)))) (wrap64 (-(wrap64 ((mx t496 (wrap64 (-t496))) - (wrap64 (x12_17 * 1048576))))))) < 104857600000)))) else (some false)) else (some false))))) = some r := H
        have A24 := Aside0.mk A240
        clear A240
        replace H := Option.bind_eq_some_iff.mp H
        obtain ⟨t495, A250, H⟩ := H
        replace H : ((ephemerisref2_MoonLat.f kj17 (wrap64 (t490 + t494)) (wrap64 (t495 - 8))).bind fun t496 => (if t488 = 0 then (if (mx t496 (wrap64 (-t496))) < (wrap64 (x12_17 * 1048576)) then (ephemerislaw2_EclipseFinds.j2 kj17 x11_17 x12_17 t496 (mx t496 (wrap64 (-t496))) 1 t481 t482 t483 t484 t485 t486 t487 t490 t491) else (ephemerislaw2_EclipseFinds.j2 kj17 x11_17 x12_17 t496 (mx t496 (wrap64 (-t496))) 0 t481 t482 t483 t484 t485 t486 t487 t490 t491)) else (if t488 = 11 then (if (t481 == 0 && ((t482 == 0 && (t483 == 0)) && ((t484 == 0 && (t485 == 0)) && ((t486 == 0 && (t487 == 0)))))) = true then (if (mx (wrap64 ((mx t496 (wrap64 (-t496))) - (wrap64 (x11_17 * 1048576)))) (wrap64 (-(wrap64 ((mx t496 (wrap64 (-t496))) - (wrap64 (x11_17 * 1048576))))))) < 104857600000 then (some true) else (some (decide ((mx (wrap64 ((mx t496 (wrap64 (-t496))) - (wrap64 (x12_17 * 1048576)))) (wrap64 (-(wrap64 ((mx t496 (wrap64 (-t496))) - (wrap64 (x12_17 * 1048576))))))) < 104857600000)))) else (some false)) else (some false)))) = some r := H
        have A25 := Aside0.mk A250
        clear A250
        replace H := Option.bind_eq_some_iff.mp H
        obtain ⟨t496, A260, H⟩ := H
        replace H : (if t488 = 0 then (if (mx t496 (wrap64 (-t496))) < (wrap64 (x12_17 * 1048576)) then (ephemerislaw2_EclipseFinds.j2 kj17 x11_17 x12_17 t496 (mx t496 (wrap64 (-t496))) 1 t481 t482 t483 t484 t485 t486 t487 t490 t491) else (ephemerislaw2_EclipseFinds.j2 kj17 x11_17 x12_17 t496 (mx t496 (wrap64 (-t496))) 0 t481 t482 t483 t484 t485 t486 t487 t490 t491)) else (if t488 = 11 then (if (t481 == 0 && ((t482 == 0 && (t483 == 0)) && ((t484 == 0 && (t485 == 0)) && ((t486 == 0 && (t487 == 0)))))) = true then (if (mx (wrap64 ((mx t496 (wrap64 (-t496))) - (wrap64 (x11_17 * 1048576)))) (wrap64 (-(wrap64 ((mx t496 (wrap64 (-t496))) - (wrap64 (x11_17 * 1048576))))))) < 104857600000 then (some true) else (some (decide ((mx (wrap64 ((mx t496 (wrap64 (-t496))) - (wrap64 (x12_17 * 1048576)))) (wrap64 (-(wrap64 ((mx t496 (wrap64 (-t496))) - (wrap64 (x12_17 * 1048576))))))) < 104857600000)))) else (some false)) else (some false))) = some r := H
        have A26 := Aside0.mk A260
        clear A260
        obtain ⟨ji27, hji27⟩ : ∃ j_ : Int, (mx t496 (wrap64 (-t496))) = j_ := ⟨_, rfl⟩
        replace H : (if t488 = 0 then (if (ji27) < (wrap64 (x12_17 * 1048576)) then (ephemerislaw2_EclipseFinds.j2 kj17 x11_17 x12_17 t496 ji27 1 t481 t482 t483 t484 t485 t486 t487 t490 t491) else (ephemerislaw2_EclipseFinds.j2 kj17 x11_17 x12_17 t496 ji27 0 t481 t482 t483 t484 t485 t486 t487 t490 t491)) else (if t488 = 11 then (if (t481 == 0 && ((t482 == 0 && (t483 == 0)) && ((t484 == 0 && (t485 == 0)) && ((t486 == 0 && (t487 == 0)))))) = true then (if (mx (wrap64 ((ji27) - (wrap64 (x11_17 * 1048576)))) (wrap64 (-(wrap64 ((ji27) - (wrap64 (x11_17 * 1048576))))))) < 104857600000 then (some true) else (some (decide ((mx (wrap64 ((ji27) - (wrap64 (x12_17 * 1048576)))) (wrap64 (-(wrap64 ((ji27) - (wrap64 (x12_17 * 1048576))))))) < 104857600000)))) else (some false)) else (some false))) = some r := by first | (rw [hji27] at H; exact H) | (simp only [hji27] at H ⊢; exact H)
        (try rw [hji27] at A24)
        (try rw [hji27] at A25)
        (try rw [hji27] at A26)
        have hji27_ : (if t496 < (wrap64 (-t496)) then (wrap64 (-t496)) else t496) = ji27 := hji27
        by_cases c28 : t488 = 0
        ·rw [if_pos c28] at H
         have c28b0 : (t488 == 0) = true := beq_iff_eq.mpr c28
         have c28b1 : (t488 != 0) = false := bne_eq_false_iff_eq.mpr c28
         clear c28
         have HC29 := Aside0.mk H
         clear H
         try go_wp2
         replace BK489 := Aside0.mk (blk_drew BK489.out)
         replace BK493 := Aside0.mk (blk_drew BK493.out)
         replace HB := Aside0.mk (below_drew1 HB.out)
         refine start_ (n := 16) (S := fun w' => w'.cell? ⟨gb493, 0, none⟩ = some (.int .i64 t490) ∧ w'.cell? ⟨gb493, 1, none⟩ = some (.int .i64 t491)) (ds := []) #[false, false, false, false, false, false, false, false, false, false, false, false, false, false, false, false] (by kernel_rfl) rfl rfl ⟨(blk_cell BK493.out 0).trans rfl, (blk_cell BK493.out 1).trans rfl⟩ (fun hHeld => ?_); refine with_tabW ephemerislaw2_EclipseFinds.tab12 ephemerislaw2_EclipseFinds.bits12 (fun HT_ HW_ => ?_)
         generalize wc.drew = w30 at BK489 BK493 HB hHeld ⊢
         refine pure_ (i := 0) (N := some 58) (v := ?_) (a' := ?_) #[true, false, false, false, false, false, false, false, false, false, false, false, false, false, false, false] rfl rfl (any_of HT_.out (by kernel_rfl)) (fun _ _ _ h => h) (Or.inl ⟨by rfl, ?_⟩) ?_ ?_
         rotate_left
         ·intro w'
          go_simp
          with_reducible rfl
         rotate_left
         ·simp only [Act.put, List.setIfInBounds_toArray, List.set_cons_zero, List.set_cons_succ, i64_w, i32_w]
          rfl
         refine pure_ (i := 2) (N := some 60) (v := ?_) (a' := ?_) #[true, false, true, false, false, false, false, false, false, false, false, false, false, false, false, false] rfl rfl (any_of HT_.out (by kernel_rfl)) (fun _ _ _ h => h) (Or.inl ⟨by rfl, ?_⟩) ?_ ?_
         rotate_left
         ·intro w'
          go_simp
          with_reducible rfl
         rotate_left
         ·simp only [Act.put, List.setIfInBounds_toArray, List.set_cons_zero, List.set_cons_succ, i64_w, i32_w]
          rfl
         refine pure_ (i := 3) (N := some 61) (v := ?_) (a' := ?_) #[true, false, true, true, false, false, false, false, false, false, false, false, false, false, false, false] rfl rfl (any_of HT_.out (by kernel_rfl)) (fun _ _ _ h => h) (Or.inl ⟨by rfl, ?_⟩) ?_ ?_
         rotate_left
         ·intro w'
          go_simp
          with_reducible rfl
         rotate_left
         ·simp only [Act.put, List.setIfInBounds_toArray, List.set_cons_zero, List.set_cons_succ, i64_w, i32_w]
          rfl
         refine pure_ (i := 5) (N := some 63) (v := ?_) (a' := ?_) #[true, false, true, true, false, true, false, false, false, false, false, false, false, false, false, false] rfl rfl (any_of HT_.out (by kernel_rfl)) (fun _ _ _ h => h) (Or.inl ⟨by rfl, ?_⟩) ?_ ?_
         rotate_left
         ·intro w'
          go_simp
          with_reducible rfl
         rotate_left
         ·simp only [Act.put, List.setIfInBounds_toArray, List.set_cons_zero, List.set_cons_succ, i64_w, i32_w]
          rfl
         refine pure_ (i := 11) (N := some 69) (v := ?_) (a' := ?_) #[true, false, true, true, false, true, false, false, false, false, false, true, false, false, false, false] rfl rfl (any_of HT_.out (by kernel_rfl)) (fun _ _ _ h => h) (Or.inl ⟨by rfl, ?_⟩) ?_ ?_
         rotate_left
         ·intro w'
          go_simp
          with_reducible rfl
         rotate_left
         ·simp only [Act.put, List.setIfInBounds_toArray, List.set_cons_zero, List.set_cons_succ, i64_w, i32_w]
          rfl
         refine take_ (i := 1) (N := some 59) (v := ?_) (a' := ?_) #[true, true, true, true, false, true, false, false, false, false, false, true, false, false, false, false] rfl rfl (take_ofW HT_.out HW_.out (by kernel_rfl)) (fun _ _ _ h => h) (Or.inl ⟨by rfl, ?_⟩) hHeld ?_ ?_
         rotate_left
         ·rintro w' ⟨s0, s1⟩
          go_simp
          with_reducible rfl
         rotate_left
         ·simp only [Act.put, List.setIfInBounds_toArray, List.set_cons_zero, List.set_cons_succ, i64_w, i32_w]
          rfl
         refine take_ (i := 4) (N := some 62) (v := ?_) (a' := ?_) #[true, true, true, true, true, true, false, false, false, false, false, true, false, false, false, false] rfl rfl (take_ofW HT_.out HW_.out (by kernel_rfl)) (fun _ _ _ h => h) (Or.inl ⟨by rfl, ?_⟩) hHeld ?_ ?_
         rotate_left
         ·rintro w' ⟨s0, s1⟩
          go_simp
          with_reducible rfl
         rotate_left
         ·simp only [Act.put, List.setIfInBounds_toArray, List.set_cons_zero, List.set_cons_succ, i64_w, i32_w]
          rfl
         refine take_ (i := 6) (N := some 64) (v := ?_) (a' := ?_) #[true, true, true, true, true, true, true, false, false, false, false, true, false, false, false, false] rfl rfl (take_ofW HT_.out HW_.out (by kernel_rfl)) (fun _ _ _ h => h) (Or.inl ⟨by rfl, ?_⟩) hHeld ?_ ?_
         rotate_left
         ·rintro w' ⟨s0, s1⟩
          go_simp
          with_reducible rfl
         rotate_left
         ·simp only [Act.put, List.setIfInBounds_toArray, List.set_cons_zero, List.set_cons_succ, i64_w, i32_w]
          rfl
         refine pure_ (i := 7) (N := some 65) (v := ?_) (a' := ?_) #[true, true, true, true, true, true, true, true, false, false, false, true, false, false, false, false] rfl rfl (any_of HT_.out (by kernel_rfl)) (fun _ _ _ h => h) (Or.inl ⟨by rfl, ?_⟩) ?_ ?_
         rotate_left
         ·intro w'
          go_simp
          with_reducible rfl
         rotate_left
         ·simp only [Act.put, List.setIfInBounds_toArray, List.set_cons_zero, List.set_cons_succ, i64_w, i32_w]
          rfl
         refine pure_ (i := 8) (N := some 66) (v := ?_) (a' := ?_) #[true, true, true, true, true, true, true, true, true, false, false, true, false, false, false, false] rfl rfl (any_of HT_.out (by kernel_rfl)) (fun _ _ _ h => h) (Or.inl ⟨by rfl, ?_⟩) ?_ ?_
         rotate_left
         ·intro w'
          go_simp
          with_reducible rfl
         rotate_left
         ·simp only [Act.put, List.setIfInBounds_toArray, List.set_cons_zero, List.set_cons_succ, i64_w, i32_w]
          rfl
         refine one_ (i := 9) (N := some 67) #[true, true, true, true, true, true, true, true, true, true, false, true, false, false, false, false] rfl rfl (one_of HT_.out (by kernel_rfl)) (by decide) (fun K hK => ?_)
         refine goes_ Try.func14 (by kernel_rfl) rfl #[.int .i64 a2, .int .i64 (wrap64 ((wrap64 (t491 - t490)) + 1))] (by rfl) rfl rfl (by (try simp only [List.map_toArray, List.map_cons, List.map_nil]); first | done | rfl | (simp only [List.length_drop, List.length_take]; rfl)) ?_
         with_reducible refine (ephemerislaw2_at.calls a2 (wrap64 ((wrap64 (t491 - t490)) + 1)) t494 _ A24.out).mono ?_
         rintro e w' ⟨rfl, ⟨nd, rfl⟩⟩
         refine ⟨_, rfl, ?_⟩
         refine hK.out _ _ ⟨(blk_cell BK493.out 0).trans rfl, (blk_cell BK493.out 1).trans rfl⟩ (fun hHeld => ?_)
         clear hK K
         refine norm_ (a' := ?_) ?_ ?_
         rotate_left
         ·show Act.put _ (some 67) _ = _
          simp only [Act.put, List.setIfInBounds_toArray, List.set_cons_zero, List.set_cons_succ, i64_w, i32_w]
          rfl
         refine pure_ (i := 10) (N := some 68) (v := ?_) (a' := ?_) #[true, true, true, true, true, true, true, true, true, true, true, true, false, false, false, false] rfl rfl (any_of HT_.out (by kernel_rfl)) (fun _ _ _ h => h) (Or.inl ⟨by rfl, ?_⟩) ?_ ?_
         rotate_left
         ·intro w'
          go_simp
          with_reducible rfl
         rotate_left
         ·simp only [Act.put, List.setIfInBounds_toArray, List.set_cons_zero, List.set_cons_succ, i64_w, i32_w]
          rfl
         refine one_ (i := 12) (N := some 70) #[true, true, true, true, true, true, true, true, true, true, true, true, true, false, false, false] rfl rfl (one_of HT_.out (by kernel_rfl)) (by decide) (fun K hK => ?_)
         refine goes_ Try.func14 (by kernel_rfl) rfl #[.int .i64 a2, .int .i64 17] (by rfl) rfl rfl (by (try simp only [List.map_toArray, List.map_cons, List.map_nil]); first | done | rfl | (simp only [List.length_drop, List.length_take]; rfl)) ?_
         with_reducible refine (ephemerislaw2_at.calls a2 17 t495 _ A25.out).mono ?_
         rintro e w' ⟨rfl, ⟨nd, rfl⟩⟩
         refine ⟨_, rfl, ?_⟩
         refine hK.out _ _ ⟨(blk_cell BK493.out 0).trans rfl, (blk_cell BK493.out 1).trans rfl⟩ (fun hHeld => ?_)
         clear hK K
         refine norm_ (a' := ?_) ?_ ?_
         rotate_left
         ·show Act.put _ (some 70) _ = _
          simp only [Act.put, List.setIfInBounds_toArray, List.set_cons_zero, List.set_cons_succ, i64_w, i32_w]
          rfl
         refine pure_ (i := 13) (N := some 71) (v := ?_) (a' := ?_) #[true, true, true, true, true, true, true, true, true, true, true, true, true, true, false, false] rfl rfl (any_of HT_.out (by kernel_rfl)) (fun _ _ _ h => h) (Or.inl ⟨by rfl, ?_⟩) ?_ ?_
         rotate_left
         ·intro w'
          go_simp
          with_reducible rfl
         rotate_left
         ·simp only [Act.put, List.setIfInBounds_toArray, List.set_cons_zero, List.set_cons_succ, i64_w, i32_w]
          rfl
         refine one_ (i := 14) (N := some 72) #[true, true, true, true, true, true, true, true, true, true, true, true, true, true, true, false] rfl rfl (one_of HT_.out (by kernel_rfl)) (by decide) (fun K hK => ?_)
         refine goes_ Try.func23 (by kernel_rfl) rfl #[.int .i64 (wrap64 (t490 + t494)), .int .i64 (wrap64 (t495 - 8))] (by rfl) rfl rfl (by (try simp only [List.map_toArray, List.map_cons, List.map_nil]); first | done | rfl | (simp only [List.length_drop, List.length_take]; rfl)) ?_
         with_reducible refine (ephemerisref2_MoonLat.calls kj17 (wrap64 (t490 + t494)) (wrap64 (t495 - 8)) t496 _ A26.out).mono ?_
         rintro e w31 ⟨rfl, hb⟩
         refine ⟨_, rfl, ?_⟩
         replace BK489 := kb_ BK489 hb
         replace BK493 := kb_ BK493 hb
         replace HB := bs_ HB hb
         (try clear hb)
         (try clear hb2)
         (try clear hk)
         (try clear hi)
         refine hK.out _ _ ⟨(blk_cell BK493.out 0).trans rfl, (blk_cell BK493.out 1).trans rfl⟩ (fun hHeld => ?_)
         clear hK K
         refine norm_ (a' := ?_) ?_ ?_
         rotate_left
         ·show Act.put _ (some 72) _ = _
          simp only [Act.put, List.setIfInBounds_toArray, List.set_cons_zero, List.set_cons_succ, i64_w, i32_w]
          rfl
         refine pure_ (i := 15) (N := some 13) (v := ?_) (a' := ?_) #[true, true, true, true, true, true, true, true, true, true, true, true, true, true, true, true] rfl rfl (any_of HT_.out (by kernel_rfl)) (fun _ _ _ h => h) (Or.inl ⟨by rfl, ?_⟩) ?_ ?_
         rotate_left
         ·intro w'
          go_simp
          with_reducible rfl
         rotate_left
         ·simp only [Act.put, List.setIfInBounds_toArray, List.set_cons_zero, List.set_cons_succ, i64_w, i32_w]
          rfl
         refine done_ (done_of HT_.out (by kernel_rfl)) ?_
         go_upto_if 111 with (fail)
         go_cut [17] (fun v17 wc => ∃ (kq : Nat) (x17_28 : Int), v17 = .int .i64 x17_28 ∧ Aside0 (ephemerislaw2_EclipseFinds.j2 kq x11_17 x12_17 t496 ji27 x17_28 t481 t482 t483 t484 t485 t486 t487 t490 t491 = some r) ∧ Aside0 (kq ≤ kj17) ∧ Aside0 (wc.heap[gb489]? = some (.cells #[.int .i64 t481, .int .i64 t482, .int .i64 t483, .int .i64 t484, .int .i64 t485, .int .i64 t486, .int .i64 t487] 37 (0, 0))) ∧ Aside0 (wc.heap[gb493]? = some (.cells #[.int .i64 t490, .int .i64 t491] 24 (0, 0))) ∧ Aside0 (Below w.heap.size w wc))
         case first =>
          have H := HC29.out
          clear HC29
          by_cases c32 : (ji27) < (wrap64 (x12_17 * 1048576))
          ·rw [if_pos c32] at H
           have c32b0 : decide ((ji27) < (wrap64 (x12_17 * 1048576))) = true := decide_eq_true c32
           clear c32
           (first | rw [c32b0] | (simp only [i64_w, i32_w]; rw [c32b0]) | skip)
           have H' := Aside0.mk H
           clear H
           go_wp2
           go_meet
           case rel => exact ⟨_, (1), (by first | rfl | (simp; done) | (simp [*]; done)), H', ⟨by have := HJ6.out; have := HJ17.out; first | omega | exact Nat.le_refl _⟩, ⟨kk_ BK489⟩, ⟨kk_ BK493⟩, (be_ HB)⟩
          ·rw [if_neg c32] at H
           have c32b0 : decide ((ji27) < (wrap64 (x12_17 * 1048576))) = false := decide_eq_false c32
           clear c32
           (first | rw [c32b0] | (simp only [i64_w, i32_w]; rw [c32b0]) | skip)
           have H' := Aside0.mk H
           clear H
           go_wp2
           go_meet
           case rel => exact ⟨_, (0), (by first | rfl | (simp; done) | (simp [*]; done)), H', ⟨by have := HJ6.out; have := HJ17.out; first | omega | exact Nat.le_refl _⟩, ⟨kk_ BK489⟩, ⟨kk_ BK493⟩, (be_ HB)⟩
         case rest =>
          clear HC29
          try clear c1
          try clear c2
          try clear p2
          try clear c3
          try clear c5
          try clear c6
          try clear p6
          try clear c12
          try clear c12b0
          try clear c12b1
          try clear c13
          try clear c14
          try clear c14b0
          try clear c14b1
          try clear c17
          try clear c17b0
          try clear c17b1
          try clear c18
          try clear c21
          try clear c22
          try clear c23
          try clear c23b0
          try clear c23b1
          try clear c28
          try clear c28b0
          try clear c28b1
          try clear c32
          try clear c32b0
          try clear hcz11_0
          try clear hcz11_1
          try clear hcz11_2
          try clear hcz11_3
          try clear hcz11_4
          try clear hcz11_5
          try clear hcz11_6
          try clear hcz15_0
          try clear hcz15_1
          try clear hcz15_2
          try clear hcz15_3
          try clear hcz15_4
          try clear hcz15_5
          try clear hcz15_6
          try clear hcz22_0
          try clear hcz22_1
          try clear hfz11_0
          try clear hfz11_1
          try clear hfz11_2
          try clear hfz11_3
          try clear hfz11_4
          try clear hfz11_5
          try clear hfz11_6
          try clear hfz15_0
          try clear hfz15_1
          try clear hfz15_2
          try clear hfz15_3
          try clear hfz15_4
          try clear hfz15_5
          try clear hfz15_6
          try clear hfz22_0
          try clear hfz22_1
          try clear p2
          obtain ⟨kq, x17_28, rfl, HA, HJ28, BK489, BK493, HB⟩ := hcut
          cases kq with
          | zero => exact absurd HA.out (by simp [ephemerislaw2_EclipseFinds.j2])
          | succ kj28 =>
           have H := HA.out
           clear HA
           simp only [ephemerislaw2_EclipseFinds.j2] at H
           have HC33 := Aside0.mk H
           clear H
           go_upto_if 115 with (fail)
           go_cut [17] (fun v17 wc => ∃ (kq : Nat) (x17_32 : Int), v17 = .int .i64 x17_32 ∧ Aside0 (ephemerislaw2_EclipseFinds.j3 kq x12_17 t496 ji27 x17_32 t481 t482 t483 t484 t485 t486 t487 t490 t491 = some r) ∧ Aside0 (kq ≤ kj28) ∧ Aside0 (wc.heap[gb489]? = some (.cells #[.int .i64 t481, .int .i64 t482, .int .i64 t483, .int .i64 t484, .int .i64 t485, .int .i64 t486, .int .i64 t487] 37 (0, 0))) ∧ Aside0 (wc.heap[gb493]? = some (.cells #[.int .i64 t490, .int .i64 t491] 24 (0, 0))) ∧ Aside0 (Below w.heap.size w wc))
           case first =>
            have H := HC33.out
            clear HC33
            by_cases c34 : ji27 < (wrap64 (x11_17 * 1048576))
            ·rw [if_pos c34] at H
             have c34b0 : decide (ji27 < (wrap64 (x11_17 * 1048576))) = true := decide_eq_true c34
             clear c34
             (first | rw [c34b0] | (simp only [i64_w, i32_w]; rw [c34b0]) | skip)
             have H' := Aside0.mk H
             clear H
             go_wp2
             go_meet
             case rel => exact ⟨_, (2), (by first | rfl | (simp; done) | (simp [*]; done)), H', ⟨by have := HJ6.out; have := HJ17.out; have := HJ28.out; first | omega | exact Nat.le_refl _⟩, ⟨kk_ BK489⟩, ⟨kk_ BK493⟩, (be_ HB)⟩
            ·rw [if_neg c34] at H
             have c34b0 : decide (ji27 < (wrap64 (x11_17 * 1048576))) = false := decide_eq_false c34
             clear c34
             (first | rw [c34b0] | (simp only [i64_w, i32_w]; rw [c34b0]) | skip)
             have H' := Aside0.mk H
             clear H
             go_wp2
             go_meet
             case rel => exact ⟨_, (x17_28), (by first | rfl | (simp; done) | (simp [*]; done)), H', ⟨by have := HJ6.out; have := HJ17.out; have := HJ28.out; first | omega | exact Nat.le_refl _⟩, ⟨kk_ BK489⟩, ⟨kk_ BK493⟩, (be_ HB)⟩
           case rest =>
            clear HC33
            try clear c1
            try clear c2
            try clear p2
            try clear c3
            try clear c5
            try clear c6
            try clear p6
            try clear c12
            try clear c12b0
            try clear c12b1
            try clear c13
            try clear c14
            try clear c14b0
            try clear c14b1
            try clear c17
            try clear c17b0
            try clear c17b1
            try clear c18
            try clear c21
            try clear c22
            try clear c23
            try clear c23b0
            try clear c23b1
            try clear c28
            try clear c28b0
            try clear c28b1
            try clear c32
            try clear c32b0
            try clear c34
            try clear c34b0
            try clear hcz11_0
            try clear hcz11_1
            try clear hcz11_2
            try clear hcz11_3
            try clear hcz11_4
            try clear hcz11_5
            try clear hcz11_6
            try clear hcz15_0
            try clear hcz15_1
            try clear hcz15_2
            try clear hcz15_3
            try clear hcz15_4
            try clear hcz15_5
            try clear hcz15_6
            try clear hcz22_0
            try clear hcz22_1
            try clear hfz11_0
            try clear hfz11_1
            try clear hfz11_2
            try clear hfz11_3
            try clear hfz11_4
            try clear hfz11_5
            try clear hfz11_6
            try clear hfz15_0
            try clear hfz15_1
            try clear hfz15_2
            try clear hfz15_3
            try clear hfz15_4
            try clear hfz15_5
            try clear hfz15_6
            try clear hfz22_0
            try clear hfz22_1
            try clear p2
            try clear p6
            obtain ⟨kq, x17_32, rfl, HA, HJ32, BK489, BK493, HB⟩ := hcut
            cases kq with
            | zero => exact absurd HA.out (by simp [ephemerislaw2_EclipseFinds.j3])
            | succ kj32 =>
             have H := HA.out
             clear HA
             simp only [ephemerislaw2_EclipseFinds.j3] at H
             have HC35 := Aside0.mk H
             clear H
             go_upto_region 22 with (fail)
             go_cut [142] (fun v142 wc => ∃ (kq : Nat) (x142_34 : Bool), v142 = .bool x142_34 ∧ Aside0 (ephemerislaw2_EclipseFinds.j4 kq x12_17 ji27 x17_32 x142_34 t481 t482 t483 t484 t485 t486 t487 = some r) ∧ Aside0 (kq ≤ kj32) ∧ Aside0 (wc.heap[gb489]? = some (.cells #[.int .i64 t481, .int .i64 t482, .int .i64 t483, .int .i64 t484, .int .i64 t485, .int .i64 t486, .int .i64 t487] 37 (0, 0))) ∧ Aside0 (wc.heap[gb493]? = some (.cells #[.int .i64 t490, .int .i64 t491] 24 (0, 0))) ∧ Aside0 (Below w.heap.size w wc))
             case first =>
              have H := HC35.out
              clear HC35
              by_cases c36 : (!(t482 == t490) || (!(t483 == t491))) = true
              ·rw [if_pos c36] at H
               have c36b0 : (!(t482 == t490) || (!(t483 == t491))) = true := c36
               clear c36
               (first | rw [c36b0] | (simp only [i64_w, i32_w]; rw [c36b0]) | skip)
               have H' := Aside0.mk H
               clear H
               have hnb37 := NB489_493.out
               have hnc37 := NB493_489.out
               have hcz38_0 : wc.cell? ⟨gb489, 0, none⟩ = some (.int .i64 t481) := (blk_cell BK489.out 0).trans rfl
               have hcz38_1 : wc.cell? ⟨gb489, 1, none⟩ = some (.int .i64 t482) := (blk_cell BK489.out 1).trans rfl
               have hcz38_2 : wc.cell? ⟨gb489, 2, none⟩ = some (.int .i64 t483) := (blk_cell BK489.out 2).trans rfl
               have hcz38_3 : wc.cell? ⟨gb489, 3, none⟩ = some (.int .i64 t484) := (blk_cell BK489.out 3).trans rfl
               have hcz38_4 : wc.cell? ⟨gb489, 4, none⟩ = some (.int .i64 t485) := (blk_cell BK489.out 4).trans rfl
               have hcz38_5 : wc.cell? ⟨gb489, 5, none⟩ = some (.int .i64 t486) := (blk_cell BK489.out 5).trans rfl
               have hcz38_6 : wc.cell? ⟨gb489, 6, none⟩ = some (.int .i64 t487) := (blk_cell BK489.out 6).trans rfl
               have hfz38_0 := blk_frozen BK489.out 0
               have hfz38_1 := blk_frozen BK489.out 1
               have hfz38_2 := blk_frozen BK489.out 2
               have hfz38_3 := blk_frozen BK489.out 3
               have hfz38_4 := blk_frozen BK489.out 4
               have hfz38_5 := blk_frozen BK489.out 5
               have hfz38_6 := blk_frozen BK489.out 6
               have hcz39_0 : wc.cell? ⟨gb493, 0, none⟩ = some (.int .i64 t490) := (blk_cell BK493.out 0).trans rfl
               have hcz39_1 : wc.cell? ⟨gb493, 1, none⟩ = some (.int .i64 t491) := (blk_cell BK493.out 1).trans rfl
               have hfz39_0 := blk_frozen BK493.out 0
               have hfz39_1 := blk_frozen BK493.out 1
               go_wp2
               go_meet
               case rel => exact ⟨_, (true), (by first | rfl | (simp; done) | (simp [*]; done)), H', ⟨by have := HJ6.out; have := HJ17.out; have := HJ28.out; have := HJ32.out; first | omega | exact Nat.le_refl _⟩, ⟨kk_ BK489⟩, ⟨kk_ BK493⟩, (be_ HB)⟩
              ·rw [if_neg c36] at H
               have c36b0 : (!(t482 == t490) || (!(t483 == t491))) = false := by simpa using c36
               clear c36
               (first | rw [c36b0] | (simp only [i64_w, i32_w]; rw [c36b0]) | skip)
               by_cases c40 : t481 = x17_32
               ·rw [if_pos c40] at H
                have c40b0 : (t481 == x17_32) = true := beq_iff_eq.mpr c40
                have c40b1 : (t481 != x17_32) = false := bne_eq_false_iff_eq.mpr c40
                clear c40
                replace H := Option.bind_eq_some_iff.mp H
                obtain ⟨t497, A410, H⟩ := H
                replace H : (if t497 = true then (ephemerislaw2_EclipseFinds.j4 kj32 x12_17 ji27 x17_32 (decide ((wrap64 (t485 - t484)) > 91000)) t481 t482 t483 t484 t485 t486 t487) else (ephemerislaw2_EclipseFinds.j4 kj32 x12_17 ji27 x17_32 true t481 t482 t483 t484 t485 t486 t487)) = some r := H
                have A41 := Aside0.mk A410
                clear A410
                by_cases c42 : t497 = true
                ·subst c42
                 have H1 : (ephemerislaw2_EclipseFinds.j4 kj32 x12_17 ji27 x17_32 (decide ((wrap64 (t485 - t484)) > 91000)) t481 t482 t483 t484 t485 t486 t487) = some r := by rw [if_pos rfl] at H; exact H
                 clear H
                 have H := H1
                 clear H1
                 have H' := Aside0.mk H
                 clear H
                 have hnb43 := NB489_493.out
                 have hnc43 := NB493_489.out
                 have hcz44_0 : wc.cell? ⟨gb489, 0, none⟩ = some (.int .i64 t481) := (blk_cell BK489.out 0).trans rfl
                 have hcz44_1 : wc.cell? ⟨gb489, 1, none⟩ = some (.int .i64 t482) := (blk_cell BK489.out 1).trans rfl
                 have hcz44_2 : wc.cell? ⟨gb489, 2, none⟩ = some (.int .i64 t483) := (blk_cell BK489.out 2).trans rfl
                 have hcz44_3 : wc.cell? ⟨gb489, 3, none⟩ = some (.int .i64 t484) := (blk_cell BK489.out 3).trans rfl
                 have hcz44_4 : wc.cell? ⟨gb489, 4, none⟩ = some (.int .i64 t485) := (blk_cell BK489.out 4).trans rfl
                 have hcz44_5 : wc.cell? ⟨gb489, 5, none⟩ = some (.int .i64 t486) := (blk_cell BK489.out 5).trans rfl
                 have hcz44_6 : wc.cell? ⟨gb489, 6, none⟩ = some (.int .i64 t487) := (blk_cell BK489.out 6).trans rfl
                 have hfz44_0 := blk_frozen BK489.out 0
                 have hfz44_1 := blk_frozen BK489.out 1
                 have hfz44_2 := blk_frozen BK489.out 2
                 have hfz44_3 := blk_frozen BK489.out 3
                 have hfz44_4 := blk_frozen BK489.out 4
                 have hfz44_5 := blk_frozen BK489.out 5
                 have hfz44_6 := blk_frozen BK489.out 6
                 have hcz45_0 : wc.cell? ⟨gb493, 0, none⟩ = some (.int .i64 t490) := (blk_cell BK493.out 0).trans rfl
                 have hcz45_1 : wc.cell? ⟨gb493, 1, none⟩ = some (.int .i64 t491) := (blk_cell BK493.out 1).trans rfl
                 have hfz45_0 := blk_frozen BK493.out 0
                 have hfz45_1 := blk_frozen BK493.out 1
                 go_wp2_with (first | (go_at_call 24; (with_reducible refine (ephemerisref2_Contains.calls t484 t485 t496 0 true _ A41.out).mono ?_); rintro e w46 ⟨rfl, hb⟩; replace BK489 := kb_ BK489 hb; replace BK493 := kb_ BK493 hb; replace HB := bs_ HB hb; (try clear hb); (try clear hb2); (try clear hk); (try clear hi); have hcz47_0 : w46.cell? ⟨gb489, 0, none⟩ = some (.int .i64 t481) := (blk_cell BK489.out 0).trans rfl; have hcz47_1 : w46.cell? ⟨gb489, 1, none⟩ = some (.int .i64 t482) := (blk_cell BK489.out 1).trans rfl; have hcz47_2 : w46.cell? ⟨gb489, 2, none⟩ = some (.int .i64 t483) := (blk_cell BK489.out 2).trans rfl; have hcz47_3 : w46.cell? ⟨gb489, 3, none⟩ = some (.int .i64 t484) := (blk_cell BK489.out 3).trans rfl; have hcz47_4 : w46.cell? ⟨gb489, 4, none⟩ = some (.int .i64 t485) := (blk_cell BK489.out 4).trans rfl; have hcz47_5 : w46.cell? ⟨gb489, 5, none⟩ = some (.int .i64 t486) := (blk_cell BK489.out 5).trans rfl; have hcz47_6 : w46.cell? ⟨gb489, 6, none⟩ = some (.int .i64 t487) := (blk_cell BK489.out 6).trans rfl; have hfz47_0 := blk_frozen BK489.out 0; have hfz47_1 := blk_frozen BK489.out 1; have hfz47_2 := blk_frozen BK489.out 2; have hfz47_3 := blk_frozen BK489.out 3; have hfz47_4 := blk_frozen BK489.out 4; have hfz47_5 := blk_frozen BK489.out 5; have hfz47_6 := blk_frozen BK489.out 6))
                 go_meet
                 case rel => exact ⟨_, (decide ((wrap64 (t485 - t484)) > 91000)), (by first | rfl | (simp; done) | (simp [*]; done)), H', ⟨by have := HJ6.out; have := HJ17.out; have := HJ28.out; have := HJ32.out; first | omega | exact Nat.le_refl _⟩, ⟨kk_ BK489⟩, ⟨kk_ BK493⟩, (be_ HB)⟩
                ·replace c42 := Bool.eq_false_iff.mpr c42
                 subst c42
                 have H1 : (ephemerislaw2_EclipseFinds.j4 kj32 x12_17 ji27 x17_32 true t481 t482 t483 t484 t485 t486 t487) = some r := by rw [if_neg (show ¬ (false = true) by decide)] at H; exact H
                 clear H
                 have H := H1
                 clear H1
                 have H' := Aside0.mk H
                 clear H
                 have hnb48 := NB489_493.out
                 have hnc48 := NB493_489.out
                 have hcz49_0 : wc.cell? ⟨gb489, 0, none⟩ = some (.int .i64 t481) := (blk_cell BK489.out 0).trans rfl
                 have hcz49_1 : wc.cell? ⟨gb489, 1, none⟩ = some (.int .i64 t482) := (blk_cell BK489.out 1).trans rfl
                 have hcz49_2 : wc.cell? ⟨gb489, 2, none⟩ = some (.int .i64 t483) := (blk_cell BK489.out 2).trans rfl
                 have hcz49_3 : wc.cell? ⟨gb489, 3, none⟩ = some (.int .i64 t484) := (blk_cell BK489.out 3).trans rfl
                 have hcz49_4 : wc.cell? ⟨gb489, 4, none⟩ = some (.int .i64 t485) := (blk_cell BK489.out 4).trans rfl
                 have hcz49_5 : wc.cell? ⟨gb489, 5, none⟩ = some (.int .i64 t486) := (blk_cell BK489.out 5).trans rfl
                 have hcz49_6 : wc.cell? ⟨gb489, 6, none⟩ = some (.int .i64 t487) := (blk_cell BK489.out 6).trans rfl
                 have hfz49_0 := blk_frozen BK489.out 0
                 have hfz49_1 := blk_frozen BK489.out 1
                 have hfz49_2 := blk_frozen BK489.out 2
                 have hfz49_3 := blk_frozen BK489.out 3
                 have hfz49_4 := blk_frozen BK489.out 4
                 have hfz49_5 := blk_frozen BK489.out 5
                 have hfz49_6 := blk_frozen BK489.out 6
                 have hcz50_0 : wc.cell? ⟨gb493, 0, none⟩ = some (.int .i64 t490) := (blk_cell BK493.out 0).trans rfl
                 have hcz50_1 : wc.cell? ⟨gb493, 1, none⟩ = some (.int .i64 t491) := (blk_cell BK493.out 1).trans rfl
                 have hfz50_0 := blk_frozen BK493.out 0
                 have hfz50_1 := blk_frozen BK493.out 1
                 go_wp2_with (first | (go_at_call 24; (with_reducible refine (ephemerisref2_Contains.calls t484 t485 t496 0 false _ A41.out).mono ?_); rintro e w51 ⟨rfl, hb⟩; replace BK489 := kb_ BK489 hb; replace BK493 := kb_ BK493 hb; replace HB := bs_ HB hb; (try clear hb); (try clear hb2); (try clear hk); (try clear hi)))
                 go_meet
                 case rel => exact ⟨_, (true), (by first | rfl | (simp; done) | (simp [*]; done)), H', ⟨by have := HJ6.out; have := HJ17.out; have := HJ28.out; have := HJ32.out; first | omega | exact Nat.le_refl _⟩, ⟨kk_ BK489⟩, ⟨kk_ BK493⟩, (be_ HB)⟩
               ·rw [if_neg c40] at H
                have c40b0 : (t481 == x17_32) = false := beq_eq_false_iff_ne.mpr c40
                have c40b1 : (t481 != x17_32) = true := bne_iff_ne.mpr c40
                have H' := Aside0.mk H
                clear H
                have hnb52 := NB489_493.out
                have hnc52 := NB493_489.out
                have hcz53_0 : wc.cell? ⟨gb489, 0, none⟩ = some (.int .i64 t481) := (blk_cell BK489.out 0).trans rfl
                have hcz53_1 : wc.cell? ⟨gb489, 1, none⟩ = some (.int .i64 t482) := (blk_cell BK489.out 1).trans rfl
                have hcz53_2 : wc.cell? ⟨gb489, 2, none⟩ = some (.int .i64 t483) := (blk_cell BK489.out 2).trans rfl
                have hcz53_3 : wc.cell? ⟨gb489, 3, none⟩ = some (.int .i64 t484) := (blk_cell BK489.out 3).trans rfl
                have hcz53_4 : wc.cell? ⟨gb489, 4, none⟩ = some (.int .i64 t485) := (blk_cell BK489.out 4).trans rfl
                have hcz53_5 : wc.cell? ⟨gb489, 5, none⟩ = some (.int .i64 t486) := (blk_cell BK489.out 5).trans rfl
                have hcz53_6 : wc.cell? ⟨gb489, 6, none⟩ = some (.int .i64 t487) := (blk_cell BK489.out 6).trans rfl
                have hfz53_0 := blk_frozen BK489.out 0
                have hfz53_1 := blk_frozen BK489.out 1
                have hfz53_2 := blk_frozen BK489.out 2
                have hfz53_3 := blk_frozen BK489.out 3
                have hfz53_4 := blk_frozen BK489.out 4
                have hfz53_5 := blk_frozen BK489.out 5
                have hfz53_6 := blk_frozen BK489.out 6
                have hcz54_0 : wc.cell? ⟨gb493, 0, none⟩ = some (.int .i64 t490) := (blk_cell BK493.out 0).trans rfl
                have hcz54_1 : wc.cell? ⟨gb493, 1, none⟩ = some (.int .i64 t491) := (blk_cell BK493.out 1).trans rfl
                have hfz54_0 := blk_frozen BK493.out 0
                have hfz54_1 := blk_frozen BK493.out 1
                go_wp2
                go_meet
                case rel => exact ⟨_, (true), (by first | rfl | (simp; done) | (simp [*]; done)), H', ⟨by have := HJ6.out; have := HJ17.out; have := HJ28.out; have := HJ32.out; first | omega | exact Nat.le_refl _⟩, ⟨kk_ BK489⟩, ⟨kk_ BK493⟩, (be_ HB)⟩
             case rest =>
              clear HC35
              try clear c1
              try clear c2
              try clear p2
              try clear c3
              try clear c4
              try clear c5
              try clear c6
              try clear p6
              try clear c12
              try clear c12b0
              try clear c12b1
              try clear c13
              try clear c14
              try clear c14b0
              try clear c14b1
              try clear c17
              try clear c17b0
              try clear c17b1
              try clear c18
              try clear c21
              try clear c22
              try clear c23
              try clear c23b0
              try clear c23b1
              try clear c28
              try clear c28b0
              try clear c28b1
              try clear c32
              try clear c32b0
              try clear c34
              try clear c34b0
              try clear c36
              try clear c36b0
              try clear c37
              try clear c40
              try clear c40b0
              try clear c40b1
              try clear c42
              try clear c43
              try clear c48
              try clear c52
              try clear hcz11_0
              try clear hcz11_1
              try clear hcz11_2
              try clear hcz11_3
              try clear hcz11_4
              try clear hcz11_5
              try clear hcz11_6
              try clear hcz15_0
              try clear hcz15_1
              try clear hcz15_2
              try clear hcz15_3
              try clear hcz15_4
              try clear hcz15_5
              try clear hcz15_6
              try clear hcz22_0
              try clear hcz22_1
              try clear hcz38_0
              try clear hcz38_1
              try clear hcz38_2
              try clear hcz38_3
              try clear hcz38_4
              try clear hcz38_5
              try clear hcz38_6
              try clear hcz39_0
              try clear hcz39_1
              try clear hcz44_0
              try clear hcz44_1
              try clear hcz44_2
              try clear hcz44_3
              try clear hcz44_4
              try clear hcz44_5
              try clear hcz44_6
              try clear hcz45_0
              try clear hcz45_1
              try clear hcz47_0
              try clear hcz47_1
              try clear hcz47_2
              try clear hcz47_3
              try clear hcz47_4
              try clear hcz47_5
              try clear hcz47_6
              try clear hcz49_0
              try clear hcz49_1
              try clear hcz49_2
              try clear hcz49_3
              try clear hcz49_4
              try clear hcz49_5
              try clear hcz49_6
              try clear hcz50_0
              try clear hcz50_1
              try clear hcz53_0
              try clear hcz53_1
              try clear hcz53_2
              try clear hcz53_3
              try clear hcz53_4
              try clear hcz53_5
              try clear hcz53_6
              try clear hcz54_0
              try clear hcz54_1
              try clear hfz11_0
              try clear hfz11_1
              try clear hfz11_2
              try clear hfz11_3
              try clear hfz11_4
              try clear hfz11_5
              try clear hfz11_6
              try clear hfz15_0
              try clear hfz15_1
              try clear hfz15_2
              try clear hfz15_3
              try clear hfz15_4
              try clear hfz15_5
              try clear hfz15_6
              try clear hfz22_0
              try clear hfz22_1
              try clear hfz38_0
              try clear hfz38_1
              try clear hfz38_2
              try clear hfz38_3
              try clear hfz38_4
              try clear hfz38_5
              try clear hfz38_6
              try clear hfz39_0
              try clear hfz39_1
              try clear hfz44_0
              try clear hfz44_1
              try clear hfz44_2
              try clear hfz44_3
              try clear hfz44_4
              try clear hfz44_5
              try clear hfz44_6
              try clear hfz45_0
              try clear hfz45_1
              try clear hfz47_0
              try clear hfz47_1
              try clear hfz47_2
              try clear hfz47_3
              try clear hfz47_4
              try clear hfz47_5
              try clear hfz47_6
              try clear hfz49_0
              try clear hfz49_1
              try clear hfz49_2
              try clear hfz49_3
              try clear hfz49_4
              try clear hfz49_5
              try clear hfz49_6
              try clear hfz50_0
              try clear hfz50_1
              try clear hfz53_0
              try clear hfz53_1
              try clear hfz53_2
              try clear hfz53_3
              try clear hfz53_4
              try clear hfz53_5
              try clear hfz53_6
              try clear hfz54_0
              try clear hfz54_1
              try clear p2
              try clear p6
              obtain ⟨kq, x142_34, rfl, HA, HJ34, BK489, BK493, HB⟩ := hcut
              cases kq with
              | zero => exact absurd HA.out (by simp [ephemerislaw2_EclipseFinds.j4])
              | succ kj34 =>
               have H := HA.out
               clear HA
               simp only [ephemerislaw2_EclipseFinds.j4] at H
               by_cases c55 : x142_34 = true
               ·subst c55
                have H1 : (some false) = some r := by rw [if_pos rfl] at H; exact H
                clear H
                have H := H1
                clear H1
                obtain rfl := Option.some.inj H
                exact absurd hT (by decide)
               ·replace c55 := Bool.eq_false_iff.mpr c55
                subst c55
                have H1 : (if x17_32 = 0 then (some (t486 == 0 && (t487 == 0))) else (if x12_17 = 0 then (none) else (if (wrap64 (t486 * 1048576)) ≤ (wrap64 ((wrap64 ((wrap64 (Int.tdiv (wrap64 ((wrap64 (x12_17 * 1048576)) - ji27)) x12_17)) * 1000)) + 4096)) then (if (wrap64 ((wrap64 (Int.tdiv (wrap64 ((wrap64 (x12_17 * 1048576)) - ji27)) x12_17)) * 1000)) ≤ (wrap64 ((wrap64 (t487 * 1048576)) + 4096)) then (some (decide ((wrap64 (t487 - t486)) ≤ 80))) else (some false)) else (some false)))) = some r := by rw [if_neg (show ¬ (false = true) by decide)] at H; exact H
                clear H
                have H := H1
                clear H1
                by_cases c56 : x17_32 = 0
                ·rw [if_pos c56] at H
                 have c56b0 : (x17_32 == 0) = true := beq_iff_eq.mpr c56
                 have c56b1 : (x17_32 != 0) = false := bne_eq_false_iff_eq.mpr c56
                 clear c56
                 obtain rfl := Option.some.inj H
                 simp only [Option.some.injEq, Prod.mk.injEq] at H
                 obtain ⟨rfl⟩ := H
                 have hnb57 := NB489_493.out
                 have hnc57 := NB493_489.out
                 have hcz58_0 : wc.cell? ⟨gb489, 0, none⟩ = some (.int .i64 t481) := (blk_cell BK489.out 0).trans rfl
                 have hcz58_1 : wc.cell? ⟨gb489, 1, none⟩ = some (.int .i64 t482) := (blk_cell BK489.out 1).trans rfl
                 have hcz58_2 : wc.cell? ⟨gb489, 2, none⟩ = some (.int .i64 t483) := (blk_cell BK489.out 2).trans rfl
                 have hcz58_3 : wc.cell? ⟨gb489, 3, none⟩ = some (.int .i64 t484) := (blk_cell BK489.out 3).trans rfl
                 have hcz58_4 : wc.cell? ⟨gb489, 4, none⟩ = some (.int .i64 t485) := (blk_cell BK489.out 4).trans rfl
                 have hcz58_5 : wc.cell? ⟨gb489, 5, none⟩ = some (.int .i64 t486) := (blk_cell BK489.out 5).trans rfl
                 have hcz58_6 : wc.cell? ⟨gb489, 6, none⟩ = some (.int .i64 t487) := (blk_cell BK489.out 6).trans rfl
                 have hfz58_0 := blk_frozen BK489.out 0
                 have hfz58_1 := blk_frozen BK489.out 1
                 have hfz58_2 := blk_frozen BK489.out 2
                 have hfz58_3 := blk_frozen BK489.out 3
                 have hfz58_4 := blk_frozen BK489.out 4
                 have hfz58_5 := blk_frozen BK489.out 5
                 have hfz58_6 := blk_frozen BK489.out 6
                 go_wp2
                 go_ret
                 exact ⟨by first | rfl | (simp [errW_none, errW_some] <;> rfl) | (simp only [← hji27]; first | rfl | (simp [errW_none, errW_some] <;> rfl)) | (simp [*, errW_none, errW_some] <;> rfl), (be_ HB).out⟩
                ·rw [if_neg c56] at H
                 have c56b0 : (x17_32 == 0) = false := beq_eq_false_iff_ne.mpr c56
                 have c56b1 : (x17_32 != 0) = true := bne_iff_ne.mpr c56
                 by_cases c59 : x12_17 = 0
                 ·rw [if_pos c59] at H
                  exact absurd H (by simp)
                 ·rw [if_neg c59] at H
                  have c59b0 : (x12_17 == 0) = false := beq_eq_false_iff_ne.mpr c59
                  have c59b1 : (x12_17 != 0) = true := bne_iff_ne.mpr c59
                  by_cases c60 : (wrap64 (t486 * 1048576)) ≤ (wrap64 ((wrap64 ((wrap64 (Int.tdiv (wrap64 ((wrap64 (x12_17 * 1048576)) - ji27)) x12_17)) * 1000)) + 4096))
                  ·rw [if_pos c60] at H
                   have c60b0 : decide ((wrap64 (t486 * 1048576)) ≤ (wrap64 ((wrap64 ((wrap64 (Int.tdiv (wrap64 ((wrap64 (x12_17 * 1048576)) - ji27)) x12_17)) * 1000)) + 4096))) = true := decide_eq_true c60
                   clear c60
                   by_cases c61 : (wrap64 ((wrap64 (Int.tdiv (wrap64 ((wrap64 (x12_17 * 1048576)) - ji27)) x12_17)) * 1000)) ≤ (wrap64 ((wrap64 (t487 * 1048576)) + 4096))
                   ·rw [if_pos c61] at H
                    have c61b0 : decide ((wrap64 ((wrap64 (Int.tdiv (wrap64 ((wrap64 (x12_17 * 1048576)) - ji27)) x12_17)) * 1000)) ≤ (wrap64 ((wrap64 (t487 * 1048576)) + 4096))) = true := decide_eq_true c61
                    clear c61
                    obtain rfl := Option.some.inj H
                    simp only [Option.some.injEq, Prod.mk.injEq] at H
                    obtain ⟨rfl⟩ := H
                    have hnb62 := NB489_493.out
                    have hnc62 := NB493_489.out
                    have hcz63_0 : wc.cell? ⟨gb489, 0, none⟩ = some (.int .i64 t481) := (blk_cell BK489.out 0).trans rfl
                    have hcz63_1 : wc.cell? ⟨gb489, 1, none⟩ = some (.int .i64 t482) := (blk_cell BK489.out 1).trans rfl
                    have hcz63_2 : wc.cell? ⟨gb489, 2, none⟩ = some (.int .i64 t483) := (blk_cell BK489.out 2).trans rfl
                    have hcz63_3 : wc.cell? ⟨gb489, 3, none⟩ = some (.int .i64 t484) := (blk_cell BK489.out 3).trans rfl
                    have hcz63_4 : wc.cell? ⟨gb489, 4, none⟩ = some (.int .i64 t485) := (blk_cell BK489.out 4).trans rfl
                    have hcz63_5 : wc.cell? ⟨gb489, 5, none⟩ = some (.int .i64 t486) := (blk_cell BK489.out 5).trans rfl
                    have hcz63_6 : wc.cell? ⟨gb489, 6, none⟩ = some (.int .i64 t487) := (blk_cell BK489.out 6).trans rfl
                    have hfz63_0 := blk_frozen BK489.out 0
                    have hfz63_1 := blk_frozen BK489.out 1
                    have hfz63_2 := blk_frozen BK489.out 2
                    have hfz63_3 := blk_frozen BK489.out 3
                    have hfz63_4 := blk_frozen BK489.out 4
                    have hfz63_5 := blk_frozen BK489.out 5
                    have hfz63_6 := blk_frozen BK489.out 6
                    go_wp2
                    go_ret
                    exact ⟨by first | rfl | (simp [errW_none, errW_some] <;> rfl) | (simp only [← hji27]; first | rfl | (simp [errW_none, errW_some] <;> rfl)) | (simp [*, errW_none, errW_some] <;> rfl), (be_ HB).out⟩
                   ·rw [if_neg c61] at H
                    have c61b0 : decide ((wrap64 ((wrap64 (Int.tdiv (wrap64 ((wrap64 (x12_17 * 1048576)) - ji27)) x12_17)) * 1000)) ≤ (wrap64 ((wrap64 (t487 * 1048576)) + 4096))) = false := decide_eq_false c61
                    clear c61
                    obtain rfl := Option.some.inj H
                    exact absurd hT (by decide)
                  ·rw [if_neg c60] at H
                   have c60b0 : decide ((wrap64 (t486 * 1048576)) ≤ (wrap64 ((wrap64 ((wrap64 (Int.tdiv (wrap64 ((wrap64 (x12_17 * 1048576)) - ji27)) x12_17)) * 1000)) + 4096))) = false := decide_eq_false c60
                   clear c60
                   obtain rfl := Option.some.inj H
                   exact absurd hT (by decide)
        ·rw [if_neg c28] at H
         have c28b0 : (t488 == 0) = false := beq_eq_false_iff_ne.mpr c28
         have c28b1 : (t488 != 0) = true := bne_iff_ne.mpr c28
         by_cases c64 : t488 = 11
         ·rw [if_pos c64] at H
          have c64b0 : (t488 == 11) = true := beq_iff_eq.mpr c64
          have c64b1 : (t488 != 11) = false := bne_eq_false_iff_eq.mpr c64
          clear c64
          by_cases c65 : (t481 == 0 && ((t482 == 0 && (t483 == 0)) && ((t484 == 0 && (t485 == 0)) && ((t486 == 0 && (t487 == 0)))))) = true
          ·rw [if_pos c65] at H
           have c65b0 : (t481 == 0 && ((t482 == 0 && (t483 == 0)) && ((t484 == 0 && (t485 == 0)) && ((t486 == 0 && (t487 == 0)))))) = true := c65
           (try (have c65b1 : decide (t481 = 0 && ((t482 == 0 && (t483 == 0)) && ((t484 == 0 && (t485 == 0)) && ((t486 == 0 && (t487 == 0)))))) = true := by simpa using c65))
           (try (have c65b2 : (t481 == 0 && ((t482 == 0 && (t483 == 0)) && ((t484 == 0 && (t485 == 0)) && ((t486 == 0 && (t487 == 0)))))) = true := by simpa using c65))
           clear c65
           obtain ⟨ji66, hji66⟩ : ∃ j_ : Int, (mx (wrap64 ((ji27) - (wrap64 (x11_17 * 1048576)))) (wrap64 (-(wrap64 ((ji27) - (wrap64 (x11_17 * 1048576))))))) = j_ := ⟨_, rfl⟩
           replace H : (if (ji66) < 104857600000 then (some true) else (some (decide ((mx (wrap64 ((ji27) - (wrap64 (x12_17 * 1048576)))) (wrap64 (-(wrap64 ((ji27) - (wrap64 (x12_17 * 1048576))))))) < 104857600000)))) = some r := by first | (rw [hji66] at H; exact H) | (simp only [hji66] at H ⊢; exact H)
           (try rw [hji66] at A24)
           (try rw [hji66] at A25)
           (try rw [hji66] at A26)
           have hji66_ : (if (wrap64 ((ji27) - (wrap64 (x11_17 * 1048576)))) < (wrap64 (-(wrap64 ((ji27) - (wrap64 (x11_17 * 1048576)))))) then (wrap64 (-(wrap64 ((ji27) - (wrap64 (x11_17 * 1048576)))))) else (wrap64 ((ji27) - (wrap64 (x11_17 * 1048576))))) = ji66 := hji66
           by_cases c67 : (ji66) < 104857600000
           ·rw [if_pos c67] at H
            have c67b0 : decide ((ji66) < 104857600000) = true := decide_eq_true c67
            clear c67
            obtain rfl := Option.some.inj H
            simp only [Option.some.injEq, Prod.mk.injEq] at H
            obtain ⟨rfl⟩ := H
            try go_wp2
            replace BK489 := Aside0.mk (blk_drew BK489.out)
            replace BK493 := Aside0.mk (blk_drew BK493.out)
            replace HB := Aside0.mk (below_drew1 HB.out)
            refine start_ (n := 16) (S := fun w' => w'.cell? ⟨gb493, 0, none⟩ = some (.int .i64 t490) ∧ w'.cell? ⟨gb493, 1, none⟩ = some (.int .i64 t491)) (ds := []) #[false, false, false, false, false, false, false, false, false, false, false, false, false, false, false, false] (by kernel_rfl) rfl rfl ⟨(blk_cell BK493.out 0).trans rfl, (blk_cell BK493.out 1).trans rfl⟩ (fun hHeld => ?_); refine with_tabW ephemerislaw2_EclipseFinds.tab12 ephemerislaw2_EclipseFinds.bits12 (fun HT_ HW_ => ?_)
            generalize wc.drew = w68 at BK489 BK493 HB hHeld ⊢
            refine pure_ (i := 0) (N := some 58) (v := ?_) (a' := ?_) #[true, false, false, false, false, false, false, false, false, false, false, false, false, false, false, false] rfl rfl (any_of HT_.out (by kernel_rfl)) (fun _ _ _ h => h) (Or.inl ⟨by rfl, ?_⟩) ?_ ?_
            rotate_left
            ·intro w'
             go_simp
             with_reducible rfl
            rotate_left
            ·simp only [Act.put, List.setIfInBounds_toArray, List.set_cons_zero, List.set_cons_succ, i64_w, i32_w]
             rfl
            refine pure_ (i := 2) (N := some 60) (v := ?_) (a' := ?_) #[true, false, true, false, false, false, false, false, false, false, false, false, false, false, false, false] rfl rfl (any_of HT_.out (by kernel_rfl)) (fun _ _ _ h => h) (Or.inl ⟨by rfl, ?_⟩) ?_ ?_
            rotate_left
            ·intro w'
             go_simp
             with_reducible rfl
            rotate_left
            ·simp only [Act.put, List.setIfInBounds_toArray, List.set_cons_zero, List.set_cons_succ, i64_w, i32_w]
             rfl
            refine pure_ (i := 3) (N := some 61) (v := ?_) (a' := ?_) #[true, false, true, true, false, false, false, false, false, false, false, false, false, false, false, false] rfl rfl (any_of HT_.out (by kernel_rfl)) (fun _ _ _ h => h) (Or.inl ⟨by rfl, ?_⟩) ?_ ?_
            rotate_left
            ·intro w'
             go_simp
             with_reducible rfl
            rotate_left
            ·simp only [Act.put, List.setIfInBounds_toArray, List.set_cons_zero, List.set_cons_succ, i64_w, i32_w]
             rfl
            refine pure_ (i := 5) (N := some 63) (v := ?_) (a' := ?_) #[true, false, true, true, false, true, false, false, false, false, false, false, false, false, false, false] rfl rfl (any_of HT_.out (by kernel_rfl)) (fun _ _ _ h => h) (Or.inl ⟨by rfl, ?_⟩) ?_ ?_
            rotate_left
            ·intro w'
             go_simp
             with_reducible rfl
            rotate_left
            ·simp only [Act.put, List.setIfInBounds_toArray, List.set_cons_zero, List.set_cons_succ, i64_w, i32_w]
             rfl
            refine pure_ (i := 11) (N := some 69) (v := ?_) (a' := ?_) #[true, false, true, true, false, true, false, false, false, false, false, true, false, false, false, false] rfl rfl (any_of HT_.out (by kernel_rfl)) (fun _ _ _ h => h) (Or.inl ⟨by rfl, ?_⟩) ?_ ?_
            rotate_left
            ·intro w'
             go_simp
             with_reducible rfl
            rotate_left
            ·simp only [Act.put, List.setIfInBounds_toArray, List.set_cons_zero, List.set_cons_succ, i64_w, i32_w]
             rfl
            refine take_ (i := 1) (N := some 59) (v := ?_) (a' := ?_) #[true, true, true, true, false, true, false, false, false, false, false, true, false, false, false, false] rfl rfl (take_ofW HT_.out HW_.out (by kernel_rfl)) (fun _ _ _ h => h) (Or.inl ⟨by rfl, ?_⟩) hHeld ?_ ?_
            rotate_left
            ·rintro w' ⟨s0, s1⟩
             go_simp
             with_reducible rfl
            rotate_left
            ·simp only [Act.put, List.setIfInBounds_toArray, List.set_cons_zero, List.set_cons_succ, i64_w, i32_w]
             rfl
            refine take_ (i := 4) (N := some 62) (v := ?_) (a' := ?_) #[true, true, true, true, true, true, false, false, false, false, false, true, false, false, false, false] rfl rfl (take_ofW HT_.out HW_.out (by kernel_rfl)) (fun _ _ _ h => h) (Or.inl ⟨by rfl, ?_⟩) hHeld ?_ ?_
            rotate_left
            ·rintro w' ⟨s0, s1⟩
             go_simp
             with_reducible rfl
            rotate_left
            ·simp only [Act.put, List.setIfInBounds_toArray, List.set_cons_zero, List.set_cons_succ, i64_w, i32_w]
             rfl
            refine take_ (i := 6) (N := some 64) (v := ?_) (a' := ?_) #[true, true, true, true, true, true, true, false, false, false, false, true, false, false, false, false] rfl rfl (take_ofW HT_.out HW_.out (by kernel_rfl)) (fun _ _ _ h => h) (Or.inl ⟨by rfl, ?_⟩) hHeld ?_ ?_
            rotate_left
            ·rintro w' ⟨s0, s1⟩
             go_simp
             with_reducible rfl
            rotate_left
            ·simp only [Act.put, List.setIfInBounds_toArray, List.set_cons_zero, List.set_cons_succ, i64_w, i32_w]
             rfl
            refine pure_ (i := 7) (N := some 65) (v := ?_) (a' := ?_) #[true, true, true, true, true, true, true, true, false, false, false, true, false, false, false, false] rfl rfl (any_of HT_.out (by kernel_rfl)) (fun _ _ _ h => h) (Or.inl ⟨by rfl, ?_⟩) ?_ ?_
            rotate_left
            ·intro w'
             go_simp
             with_reducible rfl
            rotate_left
            ·simp only [Act.put, List.setIfInBounds_toArray, List.set_cons_zero, List.set_cons_succ, i64_w, i32_w]
             rfl
            refine pure_ (i := 8) (N := some 66) (v := ?_) (a' := ?_) #[true, true, true, true, true, true, true, true, true, false, false, true, false, false, false, false] rfl rfl (any_of HT_.out (by kernel_rfl)) (fun _ _ _ h => h) (Or.inl ⟨by rfl, ?_⟩) ?_ ?_
            rotate_left
            ·intro w'
             go_simp
             with_reducible rfl
            rotate_left
            ·simp only [Act.put, List.setIfInBounds_toArray, List.set_cons_zero, List.set_cons_succ, i64_w, i32_w]
             rfl
            refine one_ (i := 9) (N := some 67) #[true, true, true, true, true, true, true, true, true, true, false, true, false, false, false, false] rfl rfl (one_of HT_.out (by kernel_rfl)) (by decide) (fun K hK => ?_)
            refine goes_ Try.func14 (by kernel_rfl) rfl #[.int .i64 a2, .int .i64 (wrap64 ((wrap64 (t491 - t490)) + 1))] (by rfl) rfl rfl (by (try simp only [List.map_toArray, List.map_cons, List.map_nil]); first | done | rfl | (simp only [List.length_drop, List.length_take]; rfl)) ?_
            with_reducible refine (ephemerislaw2_at.calls a2 (wrap64 ((wrap64 (t491 - t490)) + 1)) t494 _ A24.out).mono ?_
            rintro e w' ⟨rfl, ⟨nd, rfl⟩⟩
            refine ⟨_, rfl, ?_⟩
            refine hK.out _ _ ⟨(blk_cell BK493.out 0).trans rfl, (blk_cell BK493.out 1).trans rfl⟩ (fun hHeld => ?_)
            clear hK K
            refine norm_ (a' := ?_) ?_ ?_
            rotate_left
            ·show Act.put _ (some 67) _ = _
             simp only [Act.put, List.setIfInBounds_toArray, List.set_cons_zero, List.set_cons_succ, i64_w, i32_w]
             rfl
            refine pure_ (i := 10) (N := some 68) (v := ?_) (a' := ?_) #[true, true, true, true, true, true, true, true, true, true, true, true, false, false, false, false] rfl rfl (any_of HT_.out (by kernel_rfl)) (fun _ _ _ h => h) (Or.inl ⟨by rfl, ?_⟩) ?_ ?_
            rotate_left
            ·intro w'
             go_simp
             with_reducible rfl
            rotate_left
            ·simp only [Act.put, List.setIfInBounds_toArray, List.set_cons_zero, List.set_cons_succ, i64_w, i32_w]
             rfl
            refine one_ (i := 12) (N := some 70) #[true, true, true, true, true, true, true, true, true, true, true, true, true, false, false, false] rfl rfl (one_of HT_.out (by kernel_rfl)) (by decide) (fun K hK => ?_)
            refine goes_ Try.func14 (by kernel_rfl) rfl #[.int .i64 a2, .int .i64 17] (by rfl) rfl rfl (by (try simp only [List.map_toArray, List.map_cons, List.map_nil]); first | done | rfl | (simp only [List.length_drop, List.length_take]; rfl)) ?_
            with_reducible refine (ephemerislaw2_at.calls a2 17 t495 _ A25.out).mono ?_
            rintro e w' ⟨rfl, ⟨nd, rfl⟩⟩
            refine ⟨_, rfl, ?_⟩
            refine hK.out _ _ ⟨(blk_cell BK493.out 0).trans rfl, (blk_cell BK493.out 1).trans rfl⟩ (fun hHeld => ?_)
            clear hK K
            refine norm_ (a' := ?_) ?_ ?_
            rotate_left
            ·show Act.put _ (some 70) _ = _
             simp only [Act.put, List.setIfInBounds_toArray, List.set_cons_zero, List.set_cons_succ, i64_w, i32_w]
             rfl
            refine pure_ (i := 13) (N := some 71) (v := ?_) (a' := ?_) #[true, true, true, true, true, true, true, true, true, true, true, true, true, true, false, false] rfl rfl (any_of HT_.out (by kernel_rfl)) (fun _ _ _ h => h) (Or.inl ⟨by rfl, ?_⟩) ?_ ?_
            rotate_left
            ·intro w'
             go_simp
             with_reducible rfl
            rotate_left
            ·simp only [Act.put, List.setIfInBounds_toArray, List.set_cons_zero, List.set_cons_succ, i64_w, i32_w]
             rfl
            refine one_ (i := 14) (N := some 72) #[true, true, true, true, true, true, true, true, true, true, true, true, true, true, true, false] rfl rfl (one_of HT_.out (by kernel_rfl)) (by decide) (fun K hK => ?_)
            refine goes_ Try.func23 (by kernel_rfl) rfl #[.int .i64 (wrap64 (t490 + t494)), .int .i64 (wrap64 (t495 - 8))] (by rfl) rfl rfl (by (try simp only [List.map_toArray, List.map_cons, List.map_nil]); first | done | rfl | (simp only [List.length_drop, List.length_take]; rfl)) ?_
            with_reducible refine (ephemerisref2_MoonLat.calls kj17 (wrap64 (t490 + t494)) (wrap64 (t495 - 8)) t496 _ A26.out).mono ?_
            rintro e w69 ⟨rfl, hb⟩
            refine ⟨_, rfl, ?_⟩
            replace BK489 := kb_ BK489 hb
            replace BK493 := kb_ BK493 hb
            replace HB := bs_ HB hb
            (try clear hb)
            (try clear hb2)
            (try clear hk)
            (try clear hi)
            refine hK.out _ _ ⟨(blk_cell BK493.out 0).trans rfl, (blk_cell BK493.out 1).trans rfl⟩ (fun hHeld => ?_)
            clear hK K
            refine norm_ (a' := ?_) ?_ ?_
            rotate_left
            ·show Act.put _ (some 72) _ = _
             simp only [Act.put, List.setIfInBounds_toArray, List.set_cons_zero, List.set_cons_succ, i64_w, i32_w]
             rfl
            refine pure_ (i := 15) (N := some 13) (v := ?_) (a' := ?_) #[true, true, true, true, true, true, true, true, true, true, true, true, true, true, true, true] rfl rfl (any_of HT_.out (by kernel_rfl)) (fun _ _ _ h => h) (Or.inl ⟨by rfl, ?_⟩) ?_ ?_
            rotate_left
            ·intro w'
             go_simp
             with_reducible rfl
            rotate_left
            ·simp only [Act.put, List.setIfInBounds_toArray, List.set_cons_zero, List.set_cons_succ, i64_w, i32_w]
             rfl
            refine done_ (done_of HT_.out (by kernel_rfl)) ?_
            have hnb70 := NB489_493.out
            have hnc70 := NB493_489.out
            have hcz71_0 : w69.cell? ⟨gb489, 0, none⟩ = some (.int .i64 t481) := (blk_cell BK489.out 0).trans rfl
            have hcz71_1 : w69.cell? ⟨gb489, 1, none⟩ = some (.int .i64 t482) := (blk_cell BK489.out 1).trans rfl
            have hcz71_2 : w69.cell? ⟨gb489, 2, none⟩ = some (.int .i64 t483) := (blk_cell BK489.out 2).trans rfl
            have hcz71_3 : w69.cell? ⟨gb489, 3, none⟩ = some (.int .i64 t484) := (blk_cell BK489.out 3).trans rfl
            have hcz71_4 : w69.cell? ⟨gb489, 4, none⟩ = some (.int .i64 t485) := (blk_cell BK489.out 4).trans rfl
            have hcz71_5 : w69.cell? ⟨gb489, 5, none⟩ = some (.int .i64 t486) := (blk_cell BK489.out 5).trans rfl
            have hcz71_6 : w69.cell? ⟨gb489, 6, none⟩ = some (.int .i64 t487) := (blk_cell BK489.out 6).trans rfl
            have hfz71_0 := blk_frozen BK489.out 0
            have hfz71_1 := blk_frozen BK489.out 1
            have hfz71_2 := blk_frozen BK489.out 2
            have hfz71_3 := blk_frozen BK489.out 3
            have hfz71_4 := blk_frozen BK489.out 4
            have hfz71_5 := blk_frozen BK489.out 5
            have hfz71_6 := blk_frozen BK489.out 6
            try go_wp2
            go_ret
            exact ⟨by first | rfl | (simp [errW_none, errW_some] <;> rfl) | (simp only [← hji27, ← hji66]; first | rfl | (simp [errW_none, errW_some] <;> rfl)) | (simp [*, errW_none, errW_some] <;> rfl), (be_ HB).out⟩
           ·rw [if_neg c67] at H
            have c67b0 : decide ((ji66) < 104857600000) = false := decide_eq_false c67
            clear c67
            obtain ⟨ji72, hji72⟩ : ∃ j_ : Int, (mx (wrap64 ((ji27) - (wrap64 (x12_17 * 1048576)))) (wrap64 (-(wrap64 ((ji27) - (wrap64 (x12_17 * 1048576))))))) = j_ := ⟨_, rfl⟩
            replace H : (some (decide ((ji72) < 104857600000))) = some r := by first | (rw [hji72] at H; exact H) | (simp only [hji72] at H ⊢; exact H)
            (try rw [hji72] at A24)
            (try rw [hji72] at A25)
            (try rw [hji72] at A26)
            have hji72_ : (if (wrap64 ((ji27) - (wrap64 (x12_17 * 1048576)))) < (wrap64 (-(wrap64 ((ji27) - (wrap64 (x12_17 * 1048576)))))) then (wrap64 (-(wrap64 ((ji27) - (wrap64 (x12_17 * 1048576)))))) else (wrap64 ((ji27) - (wrap64 (x12_17 * 1048576))))) = ji72 := hji72
            obtain rfl := Option.some.inj H
            simp only [Option.some.injEq, Prod.mk.injEq] at H
            obtain ⟨rfl⟩ := H
            try go_wp2
            replace BK489 := Aside0.mk (blk_drew BK489.out)
            replace BK493 := Aside0.mk (blk_drew BK493.out)
            replace HB := Aside0.mk (below_drew1 HB.out)
            refine start_ (n := 16) (S := fun w' => w'.cell? ⟨gb493, 0, none⟩ = some (.int .i64 t490) ∧ w'.cell? ⟨gb493, 1, none⟩ = some (.int .i64 t491)) (ds := []) #[false, false, false, false, false, false, false, false, false, false, false, false, false, false, false, false] (by kernel_rfl) rfl rfl ⟨(blk_cell BK493.out 0).trans rfl, (blk_cell BK493.out 1).trans rfl⟩ (fun hHeld => ?_); refine with_tabW ephemerislaw2_EclipseFinds.tab12 ephemerislaw2_EclipseFinds.bits12 (fun HT_ HW_ => ?_)
            generalize wc.drew = w73 at BK489 BK493 HB hHeld ⊢
            refine pure_ (i := 0) (N := some 58) (v := ?_) (a' := ?_) #[true, false, false, false, false, false, false, false, false, false, false, false, false, false, false, false] rfl rfl (any_of HT_.out (by kernel_rfl)) (fun _ _ _ h => h) (Or.inl ⟨by rfl, ?_⟩) ?_ ?_
            rotate_left
            ·intro w'
             go_simp
             with_reducible rfl
            rotate_left
            ·simp only [Act.put, List.setIfInBounds_toArray, List.set_cons_zero, List.set_cons_succ, i64_w, i32_w]
             rfl
            refine pure_ (i := 2) (N := some 60) (v := ?_) (a' := ?_) #[true, false, true, false, false, false, false, false, false, false, false, false, false, false, false, false] rfl rfl (any_of HT_.out (by kernel_rfl)) (fun _ _ _ h => h) (Or.inl ⟨by rfl, ?_⟩) ?_ ?_
            rotate_left
            ·intro w'
             go_simp
             with_reducible rfl
            rotate_left
            ·simp only [Act.put, List.setIfInBounds_toArray, List.set_cons_zero, List.set_cons_succ, i64_w, i32_w]
             rfl
            refine pure_ (i := 3) (N := some 61) (v := ?_) (a' := ?_) #[true, false, true, true, false, false, false, false, false, false, false, false, false, false, false, false] rfl rfl (any_of HT_.out (by kernel_rfl)) (fun _ _ _ h => h) (Or.inl ⟨by rfl, ?_⟩) ?_ ?_
            rotate_left
            ·intro w'
             go_simp
             with_reducible rfl
            rotate_left
            ·simp only [Act.put, List.setIfInBounds_toArray, List.set_cons_zero, List.set_cons_succ, i64_w, i32_w]
             rfl
            refine pure_ (i := 5) (N := some 63) (v := ?_) (a' := ?_) #[true, false, true, true, false, true, false, false, false, false, false, false, false, false, false, false] rfl rfl (any_of HT_.out (by kernel_rfl)) (fun _ _ _ h => h) (Or.inl ⟨by rfl, ?_⟩) ?_ ?_
            rotate_left
            ·intro w'
             go_simp
             with_reducible rfl
            rotate_left
            ·simp only [Act.put, List.setIfInBounds_toArray, List.set_cons_zero, List.set_cons_succ, i64_w, i32_w]
             rfl
            refine pure_ (i := 11) (N := some 69) (v := ?_) (a' := ?_) #[true, false, true, true, false, true, false, false, false, false, false, true, false, false, false, false] rfl rfl (any_of HT_.out (by kernel_rfl)) (fun _ _ _ h => h) (Or.inl ⟨by rfl, ?_⟩) ?_ ?_
            rotate_left
            ·intro w'
             go_simp
             with_reducible rfl
            rotate_left
            ·simp only [Act.put, List.setIfInBounds_toArray, List.set_cons_zero, List.set_cons_succ, i64_w, i32_w]
             rfl
            refine take_ (i := 1) (N := some 59) (v := ?_) (a' := ?_) #[true, true, true, true, false, true, false, false, false, false, false, true, false, false, false, false] rfl rfl (take_ofW HT_.out HW_.out (by kernel_rfl)) (fun _ _ _ h => h) (Or.inl ⟨by rfl, ?_⟩) hHeld ?_ ?_
            rotate_left
            ·rintro w' ⟨s0, s1⟩
             go_simp
             with_reducible rfl
            rotate_left
            ·simp only [Act.put, List.setIfInBounds_toArray, List.set_cons_zero, List.set_cons_succ, i64_w, i32_w]
             rfl
            refine take_ (i := 4) (N := some 62) (v := ?_) (a' := ?_) #[true, true, true, true, true, true, false, false, false, false, false, true, false, false, false, false] rfl rfl (take_ofW HT_.out HW_.out (by kernel_rfl)) (fun _ _ _ h => h) (Or.inl ⟨by rfl, ?_⟩) hHeld ?_ ?_
            rotate_left
            ·rintro w' ⟨s0, s1⟩
             go_simp
             with_reducible rfl
            rotate_left
            ·simp only [Act.put, List.setIfInBounds_toArray, List.set_cons_zero, List.set_cons_succ, i64_w, i32_w]
             rfl
            refine take_ (i := 6) (N := some 64) (v := ?_) (a' := ?_) #[true, true, true, true, true, true, true, false, false, false, false, true, false, false, false, false] rfl rfl (take_ofW HT_.out HW_.out (by kernel_rfl)) (fun _ _ _ h => h) (Or.inl ⟨by rfl, ?_⟩) hHeld ?_ ?_
            rotate_left
            ·rintro w' ⟨s0, s1⟩
             go_simp
             with_reducible rfl
            rotate_left
            ·simp only [Act.put, List.setIfInBounds_toArray, List.set_cons_zero, List.set_cons_succ, i64_w, i32_w]
             rfl
            refine pure_ (i := 7) (N := some 65) (v := ?_) (a' := ?_) #[true, true, true, true, true, true, true, true, false, false, false, true, false, false, false, false] rfl rfl (any_of HT_.out (by kernel_rfl)) (fun _ _ _ h => h) (Or.inl ⟨by rfl, ?_⟩) ?_ ?_
            rotate_left
            ·intro w'
             go_simp
             with_reducible rfl
            rotate_left
            ·simp only [Act.put, List.setIfInBounds_toArray, List.set_cons_zero, List.set_cons_succ, i64_w, i32_w]
             rfl
            refine pure_ (i := 8) (N := some 66) (v := ?_) (a' := ?_) #[true, true, true, true, true, true, true, true, true, false, false, true, false, false, false, false] rfl rfl (any_of HT_.out (by kernel_rfl)) (fun _ _ _ h => h) (Or.inl ⟨by rfl, ?_⟩) ?_ ?_
            rotate_left
            ·intro w'
             go_simp
             with_reducible rfl
            rotate_left
            ·simp only [Act.put, List.setIfInBounds_toArray, List.set_cons_zero, List.set_cons_succ, i64_w, i32_w]
             rfl
            refine one_ (i := 9) (N := some 67) #[true, true, true, true, true, true, true, true, true, true, false, true, false, false, false, false] rfl rfl (one_of HT_.out (by kernel_rfl)) (by decide) (fun K hK => ?_)
            refine goes_ Try.func14 (by kernel_rfl) rfl #[.int .i64 a2, .int .i64 (wrap64 ((wrap64 (t491 - t490)) + 1))] (by rfl) rfl rfl (by (try simp only [List.map_toArray, List.map_cons, List.map_nil]); first | done | rfl | (simp only [List.length_drop, List.length_take]; rfl)) ?_
            with_reducible refine (ephemerislaw2_at.calls a2 (wrap64 ((wrap64 (t491 - t490)) + 1)) t494 _ A24.out).mono ?_
            rintro e w' ⟨rfl, ⟨nd, rfl⟩⟩
            refine ⟨_, rfl, ?_⟩
            refine hK.out _ _ ⟨(blk_cell BK493.out 0).trans rfl, (blk_cell BK493.out 1).trans rfl⟩ (fun hHeld => ?_)
            clear hK K
            refine norm_ (a' := ?_) ?_ ?_
            rotate_left
            ·show Act.put _ (some 67) _ = _
             simp only [Act.put, List.setIfInBounds_toArray, List.set_cons_zero, List.set_cons_succ, i64_w, i32_w]
             rfl
            refine pure_ (i := 10) (N := some 68) (v := ?_) (a' := ?_) #[true, true, true, true, true, true, true, true, true, true, true, true, false, false, false, false] rfl rfl (any_of HT_.out (by kernel_rfl)) (fun _ _ _ h => h) (Or.inl ⟨by rfl, ?_⟩) ?_ ?_
            rotate_left
            ·intro w'
             go_simp
             with_reducible rfl
            rotate_left
            ·simp only [Act.put, List.setIfInBounds_toArray, List.set_cons_zero, List.set_cons_succ, i64_w, i32_w]
             rfl
            refine one_ (i := 12) (N := some 70) #[true, true, true, true, true, true, true, true, true, true, true, true, true, false, false, false] rfl rfl (one_of HT_.out (by kernel_rfl)) (by decide) (fun K hK => ?_)
            refine goes_ Try.func14 (by kernel_rfl) rfl #[.int .i64 a2, .int .i64 17] (by rfl) rfl rfl (by (try simp only [List.map_toArray, List.map_cons, List.map_nil]); first | done | rfl | (simp only [List.length_drop, List.length_take]; rfl)) ?_
            with_reducible refine (ephemerislaw2_at.calls a2 17 t495 _ A25.out).mono ?_
            rintro e w' ⟨rfl, ⟨nd, rfl⟩⟩
            refine ⟨_, rfl, ?_⟩
            refine hK.out _ _ ⟨(blk_cell BK493.out 0).trans rfl, (blk_cell BK493.out 1).trans rfl⟩ (fun hHeld => ?_)
            clear hK K
            refine norm_ (a' := ?_) ?_ ?_
            rotate_left
            ·show Act.put _ (some 70) _ = _
             simp only [Act.put, List.setIfInBounds_toArray, List.set_cons_zero, List.set_cons_succ, i64_w, i32_w]
             rfl
            refine pure_ (i := 13) (N := some 71) (v := ?_) (a' := ?_) #[true, true, true, true, true, true, true, true, true, true, true, true, true, true, false, false] rfl rfl (any_of HT_.out (by kernel_rfl)) (fun _ _ _ h => h) (Or.inl ⟨by rfl, ?_⟩) ?_ ?_
            rotate_left
            ·intro w'
             go_simp
             with_reducible rfl
            rotate_left
            ·simp only [Act.put, List.setIfInBounds_toArray, List.set_cons_zero, List.set_cons_succ, i64_w, i32_w]
             rfl
            refine one_ (i := 14) (N := some 72) #[true, true, true, true, true, true, true, true, true, true, true, true, true, true, true, false] rfl rfl (one_of HT_.out (by kernel_rfl)) (by decide) (fun K hK => ?_)
            refine goes_ Try.func23 (by kernel_rfl) rfl #[.int .i64 (wrap64 (t490 + t494)), .int .i64 (wrap64 (t495 - 8))] (by rfl) rfl rfl (by (try simp only [List.map_toArray, List.map_cons, List.map_nil]); first | done | rfl | (simp only [List.length_drop, List.length_take]; rfl)) ?_
            with_reducible refine (ephemerisref2_MoonLat.calls kj17 (wrap64 (t490 + t494)) (wrap64 (t495 - 8)) t496 _ A26.out).mono ?_
            rintro e w74 ⟨rfl, hb⟩
            refine ⟨_, rfl, ?_⟩
            replace BK489 := kb_ BK489 hb
            replace BK493 := kb_ BK493 hb
            replace HB := bs_ HB hb
            (try clear hb)
            (try clear hb2)
            (try clear hk)
            (try clear hi)
            refine hK.out _ _ ⟨(blk_cell BK493.out 0).trans rfl, (blk_cell BK493.out 1).trans rfl⟩ (fun hHeld => ?_)
            clear hK K
            refine norm_ (a' := ?_) ?_ ?_
            rotate_left
            ·show Act.put _ (some 72) _ = _
             simp only [Act.put, List.setIfInBounds_toArray, List.set_cons_zero, List.set_cons_succ, i64_w, i32_w]
             rfl
            refine pure_ (i := 15) (N := some 13) (v := ?_) (a' := ?_) #[true, true, true, true, true, true, true, true, true, true, true, true, true, true, true, true] rfl rfl (any_of HT_.out (by kernel_rfl)) (fun _ _ _ h => h) (Or.inl ⟨by rfl, ?_⟩) ?_ ?_
            rotate_left
            ·intro w'
             go_simp
             with_reducible rfl
            rotate_left
            ·simp only [Act.put, List.setIfInBounds_toArray, List.set_cons_zero, List.set_cons_succ, i64_w, i32_w]
             rfl
            refine done_ (done_of HT_.out (by kernel_rfl)) ?_
            have hnb75 := NB489_493.out
            have hnc75 := NB493_489.out
            have hcz76_0 : w74.cell? ⟨gb489, 0, none⟩ = some (.int .i64 t481) := (blk_cell BK489.out 0).trans rfl
            have hcz76_1 : w74.cell? ⟨gb489, 1, none⟩ = some (.int .i64 t482) := (blk_cell BK489.out 1).trans rfl
            have hcz76_2 : w74.cell? ⟨gb489, 2, none⟩ = some (.int .i64 t483) := (blk_cell BK489.out 2).trans rfl
            have hcz76_3 : w74.cell? ⟨gb489, 3, none⟩ = some (.int .i64 t484) := (blk_cell BK489.out 3).trans rfl
            have hcz76_4 : w74.cell? ⟨gb489, 4, none⟩ = some (.int .i64 t485) := (blk_cell BK489.out 4).trans rfl
            have hcz76_5 : w74.cell? ⟨gb489, 5, none⟩ = some (.int .i64 t486) := (blk_cell BK489.out 5).trans rfl
            have hcz76_6 : w74.cell? ⟨gb489, 6, none⟩ = some (.int .i64 t487) := (blk_cell BK489.out 6).trans rfl
            have hfz76_0 := blk_frozen BK489.out 0
            have hfz76_1 := blk_frozen BK489.out 1
            have hfz76_2 := blk_frozen BK489.out 2
            have hfz76_3 := blk_frozen BK489.out 3
            have hfz76_4 := blk_frozen BK489.out 4
            have hfz76_5 := blk_frozen BK489.out 5
            have hfz76_6 := blk_frozen BK489.out 6
            try go_wp2
            go_ret
            exact ⟨by first | rfl | (simp [errW_none, errW_some] <;> rfl) | (simp only [← hji27, ← hji66, ← hji72]; first | rfl | (simp [errW_none, errW_some] <;> rfl)) | (simp [*, errW_none, errW_some] <;> rfl), (be_ HB).out⟩
          ·rw [if_neg c65] at H
           have c65b0 : (t481 == 0 && ((t482 == 0 && (t483 == 0)) && ((t484 == 0 && (t485 == 0)) && ((t486 == 0 && (t487 == 0)))))) = false := by simpa using c65
           (try (have c65b1 : decide (t481 = 0 && ((t482 == 0 && (t483 == 0)) && ((t484 == 0 && (t485 == 0)) && ((t486 == 0 && (t487 == 0)))))) = false := by simpa using c65))
           (try (have c65b2 : (t481 == 0 && ((t482 == 0 && (t483 == 0)) && ((t484 == 0 && (t485 == 0)) && ((t486 == 0 && (t487 == 0)))))) = false := by simpa using c65))
           (try (have c65b3 : ¬ (t481 = 0 && ((t482 == 0 && (t483 == 0)) && ((t484 == 0 && (t485 == 0)) && ((t486 == 0 && (t487 == 0)))))) := by simpa using c65))
           clear c65
           obtain rfl := Option.some.inj H
           exact absurd hT (by decide)
         ·rw [if_neg c64] at H
          have c64b0 : (t488 == 11) = false := beq_eq_false_iff_ne.mpr c64
          have c64b1 : (t488 != 11) = true := bne_iff_ne.mpr c64
          obtain rfl := Option.some.inj H
          exact absurd hT (by decide)
     ·rw [if_neg c17] at H
      have c17b0 : (t492 == 0) = false := beq_eq_false_iff_ne.mpr c17
      have c17b1 : (t492 != 0) = true := bne_iff_ne.mpr c17
      by_cases c77 : t488 = t492
      ·rw [if_pos c77] at H
       have c77b0 : (t488 == t492) = true := beq_iff_eq.mpr c77
       have c77b1 : (t488 != t492) = false := bne_eq_false_iff_eq.mpr c77
       clear c77
       obtain rfl := Option.some.inj H
       simp only [Option.some.injEq, Prod.mk.injEq] at H
       obtain ⟨rfl⟩ := H
       go_wp2_with (first | ((with_reducible refine gate_callee (f := 18) rfl ?_); refine goesL_ (some 43) rfl rfl Try.func18 (by kernel_rfl) rfl #[.int .i64 a0, .int .i64 a1] rfl (by (try simp only [List.map_toArray, List.map_cons, List.map_nil]); first | done | rfl | (simp only [List.length_drop, List.length_take]; rfl)) ?_; (with_reducible refine (phase_Find.calls kj6 a0 a1 t490 t491 t492 _ A16.out).mono ?_); rintro e w78 ⟨rfl, hb⟩; refine ⟨_, rfl, ?_⟩; replace BK489 := kb_ BK489 hb; replace HB := bs_ HB hb; (try clear hb); (try clear hb2); (try clear hk); (try clear hi)) | ((with_reducible refine gate_dst (N := 9) rfl ?_); (try (refine gate_guard (by rfl) ?_; dsimp only)); refine box_event ?hg (N := 9) ?hd (cs := #[.int .i64 0, .int .i64 0]) (t := 24) ?hr ?_; (case hd => rfl); (case hg => rfl); (case hr => first | (go_simp; done) | (go_simp; rfl)); intro gb493 hg w79 hbox hb; have BK493 := Aside0.mk (hbox); have GW493 := ge_ hg HB; have GE493 := ge_ hg HB; have NB489_493 := nl_ hg BK489; have NB493_489 := ng_ hg BK489; replace BK489 := kb_ BK489 hb; replace HB := bs_ HB hb; clear hb hbox hg; have hnb80 := NB493_489.out; have hnc80 := NB489_493.out; have hcz81_0 : w79.cell? ⟨gb493, 0, none⟩ = some (.int .i64 0) := (blk_cell BK493.out 0).trans rfl; have hcz81_1 : w79.cell? ⟨gb493, 1, none⟩ = some (.int .i64 0) := (blk_cell BK493.out 1).trans rfl; have hfz81_0 := blk_frozen BK493.out 0; have hfz81_1 := blk_frozen BK493.out 1; have hcz82_0 : w79.cell? ⟨gb489, 0, none⟩ = some (.int .i64 t481) := (blk_cell BK489.out 0).trans rfl; have hcz82_1 : w79.cell? ⟨gb489, 1, none⟩ = some (.int .i64 t482) := (blk_cell BK489.out 1).trans rfl; have hcz82_2 : w79.cell? ⟨gb489, 2, none⟩ = some (.int .i64 t483) := (blk_cell BK489.out 2).trans rfl; have hcz82_3 : w79.cell? ⟨gb489, 3, none⟩ = some (.int .i64 t484) := (blk_cell BK489.out 3).trans rfl; have hcz82_4 : w79.cell? ⟨gb489, 4, none⟩ = some (.int .i64 t485) := (blk_cell BK489.out 4).trans rfl; have hcz82_5 : w79.cell? ⟨gb489, 5, none⟩ = some (.int .i64 t486) := (blk_cell BK489.out 5).trans rfl; have hcz82_6 : w79.cell? ⟨gb489, 6, none⟩ = some (.int .i64 t487) := (blk_cell BK489.out 6).trans rfl; have hfz82_0 := blk_frozen BK489.out 0; have hfz82_1 := blk_frozen BK489.out 1; have hfz82_2 := blk_frozen BK489.out 2; have hfz82_3 := blk_frozen BK489.out 3; have hfz82_4 := blk_frozen BK489.out 4; have hfz82_5 := blk_frozen BK489.out 5; have hfz82_6 := blk_frozen BK489.out 6))
       go_ret
       exact ⟨by first | rfl | (simp [errW_none, errW_some] <;> rfl) | (simp [*, errW_none, errW_some] <;> rfl), (be_ HB).out⟩
      ·rw [if_neg c77] at H
       have c77b0 : (t488 == t492) = false := beq_eq_false_iff_ne.mpr c77
       have c77b1 : (t488 != t492) = true := bne_iff_ne.mpr c77
       obtain rfl := Option.some.inj H
       exact absurd hT (by decide)
 ·replace c5 := Bool.eq_false_iff.mpr c5
  subst c5
  have H1 : (some false) = some r := by rw [if_neg (show ¬ (false = true) by decide)] at H; exact H
  clear H
  have H := H1
  clear H1
  obtain rfl := Option.some.inj H
  exact absurd hT (by decide)
def ephemerislaw2_EclipseFinds.Pure : Prop := ∀ (a0 : Int) (a1 : Int) (a2 : Int), (Lit.int .i64 a0).wf = true → (Lit.int .i64 a1).wf = true → (Lit.int .i64 a2).wf = true → ∃ k, ephemerislaw2_EclipseFinds.f k a0 a1 a2 = some true
theorem ephemerislaw2_EclipseFinds.walk (P : ephemerislaw2_EclipseFinds.Pure) (a0 : Int) (a1 : Int) (a2 : Int) (w : World) (w0 : (Lit.int .i64 a0).wf = true) (w1 : (Lit.int .i64 a1).wf = true) (w2 : (Lit.int .i64 a2).wf = true) :
  Calls Try.prog 6 #[.int .i64 a0, .int .i64 a1, .int .i64 a2] w fun e w' => e = .returned (.bool true) ∧ Below w.heap.size w w' := by
 obtain ⟨k, h⟩ := P a0 a1 a2 w0 w1 w2
 refine (ephemerislaw2_EclipseFinds.calls k a0 a1 a2 true w h rfl).mono ?_
 rintro e w' ⟨rfl, hd⟩
 exact ⟨rfl, hd⟩
end Go.Proofs.Ytmahlfjnejbcnaa.PAll
