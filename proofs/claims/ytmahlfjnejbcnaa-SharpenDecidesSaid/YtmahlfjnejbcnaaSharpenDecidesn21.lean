/- Written by a program of this session: what one law needs. -/
import Derived.Test.YtmahlfjnejbcnaaSharpenDecidesn20
set_option linter.unusedSimpArgs false
set_option linter.unusedVariables false
section
namespace Go.Proofs.Ytmahlfjnejbcnaa.PAll
open Go.RowKit YtmahlfjnejbcnaaW.PrintWords YtmahlfjnejbcnaaW.PrintLast YtmahlfjnejbcnaaW.PrintMore More2
attribute [local go_sem] max2_int min2_int max_two min_two max_three min_three max_four min_four tdiv2e18_ tdiv1e18_ cellSS_  -- for this text's walks alone
def ephemerislaw2_SharpenDecides.f (k : Nat) (a0 : Int) (a1 : Int) (a2 : Int) (a3 : Int) : Option (Bool) := (ephemerislaw2_sharpenWorks.f k).bind fun t387 => (if t387 = true then ((sharpen_Decide.f k a0 a1 a2 a3).bind fun bt388 => ((season_Find.f k a0 a1).bind fun bt390 => ((phase_Find.f k a2 a3).bind fun bt394 => (if bt390.2.2 = 0 then (if bt394.2.2 = 0 then (if bt390.2.1 < bt394.1 then (if bt388.2 = 0 then (some (bt388.1 == (-1))) else (some false)) else (if bt390.1 > bt394.2.1 then (if bt388.2 = 0 then (some (bt388.1 == 1)) else (some false)) else (if bt388.2 = 11 then (if bt388.1 = 0 then (some true) else (if bt388.2 = 0 then (if bt388.1 = 1 then (if bt390.2.1 > bt394.1 then (some true) else (if bt388.1 = (-1) then (some (decide (bt390.1 < bt394.2.1))) else (some false))) else (if bt388.1 = (-1) then (some (decide (bt390.1 < bt394.2.1))) else (some false))) else (some false))) else (if bt388.2 = 0 then (if bt388.1 = 1 then (if bt390.2.1 > bt394.1 then (some true) else (if bt388.1 = (-1) then (some (decide (bt390.1 < bt394.2.1))) else (some false))) else (if bt388.1 = (-1) then (some (decide (bt390.1 < bt394.2.1))) else (some false))) else (some false))))) else (if bt388.2 = bt394.2.2 then (some (bt388.1 == 0)) else (some false))) else (if bt388.2 = bt390.2.2 then (some (bt388.1 == 0)) else (some false)))))) else (some false))
set_option maxHeartbeats 8000000 in
set_option maxRecDepth 100000 in
theorem ephemerislaw2_SharpenDecides.calls (k : Nat) (a0 : Int) (a1 : Int) (a2 : Int) (a3 : Int) (r : Bool) (w : World) (h : ephemerislaw2_SharpenDecides.f k a0 a1 a2 a3 = some r) (hT : r = true) :
  Calls Try.prog 5 #[.int .i64 a0, .int .i64 a1, .int .i64 a2, .int .i64 a3] w fun e w' => e = .returned (.bool r) ∧ Below w.heap.size w w' := by
 have hu24 := Try.underlying24
 have HB := Aside0.mk (Below.refl w.heap.size w)
 have H : ((ephemerislaw2_sharpenWorks.f k).bind fun t387 => (if t387 = true then ((sharpen_Decide.f k a0 a1 a2 a3).bind fun bt388 => ((season_Find.f k a0 a1).bind fun bt390 => ((phase_Find.f k a2 a3).bind fun bt394 => (if bt390.2.2 = 0 then (if bt394.2.2 = 0 then (if bt390.2.1 < bt394.1 then (if bt388.2 = 0 then (some (bt388.1 == (-1))) else (some false)) else (if bt390.1 > bt394.2.1 then (if bt388.2 = 0 then (some (bt388.1 == 1)) else (some false)) else (if bt388.2 = 11 then (if bt388.1 = 0 then (some true) else (if bt388.2 = 0 then (if bt388.1 = 1 then (if bt390.2.1 > bt394.1 then (some true) else (if bt388.1 = (-1) then (some (decide (bt390.1 < bt394.2.1))) else (some false))) else (if bt388.1 = (-1) then (some (decide (bt390.1 < bt394.2.1))) else (some false))) else (some false))) else (if bt388.2 = 0 then (if bt388.1 = 1 then (if bt390.2.1 > bt394.1 then (some true) else (if bt388.1 = (-1) then (some (decide (bt390.1 < bt394.2.1))) else (some false))) else (if bt388.1 = (-1) then (some (decide (bt390.1 < bt394.2.1))) else (some false))) else (some false))))) else (if bt388.2 = bt394.2.2 then (some (bt388.1 == 0)) else (some false))) else (if bt388.2 = bt390.2.2 then (some (bt388.1 == 0)) else (some false)))))) else (some false))) = some r := h
 clear h
 replace H := Option.bind_eq_some_iff.mp H
 obtain ⟨t387, A50, H⟩ := H
 replace H : (if t387 = true then ((sharpen_Decide.f k a0 a1 a2 a3).bind fun bt388 => ((season_Find.f k a0 a1).bind fun bt390 => ((phase_Find.f k a2 a3).bind fun bt394 => (if bt390.2.2 = 0 then (if bt394.2.2 = 0 then (if bt390.2.1 < bt394.1 then (if bt388.2 = 0 then (some (bt388.1 == (-1))) else (some false)) else (if bt390.1 > bt394.2.1 then (if bt388.2 = 0 then (some (bt388.1 == 1)) else (some false)) else (if bt388.2 = 11 then (if bt388.1 = 0 then (some true) else (if bt388.2 = 0 then (if bt388.1 = 1 then (if bt390.2.1 > bt394.1 then (some true) else (if bt388.1 = (-1) then (some (decide (bt390.1 < bt394.2.1))) else (some false))) else (if bt388.1 = (-1) then (some (decide (bt390.1 < bt394.2.1))) else (some false))) else (some false))) else (if bt388.2 = 0 then (if bt388.1 = 1 then (if bt390.2.1 > bt394.1 then (some true) else (if bt388.1 = (-1) then (some (decide (bt390.1 < bt394.2.1))) else (some false))) else (if bt388.1 = (-1) then (some (decide (bt390.1 < bt394.2.1))) else (some false))) else (some false))))) else (if bt388.2 = bt394.2.2 then (some (bt388.1 == 0)) else (some false))) else (if bt388.2 = bt390.2.2 then (some (bt388.1 == 0)) else (some false)))))) else (some false)) = some r := H
 have A5 := Aside0.mk A50
 clear A50
 by_cases c6 : t387 = true
 ·subst c6
  have H1 : ((sharpen_Decide.f k a0 a1 a2 a3).bind fun bt388 => ((season_Find.f k a0 a1).bind fun bt390 => ((phase_Find.f k a2 a3).bind fun bt394 => (if bt390.2.2 = 0 then (if bt394.2.2 = 0 then (if bt390.2.1 < bt394.1 then (if bt388.2 = 0 then (some (bt388.1 == (-1))) else (some false)) else (if bt390.1 > bt394.2.1 then (if bt388.2 = 0 then (some (bt388.1 == 1)) else (some false)) else (if bt388.2 = 11 then (if bt388.1 = 0 then (some true) else (if bt388.2 = 0 then (if bt388.1 = 1 then (if bt390.2.1 > bt394.1 then (some true) else (if bt388.1 = (-1) then (some (decide (bt390.1 < bt394.2.1))) else (some false))) else (if bt388.1 = (-1) then (some (decide (bt390.1 < bt394.2.1))) else (some false))) else (some false))) else (if bt388.2 = 0 then (if bt388.1 = 1 then (if bt390.2.1 > bt394.1 then (some true) else (if bt388.1 = (-1) then (some (decide (bt390.1 < bt394.2.1))) else (some false))) else (if bt388.1 = (-1) then (some (decide (bt390.1 < bt394.2.1))) else (some false))) else (some false))))) else (if bt388.2 = bt394.2.2 then (some (bt388.1 == 0)) else (some false))) else (if bt388.2 = bt390.2.2 then (some (bt388.1 == 0)) else (some false)))))) = some r := by rw [if_pos rfl] at H; exact H
  clear H
  have H := H1
  clear H1
  replace H := Option.bind_eq_some_iff.mp H
  obtain ⟨⟨t388, t389⟩, A70, H⟩ := H
  replace H : ((season_Find.f k a0 a1).bind fun bt390 => ((phase_Find.f k a2 a3).bind fun bt394 => (if bt390.2.2 = 0 then (if bt394.2.2 = 0 then (if bt390.2.1 < bt394.1 then (if t389 = 0 then (some (t388 == (-1))) else (some false)) else (if bt390.1 > bt394.2.1 then (if t389 = 0 then (some (t388 == 1)) else (some false)) else (if t389 = 11 then (if t388 = 0 then (some true) else (if t389 = 0 then (if t388 = 1 then (if bt390.2.1 > bt394.1 then (some true) else (if t388 = (-1) then (some (decide (bt390.1 < bt394.2.1))) else (some false))) else (if t388 = (-1) then (some (decide (bt390.1 < bt394.2.1))) else (some false))) else (some false))) else (if t389 = 0 then (if t388 = 1 then (if bt390.2.1 > bt394.1 then (some true) else (if t388 = (-1) then (some (decide (bt390.1 < bt394.2.1))) else (some false))) else (if t388 = (-1) then (some (decide (bt390.1 < bt394.2.1))) else (some false))) else (some false))))) else (if t389 = bt394.2.2 then (some (t388 == 0)) else (some false))) else (if t389 = bt390.2.2 then (some (t388 == 0)) else (some false))))) = some r := H
  have A7 := Aside0.mk A70
  clear A70
  replace H := Option.bind_eq_some_iff.mp H
  obtain ⟨⟨t390, t391, t392⟩, A80, H⟩ := H
  replace H : ((phase_Find.f k a2 a3).bind fun bt394 => (if t392 = 0 then (if bt394.2.2 = 0 then (if t391 < bt394.1 then (if t389 = 0 then (some (t388 == (-1))) else (some false)) else (if t390 > bt394.2.1 then (if t389 = 0 then (some (t388 == 1)) else (some false)) else (if t389 = 11 then (if t388 = 0 then (some true) else (if t389 = 0 then (if t388 = 1 then (if t391 > bt394.1 then (some true) else (if t388 = (-1) then (some (decide (t390 < bt394.2.1))) else (some false))) else (if t388 = (-1) then (some (decide (t390 < bt394.2.1))) else (some false))) else (some false))) else (if t389 = 0 then (if t388 = 1 then (if t391 > bt394.1 then (some true) else (if t388 = (-1) then (some (decide (t390 < bt394.2.1))) else (some false))) else (if t388 = (-1) then (some (decide (t390 < bt394.2.1))) else (some false))) else (some false))))) else (if t389 = bt394.2.2 then (some (t388 == 0)) else (some false))) else (if t389 = t392 then (some (t388 == 0)) else (some false)))) = some r := H
  have A8 := Aside0.mk A80
  clear A80
  replace H := Option.bind_eq_some_iff.mp H
  obtain ⟨⟨t394, t395, t396⟩, A90, H⟩ := H
  replace H : (if t392 = 0 then (if t396 = 0 then (if t391 < t394 then (if t389 = 0 then (some (t388 == (-1))) else (some false)) else (if t390 > t395 then (if t389 = 0 then (some (t388 == 1)) else (some false)) else (if t389 = 11 then (if t388 = 0 then (some true) else (if t389 = 0 then (if t388 = 1 then (if t391 > t394 then (some true) else (if t388 = (-1) then (some (decide (t390 < t395))) else (some false))) else (if t388 = (-1) then (some (decide (t390 < t395))) else (some false))) else (some false))) else (if t389 = 0 then (if t388 = 1 then (if t391 > t394 then (some true) else (if t388 = (-1) then (some (decide (t390 < t395))) else (some false))) else (if t388 = (-1) then (some (decide (t390 < t395))) else (some false))) else (some false))))) else (if t389 = t396 then (some (t388 == 0)) else (some false))) else (if t389 = t392 then (some (t388 == 0)) else (some false))) = some r := H
  have A9 := Aside0.mk A90
  clear A90
  have HC10 := Aside0.mk H
  clear H
  go_enter Try.func5, Try.ntmps5
  go_upto_if 37 with (first | ((with_reducible refine gate_callee (f := 10) rfl ?_); refine goesL_ (some 15) rfl rfl Try.func10 (by kernel_rfl) rfl #[] rfl (by (try simp only [List.map_toArray, List.map_cons, List.map_nil]); first | done | rfl | (simp only [List.length_drop, List.length_take]; rfl)) ?_; (with_reducible refine (ephemerislaw2_sharpenWorks.calls k  true _ A5.out rfl).mono ?_); rintro e w11 ⟨rfl, hb⟩; refine ⟨_, rfl, ?_⟩; have n0_ := Aside0.mk (below_step (by repeat (first | (with_reducible first | exact HB.out | apply below_alloc | apply pw_below_drewN | apply below_drew1) | exact HB.out)) hb); clear HB; have HB := n0_; clear n0_; (try clear hb); (try clear hb2); (try clear hk); (try clear hi)) | ((with_reducible refine gate_callee (f := 20) rfl ?_); refine goesL_ (some 22) rfl rfl Try.func20 (by kernel_rfl) rfl #[.int .i64 a0, .int .i64 a1, .int .i64 a2, .int .i64 a3] rfl (by (try simp only [List.map_toArray, List.map_cons, List.map_nil]); first | done | rfl | (simp only [List.length_drop, List.length_take]; rfl)) ?_; (with_reducible refine (sharpen_Decide.calls k a0 a1 a2 a3 t388 t389 _ A7.out).mono ?_); rintro e w12 ⟨rfl, hb⟩; refine ⟨_, rfl, ?_⟩; have n0_ := Aside0.mk (below_step (by repeat (first | (with_reducible first | exact HB.out | apply below_alloc | apply pw_below_drewN | apply below_drew1) | exact HB.out)) hb); clear HB; have HB := n0_; clear n0_; (try clear hb); (try clear hb2); (try clear hk); (try clear hi)) | ((with_reducible refine gate_callee (f := 12) rfl ?_); refine goesL_ (some 28) rfl rfl Try.func12 (by kernel_rfl) rfl #[.int .i64 a0, .int .i64 a1] rfl (by (try simp only [List.map_toArray, List.map_cons, List.map_nil]); first | done | rfl | (simp only [List.length_drop, List.length_take]; rfl)) ?_; (with_reducible refine (season_Find.calls k a0 a1 t390 t391 t392 _ A8.out).mono ?_); rintro e w13 ⟨rfl, hb⟩; refine ⟨_, rfl, ?_⟩; have n0_ := Aside0.mk (below_step (by repeat (first | (with_reducible first | exact HB.out | apply below_alloc | apply pw_below_drewN | apply below_drew1) | exact HB.out)) hb); clear HB; have HB := n0_; clear n0_; (try clear hb); (try clear hb2); (try clear hk); (try clear hi)) | ((with_reducible refine gate_dst (N := 11) rfl ?_); refine box_event ?hg (N := 11) ?hd (cs := #[.int .i64 0, .int .i64 0]) (t := 24) ?hr ?_; (case hd => rfl); (case hg => rfl); (case hr => first | (go_simp; done) | (go_simp; rfl)); intro gb393 hg w14 hbox hb; have n0_ := Aside0.mk (below_step (by repeat (first | (with_reducible first | exact HB.out | apply below_alloc | apply pw_below_drewN | apply below_drew1) | exact HB.out)) hb); have n1_ := Aside0.mk (hbox); have n2_ := Aside0.mk ((by rw [hg]; exact (below_size (by repeat (first | (with_reducible first | exact HB.out | apply below_alloc | apply pw_below_drewN | apply below_drew1) | exact HB.out))) : w.heap.size ≤ gb393)); have n3_ := Aside0.mk ((by rw [hg]; exact (below_size (by repeat (first | (with_reducible first | exact HB.out | apply below_alloc | apply pw_below_drewN | apply below_drew1) | exact HB.out))) : w.heap.size ≤ gb393)); clear HB; have HB := n0_; have BK393 := n1_; have GW393 := n2_; have GE393 := n3_; clear n0_ n1_ n2_ n3_; clear hb hbox hg; have hcz15_0 : w14.cell? ⟨gb393, 0, none⟩ = some (.int .i64 0) := (blk_cell BK393.out 0).trans rfl; have hcz15_1 : w14.cell? ⟨gb393, 1, none⟩ = some (.int .i64 0) := (blk_cell BK393.out 1).trans rfl; have hfz15_0 := blk_frozen BK393.out 0; have hfz15_1 := blk_frozen BK393.out 1) | ((with_reducible refine gate_callee (f := 18) rfl ?_); refine goesL_ (some 34) rfl rfl Try.func18 (by kernel_rfl) rfl #[.int .i64 a2, .int .i64 a3] rfl (by (try simp only [List.map_toArray, List.map_cons, List.map_nil]); first | done | rfl | (simp only [List.length_drop, List.length_take]; rfl)) ?_; (with_reducible refine (phase_Find.calls k a2 a3 t394 t395 t396 _ A9.out).mono ?_); rintro e w16 ⟨rfl, hb⟩; refine ⟨_, rfl, ?_⟩; have n0_ := Aside0.mk (blk_below (g := gb393) (o := .cells #[.int .i64 t390, .int .i64 t391] 24 (0, 0)) (by (with_reducible repeat (first | refine blk_drewN ?_ _ | refine blk_drew ?_ | refine blk_alloc ?_ _)); refine blk_put (cs := #[.int .i64 t390, .int .i64 0]) ?_ 1 _ rfl; (with_reducible repeat (first | refine blk_drewN ?_ _ | refine blk_drew ?_ | refine blk_alloc ?_ _)); refine blk_put (cs := #[.int .i64 0, .int .i64 0]) ?_ 0 _ rfl; (with_reducible repeat (first | refine blk_drewN ?_ _ | refine blk_drew ?_ | refine blk_alloc ?_ _)); exact BK393.out) hb); have n1_ := Aside0.mk (below_step (by repeat (first | (with_reducible first | exact HB.out | apply below_alloc | apply pw_below_drewN | apply below_drew1 | refine below_set ?_ GE393.out) | exact HB.out)) hb); clear BK393; clear HB; have BK393 := n0_; have HB := n1_; clear n0_ n1_; (try clear hb); (try clear hb2); (try clear hk); (try clear hi)) | ((with_reducible refine gate_dst (N := 13) rfl ?_); refine box_event ?hg (N := 13) ?hd (cs := #[.int .i64 0, .int .i64 0]) (t := 24) ?hr ?_; (case hd => rfl); (case hg => rfl); (case hr => first | (go_simp; done) | (go_simp; rfl)); intro gb397 hg w17 hbox hb; have n0_ := Aside0.mk (blk_below (g := gb393) (o := .cells #[.int .i64 t390, .int .i64 t391] 24 (0, 0)) (by (with_reducible repeat (first | refine blk_drewN ?_ _ | refine blk_drew ?_ | refine blk_alloc ?_ _)); exact BK393.out) hb); have n1_ := Aside0.mk (below_step (by repeat (first | (with_reducible first | exact HB.out | apply below_alloc | apply pw_below_drewN | apply below_drew1 | refine below_set ?_ GE393.out) | exact HB.out)) hb); have n2_ := Aside0.mk (hbox); have n3_ := Aside0.mk ((by rw [hg]; exact (below_size (by repeat (first | (with_reducible first | exact HB.out | apply below_alloc | apply pw_below_drewN | apply below_drew1 | refine below_set ?_ GE393.out) | exact HB.out))) : w.heap.size ≤ gb397)); have n4_ := Aside0.mk ((by rw [hg]; exact (below_size (by repeat (first | (with_reducible first | exact HB.out | apply below_alloc | apply pw_below_drewN | apply below_drew1 | refine below_set ?_ GE393.out) | exact HB.out))) : w.heap.size ≤ gb397)); have n5_ := Aside0.mk ((by rw [hg]; exact Nat.ne_of_lt (blk_lt (g := gb393) (o := .cells #[.int .i64 t390, .int .i64 t391] 24 (0, 0)) (by (with_reducible repeat (first | refine blk_drewN ?_ _ | refine blk_drew ?_ | refine blk_alloc ?_ _)); exact BK393.out)) : gb393 ≠ gb397)); have n6_ := Aside0.mk ((by rw [hg]; exact Nat.ne_of_gt (blk_lt (g := gb393) (o := .cells #[.int .i64 t390, .int .i64 t391] 24 (0, 0)) (by (with_reducible repeat (first | refine blk_drewN ?_ _ | refine blk_drew ?_ | refine blk_alloc ?_ _)); exact BK393.out)) : gb397 ≠ gb393)); clear BK393; clear HB; have BK393 := n0_; have HB := n1_; have BK397 := n2_; have GW397 := n3_; have GE397 := n4_; have NB393_397 := n5_; have NB397_393 := n6_; clear n0_ n1_ n2_ n3_ n4_ n5_ n6_; clear hb hbox hg; have hnb18 := NB397_393.out; have hnc18 := NB393_397.out; have hcz19_0 : w17.cell? ⟨gb397, 0, none⟩ = some (.int .i64 0) := (blk_cell BK397.out 0).trans rfl; have hcz19_1 : w17.cell? ⟨gb397, 1, none⟩ = some (.int .i64 0) := (blk_cell BK397.out 1).trans rfl; have hfz19_0 := blk_frozen BK397.out 0; have hfz19_1 := blk_frozen BK397.out 1))
  (try simp only [Act.put, List.setIfInBounds_toArray, List.set_cons_zero, List.set_cons_succ])
  have H := HC10.out
  clear HC10
  by_cases c20 : t392 = 0
  ·rw [if_pos c20] at H
   have c20b0 : (t392 == 0) = true := beq_iff_eq.mpr c20
   have c20b1 : (t392 != 0) = false := bne_eq_false_iff_eq.mpr c20
   clear c20
   (first | rw [c20b0] | (simp only [i64_w, i32_w]; rw [c20b0]) | skip)
   by_cases c21 : t396 = 0
   ·rw [if_pos c21] at H
    have c21b0 : (t396 == 0) = true := beq_iff_eq.mpr c21
    have c21b1 : (t396 != 0) = false := bne_eq_false_iff_eq.mpr c21
    clear c21
    by_cases c22 : t391 < t394
    ·rw [if_pos c22] at H
     have c22b0 : decide (t391 < t394) = true := decide_eq_true c22
     clear c22
     by_cases c23 : t389 = 0
     ·rw [if_pos c23] at H
      have c23b0 : (t389 == 0) = true := beq_iff_eq.mpr c23
      have c23b1 : (t389 != 0) = false := bne_eq_false_iff_eq.mpr c23
      clear c23
      obtain rfl := Option.some.inj H
      simp only [Option.some.injEq, Prod.mk.injEq] at H
      obtain ⟨rfl⟩ := H
      have hnb24 := NB393_397.out
      have hnc24 := NB397_393.out
      have hcz25_0 : w17.cell? ⟨gb393, 0, none⟩ = some (.int .i64 t390) := (blk_cell BK393.out 0).trans rfl
      have hcz25_1 : w17.cell? ⟨gb393, 1, none⟩ = some (.int .i64 t391) := (blk_cell BK393.out 1).trans rfl
      have hfz25_0 := blk_frozen BK393.out 0
      have hfz25_1 := blk_frozen BK393.out 1
      have hcz26_0 : w17.cell? ⟨gb397, 0, none⟩ = some (.int .i64 0) := (blk_cell BK397.out 0).trans rfl
      have hcz26_1 : w17.cell? ⟨gb397, 1, none⟩ = some (.int .i64 0) := (blk_cell BK397.out 1).trans rfl
      have hfz26_0 := blk_frozen BK397.out 0
      have hfz26_1 := blk_frozen BK397.out 1
      go_wp2
      go_ret
      exact ⟨by first | rfl | (simp [errW_none, errW_some] <;> rfl) | (simp [*, errW_none, errW_some] <;> rfl), by repeat (first | (with_reducible first | exact HB.out | apply below_alloc | apply pw_below_drewN | apply below_drew1 | refine below_set ?_ GE393.out | refine below_set ?_ GE397.out) | exact HB.out)⟩
     ·rw [if_neg c23] at H
      have c23b0 : (t389 == 0) = false := beq_eq_false_iff_ne.mpr c23
      have c23b1 : (t389 != 0) = true := bne_iff_ne.mpr c23
      obtain rfl := Option.some.inj H
      exact absurd hT (by decide)
    ·rw [if_neg c22] at H
     have c22b0 : decide (t391 < t394) = false := decide_eq_false c22
     clear c22
     by_cases c27 : t390 > t395
     ·rw [if_pos c27] at H
      have c27b0 : decide (t395 < t390) = true := decide_eq_true c27
      clear c27
      by_cases c28 : t389 = 0
      ·rw [if_pos c28] at H
       have c28b0 : (t389 == 0) = true := beq_iff_eq.mpr c28
       have c28b1 : (t389 != 0) = false := bne_eq_false_iff_eq.mpr c28
       clear c28
       obtain rfl := Option.some.inj H
       simp only [Option.some.injEq, Prod.mk.injEq] at H
       obtain ⟨rfl⟩ := H
       have hnb29 := NB393_397.out
       have hnc29 := NB397_393.out
       have hcz30_0 : w17.cell? ⟨gb393, 0, none⟩ = some (.int .i64 t390) := (blk_cell BK393.out 0).trans rfl
       have hcz30_1 : w17.cell? ⟨gb393, 1, none⟩ = some (.int .i64 t391) := (blk_cell BK393.out 1).trans rfl
       have hfz30_0 := blk_frozen BK393.out 0
       have hfz30_1 := blk_frozen BK393.out 1
       have hcz31_0 : w17.cell? ⟨gb397, 0, none⟩ = some (.int .i64 0) := (blk_cell BK397.out 0).trans rfl
       have hcz31_1 : w17.cell? ⟨gb397, 1, none⟩ = some (.int .i64 0) := (blk_cell BK397.out 1).trans rfl
       have hfz31_0 := blk_frozen BK397.out 0
       have hfz31_1 := blk_frozen BK397.out 1
       go_wp2
       go_ret
       exact ⟨by first | rfl | (simp [errW_none, errW_some] <;> rfl) | (simp [*, errW_none, errW_some] <;> rfl), by repeat (first | (with_reducible first | exact HB.out | apply below_alloc | apply pw_below_drewN | apply below_drew1 | refine below_set ?_ GE393.out | refine below_set ?_ GE397.out) | exact HB.out)⟩
      ·rw [if_neg c28] at H
       have c28b0 : (t389 == 0) = false := beq_eq_false_iff_ne.mpr c28
       have c28b1 : (t389 != 0) = true := bne_iff_ne.mpr c28
       obtain rfl := Option.some.inj H
       exact absurd hT (by decide)
     ·rw [if_neg c27] at H
      have c27b0 : decide (t395 < t390) = false := decide_eq_false c27
      clear c27
      by_cases c32 : t389 = 11
      ·rw [if_pos c32] at H
       have c32b0 : (t389 == 11) = true := beq_iff_eq.mpr c32
       have c32b1 : (t389 != 11) = false := bne_eq_false_iff_eq.mpr c32
       clear c32
       by_cases c33 : t388 = 0
       ·rw [if_pos c33] at H
        have c33b0 : (t388 == 0) = true := beq_iff_eq.mpr c33
        have c33b1 : (t388 != 0) = false := bne_eq_false_iff_eq.mpr c33
        clear c33
        obtain rfl := Option.some.inj H
        simp only [Option.some.injEq, Prod.mk.injEq] at H
        obtain ⟨rfl⟩ := H
        have hnb34 := NB393_397.out
        have hnc34 := NB397_393.out
        have hcz35_0 : w17.cell? ⟨gb393, 0, none⟩ = some (.int .i64 t390) := (blk_cell BK393.out 0).trans rfl
        have hcz35_1 : w17.cell? ⟨gb393, 1, none⟩ = some (.int .i64 t391) := (blk_cell BK393.out 1).trans rfl
        have hfz35_0 := blk_frozen BK393.out 0
        have hfz35_1 := blk_frozen BK393.out 1
        have hcz36_0 : w17.cell? ⟨gb397, 0, none⟩ = some (.int .i64 0) := (blk_cell BK397.out 0).trans rfl
        have hcz36_1 : w17.cell? ⟨gb397, 1, none⟩ = some (.int .i64 0) := (blk_cell BK397.out 1).trans rfl
        have hfz36_0 := blk_frozen BK397.out 0
        have hfz36_1 := blk_frozen BK397.out 1
        go_wp2
        go_ret
        exact ⟨by first | rfl | (simp [errW_none, errW_some] <;> rfl) | (simp [*, errW_none, errW_some] <;> rfl), by repeat (first | (with_reducible first | exact HB.out | apply below_alloc | apply pw_below_drewN | apply below_drew1 | refine below_set ?_ GE393.out | refine below_set ?_ GE397.out) | exact HB.out)⟩
       ·rw [if_neg c33] at H
        have c33b0 : (t388 == 0) = false := beq_eq_false_iff_ne.mpr c33
        have c33b1 : (t388 != 0) = true := bne_iff_ne.mpr c33
        by_cases c37 : t389 = 0
        ·rw [if_pos c37] at H
         have c37b0 : (t389 == 0) = true := beq_iff_eq.mpr c37
         have c37b1 : (t389 != 0) = false := bne_eq_false_iff_eq.mpr c37
         clear c37
         by_cases c38 : t388 = 1
         ·rw [if_pos c38] at H
          have c38b0 : (t388 == 1) = true := beq_iff_eq.mpr c38
          have c38b1 : (t388 != 1) = false := bne_eq_false_iff_eq.mpr c38
          clear c38
          by_cases c39 : t391 > t394
          ·rw [if_pos c39] at H
           have c39b0 : decide (t394 < t391) = true := decide_eq_true c39
           clear c39
           obtain rfl := Option.some.inj H
           simp only [Option.some.injEq, Prod.mk.injEq] at H
           obtain ⟨rfl⟩ := H
           have hnb40 := NB393_397.out
           have hnc40 := NB397_393.out
           have hcz41_0 : w17.cell? ⟨gb393, 0, none⟩ = some (.int .i64 t390) := (blk_cell BK393.out 0).trans rfl
           have hcz41_1 : w17.cell? ⟨gb393, 1, none⟩ = some (.int .i64 t391) := (blk_cell BK393.out 1).trans rfl
           have hfz41_0 := blk_frozen BK393.out 0
           have hfz41_1 := blk_frozen BK393.out 1
           have hcz42_0 : w17.cell? ⟨gb397, 0, none⟩ = some (.int .i64 0) := (blk_cell BK397.out 0).trans rfl
           have hcz42_1 : w17.cell? ⟨gb397, 1, none⟩ = some (.int .i64 0) := (blk_cell BK397.out 1).trans rfl
           have hfz42_0 := blk_frozen BK397.out 0
           have hfz42_1 := blk_frozen BK397.out 1
           go_wp2
           all_goals (go_ret; exact ⟨by first | rfl | (simp [errW_none, errW_some] <;> rfl) | (simp [*, errW_none, errW_some] <;> rfl), by repeat (first | (with_reducible first | exact HB.out | apply below_alloc | apply pw_below_drewN | apply below_drew1 | refine below_set ?_ GE393.out | refine below_set ?_ GE397.out) | exact HB.out)⟩)
          ·rw [if_neg c39] at H
           have c39b0 : decide (t394 < t391) = false := decide_eq_false c39
           clear c39
           by_cases c43 : t388 = (-1)
           ·rw [if_pos c43] at H
            have c43b0 : (t388 == (-1)) = true := beq_iff_eq.mpr c43
            have c43b1 : (t388 != (-1)) = false := bne_eq_false_iff_eq.mpr c43
            clear c43
            obtain rfl := Option.some.inj H
            simp only [Option.some.injEq, Prod.mk.injEq] at H
            obtain ⟨rfl⟩ := H
            have hnb44 := NB393_397.out
            have hnc44 := NB397_393.out
            have hcz45_0 : w17.cell? ⟨gb393, 0, none⟩ = some (.int .i64 t390) := (blk_cell BK393.out 0).trans rfl
            have hcz45_1 : w17.cell? ⟨gb393, 1, none⟩ = some (.int .i64 t391) := (blk_cell BK393.out 1).trans rfl
            have hfz45_0 := blk_frozen BK393.out 0
            have hfz45_1 := blk_frozen BK393.out 1
            have hcz46_0 : w17.cell? ⟨gb397, 0, none⟩ = some (.int .i64 0) := (blk_cell BK397.out 0).trans rfl
            have hcz46_1 : w17.cell? ⟨gb397, 1, none⟩ = some (.int .i64 0) := (blk_cell BK397.out 1).trans rfl
            have hfz46_0 := blk_frozen BK397.out 0
            have hfz46_1 := blk_frozen BK397.out 1
            go_wp2
            all_goals (go_ret; exact ⟨by first | rfl | (simp [errW_none, errW_some] <;> rfl) | (simp [*, errW_none, errW_some] <;> rfl), by repeat (first | (with_reducible first | exact HB.out | apply below_alloc | apply pw_below_drewN | apply below_drew1 | refine below_set ?_ GE393.out | refine below_set ?_ GE397.out) | exact HB.out)⟩)
           ·rw [if_neg c43] at H
            have c43b0 : (t388 == (-1)) = false := beq_eq_false_iff_ne.mpr c43
            have c43b1 : (t388 != (-1)) = true := bne_iff_ne.mpr c43
            obtain rfl := Option.some.inj H
            exact absurd hT (by decide)
         ·rw [if_neg c38] at H
          have c38b0 : (t388 == 1) = false := beq_eq_false_iff_ne.mpr c38
          have c38b1 : (t388 != 1) = true := bne_iff_ne.mpr c38
          by_cases c47 : t388 = (-1)
          ·rw [if_pos c47] at H
           have c47b0 : (t388 == (-1)) = true := beq_iff_eq.mpr c47
           have c47b1 : (t388 != (-1)) = false := bne_eq_false_iff_eq.mpr c47
           clear c47
           obtain rfl := Option.some.inj H
           simp only [Option.some.injEq, Prod.mk.injEq] at H
           obtain ⟨rfl⟩ := H
           have hnb48 := NB393_397.out
           have hnc48 := NB397_393.out
           have hcz49_0 : w17.cell? ⟨gb393, 0, none⟩ = some (.int .i64 t390) := (blk_cell BK393.out 0).trans rfl
           have hcz49_1 : w17.cell? ⟨gb393, 1, none⟩ = some (.int .i64 t391) := (blk_cell BK393.out 1).trans rfl
           have hfz49_0 := blk_frozen BK393.out 0
           have hfz49_1 := blk_frozen BK393.out 1
           have hcz50_0 : w17.cell? ⟨gb397, 0, none⟩ = some (.int .i64 0) := (blk_cell BK397.out 0).trans rfl
           have hcz50_1 : w17.cell? ⟨gb397, 1, none⟩ = some (.int .i64 0) := (blk_cell BK397.out 1).trans rfl
           have hfz50_0 := blk_frozen BK397.out 0
           have hfz50_1 := blk_frozen BK397.out 1
           go_wp2
           all_goals (go_ret; exact ⟨by first | rfl | (simp [errW_none, errW_some] <;> rfl) | (simp [*, errW_none, errW_some] <;> rfl), by repeat (first | (with_reducible first | exact HB.out | apply below_alloc | apply pw_below_drewN | apply below_drew1 | refine below_set ?_ GE393.out | refine below_set ?_ GE397.out) | exact HB.out)⟩)
          ·rw [if_neg c47] at H
           have c47b0 : (t388 == (-1)) = false := beq_eq_false_iff_ne.mpr c47
           have c47b1 : (t388 != (-1)) = true := bne_iff_ne.mpr c47
           obtain rfl := Option.some.inj H
           exact absurd hT (by decide)
        ·rw [if_neg c37] at H
         have c37b0 : (t389 == 0) = false := beq_eq_false_iff_ne.mpr c37
         have c37b1 : (t389 != 0) = true := bne_iff_ne.mpr c37
         obtain rfl := Option.some.inj H
         exact absurd hT (by decide)
      ·rw [if_neg c32] at H
       have c32b0 : (t389 == 11) = false := beq_eq_false_iff_ne.mpr c32
       have c32b1 : (t389 != 11) = true := bne_iff_ne.mpr c32
       by_cases c51 : t389 = 0
       ·rw [if_pos c51] at H
        have c51b0 : (t389 == 0) = true := beq_iff_eq.mpr c51
        have c51b1 : (t389 != 0) = false := bne_eq_false_iff_eq.mpr c51
        clear c51
        by_cases c52 : t388 = 1
        ·rw [if_pos c52] at H
         have c52b0 : (t388 == 1) = true := beq_iff_eq.mpr c52
         have c52b1 : (t388 != 1) = false := bne_eq_false_iff_eq.mpr c52
         clear c52
         by_cases c53 : t391 > t394
         ·rw [if_pos c53] at H
          have c53b0 : decide (t394 < t391) = true := decide_eq_true c53
          clear c53
          obtain rfl := Option.some.inj H
          simp only [Option.some.injEq, Prod.mk.injEq] at H
          obtain ⟨rfl⟩ := H
          have hnb54 := NB393_397.out
          have hnc54 := NB397_393.out
          have hcz55_0 : w17.cell? ⟨gb393, 0, none⟩ = some (.int .i64 t390) := (blk_cell BK393.out 0).trans rfl
          have hcz55_1 : w17.cell? ⟨gb393, 1, none⟩ = some (.int .i64 t391) := (blk_cell BK393.out 1).trans rfl
          have hfz55_0 := blk_frozen BK393.out 0
          have hfz55_1 := blk_frozen BK393.out 1
          have hcz56_0 : w17.cell? ⟨gb397, 0, none⟩ = some (.int .i64 0) := (blk_cell BK397.out 0).trans rfl
          have hcz56_1 : w17.cell? ⟨gb397, 1, none⟩ = some (.int .i64 0) := (blk_cell BK397.out 1).trans rfl
          have hfz56_0 := blk_frozen BK397.out 0
          have hfz56_1 := blk_frozen BK397.out 1
          go_wp2
          go_ret
          exact ⟨by first | rfl | (simp [errW_none, errW_some] <;> rfl) | (simp [*, errW_none, errW_some] <;> rfl), by repeat (first | (with_reducible first | exact HB.out | apply below_alloc | apply pw_below_drewN | apply below_drew1 | refine below_set ?_ GE393.out | refine below_set ?_ GE397.out) | exact HB.out)⟩
         ·rw [if_neg c53] at H
          have c53b0 : decide (t394 < t391) = false := decide_eq_false c53
          clear c53
          by_cases c57 : t388 = (-1)
          ·rw [if_pos c57] at H
           have c57b0 : (t388 == (-1)) = true := beq_iff_eq.mpr c57
           have c57b1 : (t388 != (-1)) = false := bne_eq_false_iff_eq.mpr c57
           clear c57
           obtain rfl := Option.some.inj H
           simp only [Option.some.injEq, Prod.mk.injEq] at H
           obtain ⟨rfl⟩ := H
           have hnb58 := NB393_397.out
           have hnc58 := NB397_393.out
           have hcz59_0 : w17.cell? ⟨gb393, 0, none⟩ = some (.int .i64 t390) := (blk_cell BK393.out 0).trans rfl
           have hcz59_1 : w17.cell? ⟨gb393, 1, none⟩ = some (.int .i64 t391) := (blk_cell BK393.out 1).trans rfl
           have hfz59_0 := blk_frozen BK393.out 0
           have hfz59_1 := blk_frozen BK393.out 1
           have hcz60_0 : w17.cell? ⟨gb397, 0, none⟩ = some (.int .i64 0) := (blk_cell BK397.out 0).trans rfl
           have hcz60_1 : w17.cell? ⟨gb397, 1, none⟩ = some (.int .i64 0) := (blk_cell BK397.out 1).trans rfl
           have hfz60_0 := blk_frozen BK397.out 0
           have hfz60_1 := blk_frozen BK397.out 1
           go_wp2
           all_goals (go_ret; exact ⟨by first | rfl | (simp [errW_none, errW_some] <;> rfl) | (simp [*, errW_none, errW_some] <;> rfl), by repeat (first | (with_reducible first | exact HB.out | apply below_alloc | apply pw_below_drewN | apply below_drew1 | refine below_set ?_ GE393.out | refine below_set ?_ GE397.out) | exact HB.out)⟩)
          ·rw [if_neg c57] at H
           have c57b0 : (t388 == (-1)) = false := beq_eq_false_iff_ne.mpr c57
           have c57b1 : (t388 != (-1)) = true := bne_iff_ne.mpr c57
           obtain rfl := Option.some.inj H
           exact absurd hT (by decide)
        ·rw [if_neg c52] at H
         have c52b0 : (t388 == 1) = false := beq_eq_false_iff_ne.mpr c52
         have c52b1 : (t388 != 1) = true := bne_iff_ne.mpr c52
         by_cases c61 : t388 = (-1)
         ·rw [if_pos c61] at H
          have c61b0 : (t388 == (-1)) = true := beq_iff_eq.mpr c61
          have c61b1 : (t388 != (-1)) = false := bne_eq_false_iff_eq.mpr c61
          clear c61
          obtain rfl := Option.some.inj H
          simp only [Option.some.injEq, Prod.mk.injEq] at H
          obtain ⟨rfl⟩ := H
          have hnb62 := NB393_397.out
          have hnc62 := NB397_393.out
          have hcz63_0 : w17.cell? ⟨gb393, 0, none⟩ = some (.int .i64 t390) := (blk_cell BK393.out 0).trans rfl
          have hcz63_1 : w17.cell? ⟨gb393, 1, none⟩ = some (.int .i64 t391) := (blk_cell BK393.out 1).trans rfl
          have hfz63_0 := blk_frozen BK393.out 0
          have hfz63_1 := blk_frozen BK393.out 1
          have hcz64_0 : w17.cell? ⟨gb397, 0, none⟩ = some (.int .i64 0) := (blk_cell BK397.out 0).trans rfl
          have hcz64_1 : w17.cell? ⟨gb397, 1, none⟩ = some (.int .i64 0) := (blk_cell BK397.out 1).trans rfl
          have hfz64_0 := blk_frozen BK397.out 0
          have hfz64_1 := blk_frozen BK397.out 1
          go_wp2
          go_ret
          exact ⟨by first | rfl | (simp [errW_none, errW_some] <;> rfl) | (simp [*, errW_none, errW_some] <;> rfl), by repeat (first | (with_reducible first | exact HB.out | apply below_alloc | apply pw_below_drewN | apply below_drew1 | refine below_set ?_ GE393.out | refine below_set ?_ GE397.out) | exact HB.out)⟩
         ·rw [if_neg c61] at H
          have c61b0 : (t388 == (-1)) = false := beq_eq_false_iff_ne.mpr c61
          have c61b1 : (t388 != (-1)) = true := bne_iff_ne.mpr c61
          obtain rfl := Option.some.inj H
          exact absurd hT (by decide)
       ·rw [if_neg c51] at H
        have c51b0 : (t389 == 0) = false := beq_eq_false_iff_ne.mpr c51
        have c51b1 : (t389 != 0) = true := bne_iff_ne.mpr c51
        obtain rfl := Option.some.inj H
        exact absurd hT (by decide)
   ·rw [if_neg c21] at H
    have c21b0 : (t396 == 0) = false := beq_eq_false_iff_ne.mpr c21
    have c21b1 : (t396 != 0) = true := bne_iff_ne.mpr c21
    by_cases c65 : t389 = t396
    ·rw [if_pos c65] at H
     have c65b0 : (t389 == t396) = true := beq_iff_eq.mpr c65
     have c65b1 : (t389 != t396) = false := bne_eq_false_iff_eq.mpr c65
     clear c65
     obtain rfl := Option.some.inj H
     simp only [Option.some.injEq, Prod.mk.injEq] at H
     obtain ⟨rfl⟩ := H
     go_wp2
     go_ret
     exact ⟨by first | rfl | (simp [errW_none, errW_some] <;> rfl) | (simp [*, errW_none, errW_some] <;> rfl), by repeat (first | (with_reducible first | exact HB.out | apply below_alloc | apply pw_below_drewN | apply below_drew1 | refine below_set ?_ GE393.out | refine below_set ?_ GE397.out) | exact HB.out)⟩
    ·rw [if_neg c65] at H
     have c65b0 : (t389 == t396) = false := beq_eq_false_iff_ne.mpr c65
     have c65b1 : (t389 != t396) = true := bne_iff_ne.mpr c65
     obtain rfl := Option.some.inj H
     exact absurd hT (by decide)
  ·rw [if_neg c20] at H
   have c20b0 : (t392 == 0) = false := beq_eq_false_iff_ne.mpr c20
   have c20b1 : (t392 != 0) = true := bne_iff_ne.mpr c20
   (first | rw [c20b0] | (simp only [i64_w, i32_w]; rw [c20b0]) | skip)
   by_cases c66 : t389 = t392
   ·rw [if_pos c66] at H
    have c66b0 : (t389 == t392) = true := beq_iff_eq.mpr c66
    have c66b1 : (t389 != t392) = false := bne_eq_false_iff_eq.mpr c66
    clear c66
    obtain rfl := Option.some.inj H
    simp only [Option.some.injEq, Prod.mk.injEq] at H
    obtain ⟨rfl⟩ := H
    go_wp2
    go_ret
    exact ⟨by first | rfl | (simp [errW_none, errW_some] <;> rfl) | (simp [*, errW_none, errW_some] <;> rfl), by repeat (first | (with_reducible first | exact HB.out | apply below_alloc | apply pw_below_drewN | apply below_drew1 | refine below_set ?_ GE393.out | refine below_set ?_ GE397.out) | exact HB.out)⟩
   ·rw [if_neg c66] at H
    have c66b0 : (t389 == t392) = false := beq_eq_false_iff_ne.mpr c66
    have c66b1 : (t389 != t392) = true := bne_iff_ne.mpr c66
    obtain rfl := Option.some.inj H
    exact absurd hT (by decide)
 ·replace c6 := Bool.eq_false_iff.mpr c6
  subst c6
  have H1 : (some false) = some r := by rw [if_neg (show ¬ (false = true) by decide)] at H; exact H
  clear H
  have H := H1
  clear H1
  obtain rfl := Option.some.inj H
  exact absurd hT (by decide)
def ephemerislaw2_SharpenDecides.Pure : Prop := ∀ (a0 : Int) (a1 : Int) (a2 : Int) (a3 : Int), (Lit.int .i64 a0).wf = true → (Lit.int .i64 a1).wf = true → (Lit.int .i64 a2).wf = true → (Lit.int .i64 a3).wf = true → ∃ k, ephemerislaw2_SharpenDecides.f k a0 a1 a2 a3 = some true
theorem ephemerislaw2_SharpenDecides.walk (P : ephemerislaw2_SharpenDecides.Pure) (a0 : Int) (a1 : Int) (a2 : Int) (a3 : Int) (w : World) (w0 : (Lit.int .i64 a0).wf = true) (w1 : (Lit.int .i64 a1).wf = true) (w2 : (Lit.int .i64 a2).wf = true) (w3 : (Lit.int .i64 a3).wf = true) :
  Calls Try.prog 5 #[.int .i64 a0, .int .i64 a1, .int .i64 a2, .int .i64 a3] w fun e w' => e = .returned (.bool true) ∧ Below w.heap.size w w' := by
 obtain ⟨k, h⟩ := P a0 a1 a2 a3 w0 w1 w2 w3
 refine (ephemerislaw2_SharpenDecides.calls k a0 a1 a2 a3 true w h rfl).mono ?_
 rintro e w' ⟨rfl, hd⟩
 exact ⟨rfl, hd⟩
end Go.Proofs.Ytmahlfjnejbcnaa.PAll
end
section
namespace Go.Proofs.Ytmahlfjnejbcnaa.PAll
open Go.RowKit YtmahlfjnejbcnaaW.PrintWords YtmahlfjnejbcnaaW.PrintLast YtmahlfjnejbcnaaW.PrintMore More2
attribute [local go_sem] max2_int min2_int max_two min_two max_three min_three max_four min_four tdiv2e18_ tdiv1e18_ cellSS_  -- for this text's walks alone
def ephemerisref2_Mod.f (a0 : Int) (a1 : Int) : Option (Int) := if a1 = 0 then (none) else (if (Int.tmod a0 a1) < 0 then (some (wrap64 ((Int.tmod a0 a1) + a1))) else (some (Int.tmod a0 a1)))
end Go.Proofs.Ytmahlfjnejbcnaa.PAll
end
section
namespace Go.Proofs.Ytmahlfjnejbcnaa.PAll
open Go.RowKit YtmahlfjnejbcnaaW.PrintWords YtmahlfjnejbcnaaW.PrintLast YtmahlfjnejbcnaaW.PrintMore More2
attribute [local go_sem] max2_int min2_int max_two min_two max_three min_three max_four min_four tdiv2e18_ tdiv1e18_ cellSS_  -- for this text's walks alone
mutual
def ephemerisref2_Arg.j0 : Nat → Int → Int → Bool → Option (Int)
 | 0, _, _, _ => none
 | k + 1, x0, x1, x5 => if x1 < 0 then (ephemerisref2_Arg.j1 k x0 (wrap64 (-x1)) x5) else (ephemerisref2_Arg.j1 k x0 x1 x5)
def ephemerisref2_Arg.j1 : Nat → Int → Int → Bool → Option (Int)
 | 0, _, _, _ => none
 | k + 1, x0, x1, x5 => ephemerisref2_Arg.l0 k x0 x1 x5 0 0 50
def ephemerisref2_Arg.l0 : Nat → Int → Int → Bool → Int → Int → Int → Option (Int)
 | 0, _, _, _, _, _, _ => none
 | k + 1, x0, x1, x5, x6, x7, x8 => if x8 ≥ 0 then (if 0 ≤ x8 then (if (Go.bits .and .i64 (shr .i64 x1 x8) 1) = 1 then (ephemerisref2_Arg.l0 k x0 x1 x5 (Int.tmod (wrap64 ((wrap64 (2 * x6)) + (wrap64 (Int.tdiv (wrap64 ((wrap64 (2 * x7)) + x0)) 86400000)))) 1000000000000000) (Int.tmod (wrap64 ((wrap64 (2 * x7)) + x0)) 86400000) (wrap64 (x8 - 1))) else (ephemerisref2_Arg.l0 k x0 x1 x5 (Int.tmod (wrap64 ((wrap64 (2 * x6)) + (wrap64 (Int.tdiv (wrap64 (2 * x7)) 86400000)))) 1000000000000000) (Int.tmod (wrap64 (2 * x7)) 86400000) (wrap64 (x8 - 1)))) else (none)) else (if x5 = true then (if x7 > 0 then ((ephemerisref2_Mod.f (wrap64 ((wrap64 (-x6)) - 1)) 1000000000000000).bind fun t266 => (some t266)) else ((ephemerisref2_Mod.f (wrap64 (-x6)) 1000000000000000).bind fun t267 => (some t267))) else ((ephemerisref2_Mod.f x6 1000000000000000).bind fun t268 => (some t268)))
end
def ephemerisref2_Arg.f (k : Nat) (a0 : Int) (a1 : Int) : Option (Int) := if a0 < 0 then (ephemerisref2_Arg.j0 k (wrap64 (-a0)) a1 ((decide (a0 < 0)) != (decide (a1 < 0)))) else (ephemerisref2_Arg.j0 k a0 a1 ((decide (a0 < 0)) != (decide (a1 < 0))))
end Go.Proofs.Ytmahlfjnejbcnaa.PAll
end
section
namespace Go.Proofs.Ytmahlfjnejbcnaa.PAll
open Go.RowKit YtmahlfjnejbcnaaW.PrintWords YtmahlfjnejbcnaaW.PrintLast YtmahlfjnejbcnaaW.PrintMore More2
attribute [local go_sem] max2_int min2_int max_two min_two max_three min_three max_four min_four tdiv2e18_ tdiv1e18_ cellSS_  -- for this text's walks alone
def ephemerisref2_Mul.f (a0 : Int) (a1 : Int) : Option (Int) := if a0 < 0 then (if a1 < 0 then (some (wrap64 ((-(-1)) * (wrap64 ((wrap64 (((wrap64 (-a0)) / 1073741824) * ((wrap64 (-a1)) / 1073741824))) + ((wrap64 ((wrap64 ((wrap64 (((wrap64 (-a0)) / 1073741824) * (Go.bits .and .i64 (wrap64 (-a1)) 1073741823))) + (wrap64 ((Go.bits .and .i64 (wrap64 (-a0)) 1073741823) * ((wrap64 (-a1)) / 1073741824))))) + ((wrap64 ((Go.bits .and .i64 (wrap64 (-a0)) 1073741823) * (Go.bits .and .i64 (wrap64 (-a1)) 1073741823))) / 1073741824))) / 1073741824)))))) else (some (wrap64 ((-1) * (wrap64 ((wrap64 (((wrap64 (-a0)) / 1073741824) * (a1 / 1073741824))) + ((wrap64 ((wrap64 ((wrap64 (((wrap64 (-a0)) / 1073741824) * (Go.bits .and .i64 a1 1073741823))) + (wrap64 ((Go.bits .and .i64 (wrap64 (-a0)) 1073741823) * (a1 / 1073741824))))) + ((wrap64 ((Go.bits .and .i64 (wrap64 (-a0)) 1073741823) * (Go.bits .and .i64 a1 1073741823))) / 1073741824))) / 1073741824))))))) else (if a1 < 0 then (some (wrap64 ((-1) * (wrap64 ((wrap64 ((a0 / 1073741824) * ((wrap64 (-a1)) / 1073741824))) + ((wrap64 ((wrap64 ((wrap64 ((a0 / 1073741824) * (Go.bits .and .i64 (wrap64 (-a1)) 1073741823))) + (wrap64 ((Go.bits .and .i64 a0 1073741823) * ((wrap64 (-a1)) / 1073741824))))) + ((wrap64 ((Go.bits .and .i64 a0 1073741823) * (Go.bits .and .i64 (wrap64 (-a1)) 1073741823))) / 1073741824))) / 1073741824)))))) else (some (wrap64 (1 * (wrap64 ((wrap64 ((a0 / 1073741824) * (a1 / 1073741824))) + ((wrap64 ((wrap64 ((wrap64 ((a0 / 1073741824) * (Go.bits .and .i64 a1 1073741823))) + (wrap64 ((Go.bits .and .i64 a0 1073741823) * (a1 / 1073741824))))) + ((wrap64 ((Go.bits .and .i64 a0 1073741823) * (Go.bits .and .i64 a1 1073741823))) / 1073741824))) / 1073741824)))))))
end Go.Proofs.Ytmahlfjnejbcnaa.PAll
end
section
namespace Go.Proofs.Ytmahlfjnejbcnaa.PAll
open Go.RowKit YtmahlfjnejbcnaaW.PrintWords YtmahlfjnejbcnaaW.PrintLast YtmahlfjnejbcnaaW.PrintMore More2
attribute [local go_sem] max2_int min2_int max_two min_two max_three min_three max_four min_four tdiv2e18_ tdiv1e18_ cellSS_  -- for this text's walks alone
def ephemerisref2_SinCos.l0 : Nat → Int → Int → Int → Option (Int × Int)
 | 0, _, _, _ => none
 | k + 1, x6, x7, x41 => if x41 < 12 then ((ephemerisref2_Mul.f x6 (wrap64 (1152921504606846976 - x7))).bind fun t275 => ((ephemerisref2_Mul.f x6 x6).bind fun t276 => (ephemerisref2_SinCos.l0 k (wrap64 (2 * t275)) (wrap64 (2 * t276)) (wrap64 (x41 + 1))))) else (some (x6, wrap64 (1152921504606846976 - x7)))
def ephemerisref2_SinCos.f (k : Nat) (a0 : Int) : Option (Int × Int) := (ephemerisref2_Mod.f a0 1000000000000000).bind fun t269 => ((ephemerisref2_Mul.f ((wrap64 ((wrap64 (t269 * 7244)) + (wrap64 (Int.tdiv (wrap64 ((wrap64 (Int.tdiv t269 1000000)) * 19458077)) 1000)))) / 4096) ((wrap64 ((wrap64 (t269 * 7244)) + (wrap64 (Int.tdiv (wrap64 ((wrap64 (Int.tdiv t269 1000000)) * 19458077)) 1000)))) / 4096)).bind fun t270 => ((ephemerisref2_Mul.f ((wrap64 ((wrap64 (t269 * 7244)) + (wrap64 (Int.tdiv (wrap64 ((wrap64 (Int.tdiv t269 1000000)) * 19458077)) 1000)))) / 4096) t270).bind fun t271 => ((ephemerisref2_Mul.f ((wrap64 ((wrap64 (t269 * 7244)) + (wrap64 (Int.tdiv (wrap64 ((wrap64 (Int.tdiv t269 1000000)) * 19458077)) 1000)))) / 4096) t270).bind fun t272 => ((ephemerisref2_Mul.f t272 t270).bind fun t273 => ((ephemerisref2_Mul.f t270 t270).bind fun t274 => (ephemerisref2_SinCos.l0 k (wrap64 ((wrap64 (((wrap64 ((wrap64 (t269 * 7244)) + (wrap64 (Int.tdiv (wrap64 ((wrap64 (Int.tdiv t269 1000000)) * 19458077)) 1000)))) / 4096) - (wrap64 (Int.tdiv t271 6)))) + (wrap64 (Int.tdiv t273 120)))) (wrap64 ((wrap64 (Int.tdiv t270 2)) - (wrap64 (Int.tdiv t274 24)))) 0))))))
end Go.Proofs.Ytmahlfjnejbcnaa.PAll
end
section
namespace Go.Proofs.Ytmahlfjnejbcnaa.PAll
open Go.RowKit YtmahlfjnejbcnaaW.PrintWords YtmahlfjnejbcnaaW.PrintLast YtmahlfjnejbcnaaW.PrintMore More2
attribute [local go_sem] max2_int min2_int max_two min_two max_three min_three max_four min_four tdiv2e18_ tdiv1e18_ cellSS_  -- for this text's walks alone
def ephemerisref2_Part.f (a0 : Int) (a1 : Int) : Option (Int) := if a1 < 0 then (some (wrap64 ((-1) * ((wrap64 ((wrap64 (a0 * ((wrap64 (-a1)) / 1073741824))) + ((wrap64 (a0 * (Go.bits .and .i64 (wrap64 (-a1)) 1073741823))) / 1073741824))) / 1024)))) else (some (wrap64 (1 * ((wrap64 ((wrap64 (a0 * (a1 / 1073741824))) + ((wrap64 (a0 * (Go.bits .and .i64 a1 1073741823))) / 1073741824))) / 1024))))
end Go.Proofs.Ytmahlfjnejbcnaa.PAll
end
section
namespace Go.Proofs.Ytmahlfjnejbcnaa.PAll
open Go.RowKit YtmahlfjnejbcnaaW.PrintWords YtmahlfjnejbcnaaW.PrintLast YtmahlfjnejbcnaaW.PrintMore More2
attribute [local go_sem] max2_int min2_int max_two min_two max_three min_three max_four min_four tdiv2e18_ tdiv1e18_ cellSS_  -- for this text's walks alone
def ephemerisref2_Sum.l0 : Nat → Int → Int → List (S71) → Int → Int → Option (Int)
 | 0, _, _, _, _, _ => none
 | k + 1, x1, x5, x14, x15, x16 => if x16 < x15 then (if 0 ≤ x16 then (if x16 < (x14.length : Int) then ((ephemerisref2_Arg.f k ((rd_T71 x14 x16).f2) x1).bind fun t280 => ((ephemerisref2_SinCos.f k (wrap64 (t280 + (wrap64 (((rd_T71 x14 x16).f1) * 1000000))))).bind fun bt281 => ((ephemerisref2_Part.f ((rd_T71 x14 x16).f0) bt281.1).bind fun t283 => (ephemerisref2_Sum.l0 k x1 (wrap64 (x5 + t283)) x14 x15 (wrap64 (x16 + 1)))))) else (none)) else (none)) else (some x5)
def ephemerisref2_Sum.f (k : Nat) (a0_0 : Int) (a0_1 : Int) (l0_2 : List (S71)) (a0_3 : Int) (a1 : Int) : Option (Int) := ephemerisref2_Sum.l0 k a1 (wrap64 (a0_0 * 1048576)) l0_2 (l0_2.length : Int) 0
end Go.Proofs.Ytmahlfjnejbcnaa.PAll
end
section
namespace Go.Proofs.Ytmahlfjnejbcnaa.PAll
open Go.RowKit YtmahlfjnejbcnaaW.PrintWords YtmahlfjnejbcnaaW.PrintLast YtmahlfjnejbcnaaW.PrintMore More2
attribute [local go_sem] max2_int min2_int max_two min_two max_three min_three max_four min_four tdiv2e18_ tdiv1e18_ cellSS_  -- for this text's walks alone
def ephemerisref2_Whole.f (k : Nat) (a0_0 : Int) (a0_1 : Int) (l0_2 : List (S71)) (a0_3 : Int) (a1 : Int) : Option (Int) := (ephemerisref2_Arg.f k a0_1 a1).bind fun t285 => ((ephemerisref2_Sum.f k a0_0 a0_1 l0_2 a0_3 a1).bind fun t286 => ((ephemerisref2_Mod.f (wrap64 ((wrap64 (t286 + (wrap64 ((wrap64 (Int.tdiv t285 1000000)) * 1048576)))) + (wrap64 (Int.tdiv (wrap64 ((Int.tmod t285 1000000) * 1048576)) 1000000)))) 1048576000000000).bind fun t287 => (some t287)))
end Go.Proofs.Ytmahlfjnejbcnaa.PAll
end
section
namespace Go.Proofs.Ytmahlfjnejbcnaa.PAll
open Go.RowKit YtmahlfjnejbcnaaW.PrintWords YtmahlfjnejbcnaaW.PrintLast YtmahlfjnejbcnaaW.PrintMore More2
attribute [local go_sem] max2_int min2_int max_two min_two max_three min_three max_four min_four tdiv2e18_ tdiv1e18_ cellSS_  -- for this text's walks alone
def ephemerisref2_sunSum.f  : Option (Int × Int × (List (S71)) × Int) := some (775342092, 2737909333333, (([(⟨5318339, 84888545, 2737778555556⟩ : S71), (⟨55536, 169777090, 5475557111112⟩ : S71)] : List (S71))), 2000)
end Go.Proofs.Ytmahlfjnejbcnaa.PAll
end
section
namespace Go.Proofs.Ytmahlfjnejbcnaa.PAll
open Go.RowKit YtmahlfjnejbcnaaW.PrintWords YtmahlfjnejbcnaaW.PrintLast YtmahlfjnejbcnaaW.PrintMore More2
attribute [local go_sem] max2_int min2_int max_two min_two max_three min_three max_four min_four tdiv2e18_ tdiv1e18_ cellSS_  -- for this text's walks alone
def ephemerisref2_SunLon.f (k : Nat) (a0 : Int) (a1 : Int) : Option (Int) := (ephemerisref2_sunSum.f).bind fun bt292 => ((ephemerisref2_Whole.f k bt292.1 bt292.2.1 bt292.2.2.1 bt292.2.2.2 a0).bind fun t298 => ((ephemerisref2_Mod.f (wrap64 (t298 + (wrap64 ((wrap64 (250 * a1)) * 1048576)))) 1048576000000000).bind fun t299 => (some t299)))
end Go.Proofs.Ytmahlfjnejbcnaa.PAll
end
section
namespace Go.Proofs.Ytmahlfjnejbcnaa.PAll
open Go.RowKit YtmahlfjnejbcnaaW.PrintWords YtmahlfjnejbcnaaW.PrintLast YtmahlfjnejbcnaaW.PrintMore More2
attribute [local go_sem] max2_int min2_int max_two min_two max_three min_three max_four min_four tdiv2e18_ tdiv1e18_ cellSS_  -- for this text's walks alone
def ephemerisref2_moonSum.f  : Option (Int × Int × (List (S71)) × Int) := some (392048814, 36601101305556, (([(⟨17468817, 99384016, 36291647083333⟩ : S71), (⟨3538964, 134030564, 31434736861111⟩ : S71), (⟨1828650, 233414580, 67726383944444⟩ : S71), (⟨593383, 198768032, 72583294166666⟩ : S71), (⟨(-514211), 84888545, 2737778555556⟩ : S71), (⟨(-317589), 297001062, 73496390222222⟩ : S71)] : List (S71))), 20000)
end Go.Proofs.Ytmahlfjnejbcnaa.PAll
end
section
namespace Go.Proofs.Ytmahlfjnejbcnaa.PAll
open Go.RowKit YtmahlfjnejbcnaaW.PrintWords YtmahlfjnejbcnaaW.PrintLast YtmahlfjnejbcnaaW.PrintMore More2
attribute [local go_sem] max2_int min2_int max_two min_two max_three min_three max_four min_four tdiv2e18_ tdiv1e18_ cellSS_  -- for this text's walks alone
def ephemerisref2_MoonLon.f (k : Nat) (a0 : Int) (a1 : Int) : Option (Int) := (ephemerisref2_moonSum.f).bind fun bt350 => ((ephemerisref2_Whole.f k bt350.1 bt350.2.1 bt350.2.2.1 bt350.2.2.2 a0).bind fun t356 => ((ephemerisref2_Mod.f (wrap64 (t356 + (wrap64 ((wrap64 (2500 * a1)) * 1048576)))) 1048576000000000).bind fun t357 => (some t357)))
end Go.Proofs.Ytmahlfjnejbcnaa.PAll
end
