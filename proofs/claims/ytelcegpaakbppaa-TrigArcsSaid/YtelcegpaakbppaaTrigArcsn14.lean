/- Written by a program of this session out of the translation. -/
import Derived.Test.YtelcegpaakbppaaTrigArcsn3
import Derived.Test.YtelcegpaakbppaaTrigArcsn5
import Derived.Test.YtelcegpaakbppaaTrigArcsn10
import Derived.Test.YtelcegpaakbppaaTrigArcsn12
import Derived.Test.YtelcegpaakbppaaTrigArcsn13
namespace Go.Proofs.Ytelcegpaakbppaa.PAll
open Go.RowKit Go.Proofs.YtelcegpaakbppaaW.PrintWords Go.Proofs.YtelcegpaakbppaaW.PrintLast Go.Proofs.YtelcegpaakbppaaW.PrintMore Go.Proofs.Ytelcegpaakbppaa.More2
attribute [local go_sem] max2_int min2_int max_two min_two max_three min_three max_four min_four tdiv2e18_ tdiv1e18_ cellSS_  -- for this text's walks alone
set_option linter.unusedVariables false
set_option linter.unusedSimpArgs false
mutual
def ephemerislaw2_TrigArcs.j0 : Nat → Int → Bool → Int → Int → Int → Int → Int → Int → Option (Bool)
  | 0, _, _, _, _, _, _, _, _ => none
  | k + 1, x6, x48, x595000, x595001, x596000, x596001, x601000, x601001 => if x48 = true then ((ephemerislaw2_none.f x601000 x601001 x6 11).bind fun t603 => (some t603)) else (if x6 = 0 then ((some (([x595000, x595001] : List Int) : List Int)).bind fun y605 => (ephemerislaw2_TrigArcs.l0 k y605 (y605.length : Int) 0 x595000 x595001 x596000 x596001 x601000 x601001)) else ((ephemerislaw2_none.f x601000 x601001 x6 11).bind fun t604 => (if t604 = true then (if x595000 < x595001 then (some true) else (some (decide (x596000 < x596001)))) else (some false))))
def ephemerislaw2_TrigArcs.l0 : Nat → List Int → Int → Int → Int → Int → Int → Int → Int → Int → Option (Bool)
  | 0, _, _, _, _, _, _, _, _, _ => none
  | k + 1, x75, x76, x77, x595000, x595001, x596000, x596001, x601000, x601001 => if x77 < x76 then (if 0 ≤ x77 then (if x77 < (x75.length : Int) then ((some (([x596000, x596001] : List Int) : List Int)).bind fun y609 => (ephemerislaw2_TrigArcs.l1 k (rd x75 x77) x75 x76 x77 y609 (y609.length : Int) 0 x595000 x595001 x596000 x596001 x601000 x601001)) else (none)) else (none)) else (if x595000 = x595001 then (if x596000 = x596001 then (some (decide ((wrap64 (x601001 - x601000)) ≤ 3))) else (some true)) else (some true))
def ephemerislaw2_TrigArcs.l1 : Nat → Int → List Int → Int → Int → List Int → Int → Int → Int → Int → Int → Int → Int → Int → Option (Bool)
  | 0, _, _, _, _, _, _, _, _, _, _, _, _, _ => none
  | k + 1, x9, x75, x76, x77, x85, x86, x87, x595000, x595001, x596000, x596001, x601000, x601001 => if x87 < x86 then (if 0 ≤ x87 then (if x87 < (x85.length : Int) then (ephemerislaw2_TrigArcs.l2 k x9 x9 (rd x85 x87) x75 x76 x77 x85 x86 x87 x595000 x595001 x596000 x596001 x601000 x601001) else (none)) else (none)) else (ephemerislaw2_TrigArcs.l0 k x75 x76 (wrap64 (x77 + 1)) x595000 x595001 x596000 x596001 x601000 x601001)
def ephemerislaw2_TrigArcs.l2 : Nat → Int → Int → Int → List Int → Int → Int → List Int → Int → Int → Int → Int → Int → Int → Int → Int → Option (Bool)
  | 0, _, _, _, _, _, _, _, _, _, _, _, _, _, _, _ => none
  | k + 1, x9, x12, x13, x75, x76, x77, x85, x86, x87, x595000, x595001, x596000, x596001, x601000, x601001 => (ephemerislaw2_beyond.f x12 288230376151711744).bind fun t613 => (if t613 = true then ((ephemerisref2_InArc.f k x601000 x601001 x12 x13).bind fun t614 => (if t614 = true then (ephemerislaw2_TrigArcs.l1 k x9 x75 x76 x77 x85 x86 (wrap64 (x87 + 1)) x595000 x595001 x596000 x596001 x601000 x601001) else (some false))) else ((ephemerislaw2_beyond.f x13 288230376151711744).bind fun t615 => (if t615 = true then ((ephemerisref2_InArc.f k x601000 x601001 x12 x13).bind fun t616 => (if t616 = true then (ephemerislaw2_TrigArcs.l1 k x9 x75 x76 x77 x85 x86 (wrap64 (x87 + 1)) x595000 x595001 x596000 x596001 x601000 x601001) else (some false))) else (ephemerislaw2_TrigArcs.l2 k x9 (wrap64 (2 * x12)) (wrap64 (2 * x13)) x75 x76 x77 x85 x86 x87 x595000 x595001 x596000 x596001 x601000 x601001))))
end
def ephemerislaw2_TrigArcs.f (k : Nat) (a0_0 : Int) (a0_1 : Int) (a1_0 : Int) (a1_1 : Int) : Option (Bool) := (ephemerislaw2_trigWorks.f k).bind fun t596 => (if t596 = true then ((trig_Arc.f k a0_0 a0_1 a1_0 a1_1).bind fun bt597 => ((ephemerisref2_TwoErr.f k a0_0 a0_1 a1_0 a1_1).bind fun t601 => (if t601 = 0 then (if a0_0 ≤ 0 then (if a0_1 ≥ 0 then (if a1_0 ≤ 0 then (ephemerislaw2_TrigArcs.j0 k bt597.2.2 (decide (a1_1 ≥ 0)) a0_0 a0_1 a1_0 a1_1 bt597.1 bt597.2.1) else (ephemerislaw2_TrigArcs.j0 k bt597.2.2 false a0_0 a0_1 a1_0 a1_1 bt597.1 bt597.2.1)) else (ephemerislaw2_TrigArcs.j0 k bt597.2.2 false a0_0 a0_1 a1_0 a1_1 bt597.1 bt597.2.1)) else (ephemerislaw2_TrigArcs.j0 k bt597.2.2 false a0_0 a0_1 a1_0 a1_1 bt597.1 bt597.2.1)) else ((ephemerislaw2_none.f bt597.1 bt597.2.1 bt597.2.2 t601).bind fun t602 => (some t602))))) else (some false))
set_option maxHeartbeats 8000000 in
set_option maxRecDepth 100000 in
theorem ephemerislaw2_TrigArcs.calls (k : Nat) (a0_0 : Int) (a0_1 : Int) (a1_0 : Int) (a1_1 : Int) (r : Bool) (w : World) (h : ephemerislaw2_TrigArcs.f k a0_0 a0_1 a1_0 a1_1 = some r) (hT : r = true) :
    Calls Try.prog 4 #[.agg #[.int .i64 a0_0, .int .i64 a0_1], .agg #[.int .i64 a1_0, .int .i64 a1_1]] w fun e w' => e = .returned (.bool r) ∧ Below w.heap.size w w' := by
  have hu24 := Try.underlying24
  have HB := Aside0.mk (Below.refl w.heap.size w)
  have H : ((ephemerislaw2_trigWorks.f k).bind fun t596 => (if t596 = true then ((trig_Arc.f k a0_0 a0_1 a1_0 a1_1).bind fun bt597 => ((ephemerisref2_TwoErr.f k a0_0 a0_1 a1_0 a1_1).bind fun t601 => (if t601 = 0 then (if a0_0 ≤ 0 then (if a0_1 ≥ 0 then (if a1_0 ≤ 0 then (ephemerislaw2_TrigArcs.j0 k bt597.2.2 (decide (a1_1 ≥ 0)) a0_0 a0_1 a1_0 a1_1 bt597.1 bt597.2.1) else (ephemerislaw2_TrigArcs.j0 k bt597.2.2 false a0_0 a0_1 a1_0 a1_1 bt597.1 bt597.2.1)) else (ephemerislaw2_TrigArcs.j0 k bt597.2.2 false a0_0 a0_1 a1_0 a1_1 bt597.1 bt597.2.1)) else (ephemerislaw2_TrigArcs.j0 k bt597.2.2 false a0_0 a0_1 a1_0 a1_1 bt597.1 bt597.2.1)) else ((ephemerislaw2_none.f bt597.1 bt597.2.1 bt597.2.2 t601).bind fun t602 => (some t602))))) else (some false))) = some r := h
  clear h
  replace H := Option.bind_eq_some_iff.mp H
  obtain ⟨t596, A30, H⟩ := H
  replace H : (if t596 = true then ((trig_Arc.f k a0_0 a0_1 a1_0 a1_1).bind fun bt597 => ((ephemerisref2_TwoErr.f k a0_0 a0_1 a1_0 a1_1).bind fun t601 => (if t601 = 0 then (if a0_0 ≤ 0 then (if a0_1 ≥ 0 then (if a1_0 ≤ 0 then (ephemerislaw2_TrigArcs.j0 k bt597.2.2 (decide (a1_1 ≥ 0)) a0_0 a0_1 a1_0 a1_1 bt597.1 bt597.2.1) else (ephemerislaw2_TrigArcs.j0 k bt597.2.2 false a0_0 a0_1 a1_0 a1_1 bt597.1 bt597.2.1)) else (ephemerislaw2_TrigArcs.j0 k bt597.2.2 false a0_0 a0_1 a1_0 a1_1 bt597.1 bt597.2.1)) else (ephemerislaw2_TrigArcs.j0 k bt597.2.2 false a0_0 a0_1 a1_0 a1_1 bt597.1 bt597.2.1)) else ((ephemerislaw2_none.f bt597.1 bt597.2.1 bt597.2.2 t601).bind fun t602 => (some t602))))) else (some false)) = some r := H
  have A3 := Aside0.mk A30
  clear A30
  by_cases c4 : t596 = true
  · subst c4
    have H1 : ((trig_Arc.f k a0_0 a0_1 a1_0 a1_1).bind fun bt597 => ((ephemerisref2_TwoErr.f k a0_0 a0_1 a1_0 a1_1).bind fun t601 => (if t601 = 0 then (if a0_0 ≤ 0 then (if a0_1 ≥ 0 then (if a1_0 ≤ 0 then (ephemerislaw2_TrigArcs.j0 k bt597.2.2 (decide (a1_1 ≥ 0)) a0_0 a0_1 a1_0 a1_1 bt597.1 bt597.2.1) else (ephemerislaw2_TrigArcs.j0 k bt597.2.2 false a0_0 a0_1 a1_0 a1_1 bt597.1 bt597.2.1)) else (ephemerislaw2_TrigArcs.j0 k bt597.2.2 false a0_0 a0_1 a1_0 a1_1 bt597.1 bt597.2.1)) else (ephemerislaw2_TrigArcs.j0 k bt597.2.2 false a0_0 a0_1 a1_0 a1_1 bt597.1 bt597.2.1)) else ((ephemerislaw2_none.f bt597.1 bt597.2.1 bt597.2.2 t601).bind fun t602 => (some t602))))) = some r := by rw [if_pos rfl] at H; exact H
    clear H
    have H := H1
    clear H1
    replace H := Option.bind_eq_some_iff.mp H
    obtain ⟨⟨t597, t598, t599⟩, A50, H⟩ := H
    replace H : ((ephemerisref2_TwoErr.f k a0_0 a0_1 a1_0 a1_1).bind fun t601 => (if t601 = 0 then (if a0_0 ≤ 0 then (if a0_1 ≥ 0 then (if a1_0 ≤ 0 then (ephemerislaw2_TrigArcs.j0 k t599 (decide (a1_1 ≥ 0)) a0_0 a0_1 a1_0 a1_1 t597 t598) else (ephemerislaw2_TrigArcs.j0 k t599 false a0_0 a0_1 a1_0 a1_1 t597 t598)) else (ephemerislaw2_TrigArcs.j0 k t599 false a0_0 a0_1 a1_0 a1_1 t597 t598)) else (ephemerislaw2_TrigArcs.j0 k t599 false a0_0 a0_1 a1_0 a1_1 t597 t598)) else ((ephemerislaw2_none.f t597 t598 t599 t601).bind fun t602 => (some t602)))) = some r := H
    have A5 := Aside0.mk A50
    clear A50
    replace H := Option.bind_eq_some_iff.mp H
    obtain ⟨t601, A60, H⟩ := H
    replace H : (if t601 = 0 then (if a0_0 ≤ 0 then (if a0_1 ≥ 0 then (if a1_0 ≤ 0 then (ephemerislaw2_TrigArcs.j0 k t599 (decide (a1_1 ≥ 0)) a0_0 a0_1 a1_0 a1_1 t597 t598) else (ephemerislaw2_TrigArcs.j0 k t599 false a0_0 a0_1 a1_0 a1_1 t597 t598)) else (ephemerislaw2_TrigArcs.j0 k t599 false a0_0 a0_1 a1_0 a1_1 t597 t598)) else (ephemerislaw2_TrigArcs.j0 k t599 false a0_0 a0_1 a1_0 a1_1 t597 t598)) else ((ephemerislaw2_none.f t597 t598 t599 t601).bind fun t602 => (some t602))) = some r := H
    have A6 := Aside0.mk A60
    clear A60
    by_cases c7 : t601 = 0
    · rw [if_pos c7] at H
      have c7b0 : (t601 == 0) = true := beq_iff_eq.mpr c7
      have c7b1 : (t601 != 0) = false := bne_eq_false_iff_eq.mpr c7
      clear c7
      have HC8 := Aside0.mk H
      clear H
      go_enter Try.func4, Try.ntmps4
      go_upto_region 7 with (first | ((with_reducible refine gate_dst (N := 2) rfl ?_); refine box_event ?hg (N := 2) ?hd (cs := #[.int .i64 a0_0, .int .i64 a0_1]) (t := 24) ?hr ?_; (case hd => rfl); (case hg => rfl); (case hr => first | (go_simp; done) | (go_simp; rfl)); intro gb594 hg w9 hbox hb; have n0_ := Aside0.mk (below_step (by repeat (first | (with_reducible first | exact HB.out | apply below_alloc | apply pw_below_drewN | apply below_drew1) | exact HB.out)) hb); have n1_ := Aside0.mk (hbox); have n2_ := Aside0.mk ((by rw [hg]; exact (below_size (by repeat (first | (with_reducible first | exact HB.out | apply below_alloc | apply pw_below_drewN | apply below_drew1) | exact HB.out))) : w.heap.size ≤ gb594)); have n3_ := Aside0.mk ((by rw [hg]; exact (below_size (by repeat (first | (with_reducible first | exact HB.out | apply below_alloc | apply pw_below_drewN | apply below_drew1) | exact HB.out))) : w.heap.size ≤ gb594)); clear HB; have HB := n0_; have BK594 := n1_; have GW594 := n2_; have GE594 := n3_; clear n0_ n1_ n2_ n3_; clear hb hbox hg) | ((with_reducible refine gate_dst (N := 3) rfl ?_); refine box_event ?hg (N := 3) ?hd (cs := #[.int .i64 a1_0, .int .i64 a1_1]) (t := 24) ?hr ?_; (case hd => rfl); (case hg => rfl); (case hr => first | (go_simp; done) | (go_simp; rfl)); intro gb595 hg w10 hbox hb; have n0_ := Aside0.mk (blk_below (g := gb594) (o := .cells #[.int .i64 a0_0, .int .i64 a0_1] 24 (0, 0)) (by (with_reducible repeat (first | refine blk_drewN ?_ _ | refine blk_drew ?_ | refine blk_alloc ?_ _)); exact BK594.out) hb); have n1_ := Aside0.mk (below_step (by repeat (first | (with_reducible first | exact HB.out | apply below_alloc | apply pw_below_drewN | apply below_drew1 | refine below_set ?_ GE594.out) | exact HB.out)) hb); have n2_ := Aside0.mk (hbox); have n3_ := Aside0.mk ((by rw [hg]; exact (below_size (by repeat (first | (with_reducible first | exact HB.out | apply below_alloc | apply pw_below_drewN | apply below_drew1 | refine below_set ?_ GE594.out) | exact HB.out))) : w.heap.size ≤ gb595)); have n4_ := Aside0.mk ((by rw [hg]; exact (below_size (by repeat (first | (with_reducible first | exact HB.out | apply below_alloc | apply pw_below_drewN | apply below_drew1 | refine below_set ?_ GE594.out) | exact HB.out))) : w.heap.size ≤ gb595)); have n5_ := Aside0.mk ((by rw [hg]; exact Nat.ne_of_lt (blk_lt (g := gb594) (o := .cells #[.int .i64 a0_0, .int .i64 a0_1] 24 (0, 0)) (by (with_reducible repeat (first | refine blk_drewN ?_ _ | refine blk_drew ?_ | refine blk_alloc ?_ _)); exact BK594.out)) : gb594 ≠ gb595)); have n6_ := Aside0.mk ((by rw [hg]; exact Nat.ne_of_gt (blk_lt (g := gb594) (o := .cells #[.int .i64 a0_0, .int .i64 a0_1] 24 (0, 0)) (by (with_reducible repeat (first | refine blk_drewN ?_ _ | refine blk_drew ?_ | refine blk_alloc ?_ _)); exact BK594.out)) : gb595 ≠ gb594)); clear BK594; clear HB; have BK594 := n0_; have HB := n1_; have BK595 := n2_; have GW595 := n3_; have GE595 := n4_; have NB594_595 := n5_; have NB595_594 := n6_; clear n0_ n1_ n2_ n3_ n4_ n5_ n6_; clear hb hbox hg) | ((with_reducible refine gate_callee (f := 16) rfl ?_); refine goesL_ (some 14) rfl rfl Try.func16 (by kernel_rfl) rfl #[] rfl (by (try simp only [List.map_toArray, List.map_cons, List.map_nil]); first | done | rfl | (simp only [List.length_drop, List.length_take]; rfl)) ?_; (with_reducible refine (ephemerislaw2_trigWorks.calls k  true _ A3.out rfl).mono ?_); rintro e w11 ⟨rfl, hb⟩; refine ⟨_, rfl, ?_⟩; have n0_ := Aside0.mk (blk_below (g := gb594) (o := .cells #[.int .i64 a0_0, .int .i64 a0_1] 24 (0, 0)) (by (with_reducible repeat (first | refine blk_drewN ?_ _ | refine blk_drew ?_ | refine blk_alloc ?_ _)); exact BK594.out) hb); have n1_ := Aside0.mk (blk_below (g := gb595) (o := .cells #[.int .i64 a1_0, .int .i64 a1_1] 24 (0, 0)) (by (with_reducible repeat (first | refine blk_drewN ?_ _ | refine blk_drew ?_ | refine blk_alloc ?_ _)); exact BK595.out) hb); have n2_ := Aside0.mk (below_step (by repeat (first | (with_reducible first | exact HB.out | apply below_alloc | apply pw_below_drewN | apply below_drew1 | refine below_set ?_ GE594.out | refine below_set ?_ GE595.out) | exact HB.out)) hb); clear BK594; clear BK595; clear HB; have BK594 := n0_; have BK595 := n1_; have HB := n2_; clear n0_ n1_ n2_; (try clear hb); (try clear hb2); (try clear hk); (try clear hi); have hnb12 := NB594_595.out; have hnc12 := NB595_594.out; have hcz13_0 : w11.cell? ⟨gb594, 0, none⟩ = some (.int .i64 a0_0) := (blk_cell BK594.out 0).trans rfl; have hcz13_1 : w11.cell? ⟨gb594, 1, none⟩ = some (.int .i64 a0_1) := (blk_cell BK594.out 1).trans rfl; have hfz13_0 := blk_frozen BK594.out 0; have hfz13_1 := blk_frozen BK594.out 1; have hcz14_0 : w11.cell? ⟨gb595, 0, none⟩ = some (.int .i64 a1_0) := (blk_cell BK595.out 0).trans rfl; have hcz14_1 : w11.cell? ⟨gb595, 1, none⟩ = some (.int .i64 a1_1) := (blk_cell BK595.out 1).trans rfl; have hfz14_0 := blk_frozen BK595.out 0; have hfz14_1 := blk_frozen BK595.out 1) | ((with_reducible refine gate_callee (f := 24) rfl ?_); refine goesL_ (some 19) rfl rfl Try.func24 (by kernel_rfl) rfl #[.agg #[.int .i64 a0_0, .int .i64 a0_1], .agg #[.int .i64 a1_0, .int .i64 a1_1]] rfl (by (try simp only [List.map_toArray, List.map_cons, List.map_nil]); first | done | rfl | (simp only [List.length_drop, List.length_take]; rfl)) ?_; (with_reducible refine (trig_Arc.calls k a0_0 a0_1 a1_0 a1_1 t597 t598 t599 _ A5.out).mono ?_); rintro e w15 ⟨rfl, hb⟩; refine ⟨_, rfl, ?_⟩; have n0_ := Aside0.mk (blk_below (g := gb594) (o := .cells #[.int .i64 a0_0, .int .i64 a0_1] 24 (0, 0)) (by (with_reducible repeat (first | refine blk_drewN ?_ _ | refine blk_drew ?_ | refine blk_alloc ?_ _)); exact BK594.out) hb); have n1_ := Aside0.mk (blk_below (g := gb595) (o := .cells #[.int .i64 a1_0, .int .i64 a1_1] 24 (0, 0)) (by (with_reducible repeat (first | refine blk_drewN ?_ _ | refine blk_drew ?_ | refine blk_alloc ?_ _)); exact BK595.out) hb); have n2_ := Aside0.mk (below_step (by repeat (first | (with_reducible first | exact HB.out | apply below_alloc | apply pw_below_drewN | apply below_drew1 | refine below_set ?_ GE594.out | refine below_set ?_ GE595.out) | exact HB.out)) hb); clear BK594; clear BK595; clear HB; have BK594 := n0_; have BK595 := n1_; have HB := n2_; clear n0_ n1_ n2_; (try clear hb); (try clear hb2); (try clear hk); (try clear hi)) | ((with_reducible refine gate_dst (N := 5) rfl ?_); refine box_event ?hg (N := 5) ?hd (cs := #[.int .i64 0, .int .i64 0]) (t := 24) ?hr ?_; (case hd => rfl); (case hg => rfl); (case hr => first | (go_simp; done) | (go_simp; rfl)); intro gb600 hg w16 hbox hb; have n0_ := Aside0.mk (blk_below (g := gb594) (o := .cells #[.int .i64 a0_0, .int .i64 a0_1] 24 (0, 0)) (by (with_reducible repeat (first | refine blk_drewN ?_ _ | refine blk_drew ?_ | refine blk_alloc ?_ _)); exact BK594.out) hb); have n1_ := Aside0.mk (blk_below (g := gb595) (o := .cells #[.int .i64 a1_0, .int .i64 a1_1] 24 (0, 0)) (by (with_reducible repeat (first | refine blk_drewN ?_ _ | refine blk_drew ?_ | refine blk_alloc ?_ _)); exact BK595.out) hb); have n2_ := Aside0.mk (below_step (by repeat (first | (with_reducible first | exact HB.out | apply below_alloc | apply pw_below_drewN | apply below_drew1 | refine below_set ?_ GE594.out | refine below_set ?_ GE595.out) | exact HB.out)) hb); have n3_ := Aside0.mk (hbox); have n4_ := Aside0.mk ((by rw [hg]; exact (below_size (by repeat (first | (with_reducible first | exact HB.out | apply below_alloc | apply pw_below_drewN | apply below_drew1 | refine below_set ?_ GE594.out | refine below_set ?_ GE595.out) | exact HB.out))) : w.heap.size ≤ gb600)); have n5_ := Aside0.mk ((by rw [hg]; exact (below_size (by repeat (first | (with_reducible first | exact HB.out | apply below_alloc | apply pw_below_drewN | apply below_drew1 | refine below_set ?_ GE594.out | refine below_set ?_ GE595.out) | exact HB.out))) : w.heap.size ≤ gb600)); have n6_ := Aside0.mk ((by rw [hg]; exact Nat.ne_of_lt (blk_lt (g := gb594) (o := .cells #[.int .i64 a0_0, .int .i64 a0_1] 24 (0, 0)) (by (with_reducible repeat (first | refine blk_drewN ?_ _ | refine blk_drew ?_ | refine blk_alloc ?_ _)); exact BK594.out)) : gb594 ≠ gb600)); have n7_ := Aside0.mk ((by rw [hg]; exact Nat.ne_of_gt (blk_lt (g := gb594) (o := .cells #[.int .i64 a0_0, .int .i64 a0_1] 24 (0, 0)) (by (with_reducible repeat (first | refine blk_drewN ?_ _ | refine blk_drew ?_ | refine blk_alloc ?_ _)); exact BK594.out)) : gb600 ≠ gb594)); have n8_ := Aside0.mk ((by rw [hg]; exact Nat.ne_of_lt (blk_lt (g := gb595) (o := .cells #[.int .i64 a1_0, .int .i64 a1_1] 24 (0, 0)) (by (with_reducible repeat (first | refine blk_drewN ?_ _ | refine blk_drew ?_ | refine blk_alloc ?_ _)); exact BK595.out)) : gb595 ≠ gb600)); have n9_ := Aside0.mk ((by rw [hg]; exact Nat.ne_of_gt (blk_lt (g := gb595) (o := .cells #[.int .i64 a1_0, .int .i64 a1_1] 24 (0, 0)) (by (with_reducible repeat (first | refine blk_drewN ?_ _ | refine blk_drew ?_ | refine blk_alloc ?_ _)); exact BK595.out)) : gb600 ≠ gb595)); clear BK594; clear BK595; clear HB; have BK594 := n0_; have BK595 := n1_; have HB := n2_; have BK600 := n3_; have GW600 := n4_; have GE600 := n5_; have NB594_600 := n6_; have NB600_594 := n7_; have NB595_600 := n8_; have NB600_595 := n9_; clear n0_ n1_ n2_ n3_ n4_ n5_ n6_ n7_ n8_ n9_; clear hb hbox hg; have hnb17 := NB600_594.out; have hnc17 := NB594_600.out; have hnb18 := NB600_595.out; have hnc18 := NB595_600.out; have hcz19_0 : w16.cell? ⟨gb600, 0, none⟩ = some (.int .i64 0) := (blk_cell BK600.out 0).trans rfl; have hcz19_1 : w16.cell? ⟨gb600, 1, none⟩ = some (.int .i64 0) := (blk_cell BK600.out 1).trans rfl; have hfz19_0 := blk_frozen BK600.out 0; have hfz19_1 := blk_frozen BK600.out 1; have hcz20_0 : w16.cell? ⟨gb594, 0, none⟩ = some (.int .i64 a0_0) := (blk_cell BK594.out 0).trans rfl; have hcz20_1 : w16.cell? ⟨gb594, 1, none⟩ = some (.int .i64 a0_1) := (blk_cell BK594.out 1).trans rfl; have hfz20_0 := blk_frozen BK594.out 0; have hfz20_1 := blk_frozen BK594.out 1; have hcz21_0 : w16.cell? ⟨gb595, 0, none⟩ = some (.int .i64 a1_0) := (blk_cell BK595.out 0).trans rfl; have hcz21_1 : w16.cell? ⟨gb595, 1, none⟩ = some (.int .i64 a1_1) := (blk_cell BK595.out 1).trans rfl; have hfz21_0 := blk_frozen BK595.out 0; have hfz21_1 := blk_frozen BK595.out 1) | ((with_reducible refine gate_callee (f := 25) rfl ?_); refine goesL_ (some 24) rfl rfl Try.func25 (by kernel_rfl) rfl #[.agg #[.int .i64 a0_0, .int .i64 a0_1], .agg #[.int .i64 a1_0, .int .i64 a1_1]] rfl (by (try simp only [List.map_toArray, List.map_cons, List.map_nil]); first | done | rfl | (simp only [List.length_drop, List.length_take]; rfl)) ?_; (with_reducible refine (ephemerisref2_TwoErr.calls k a0_0 a0_1 a1_0 a1_1 t601 _ A6.out).mono ?_); rintro e w22 ⟨rfl, hb⟩; refine ⟨_, rfl, ?_⟩; have n0_ := Aside0.mk (blk_below (g := gb594) (o := .cells #[.int .i64 a0_0, .int .i64 a0_1] 24 (0, 0)) (by (with_reducible repeat (first | refine blk_drewN ?_ _ | refine blk_drew ?_ | refine blk_alloc ?_ _)); refine blk_far ?_ NB594_600.out _; (with_reducible repeat (first | refine blk_drewN ?_ _ | refine blk_drew ?_ | refine blk_alloc ?_ _)); refine blk_far ?_ NB594_600.out _; (with_reducible repeat (first | refine blk_drewN ?_ _ | refine blk_drew ?_ | refine blk_alloc ?_ _)); exact BK594.out) hb); have n1_ := Aside0.mk (blk_below (g := gb595) (o := .cells #[.int .i64 a1_0, .int .i64 a1_1] 24 (0, 0)) (by (with_reducible repeat (first | refine blk_drewN ?_ _ | refine blk_drew ?_ | refine blk_alloc ?_ _)); refine blk_far ?_ NB595_600.out _; (with_reducible repeat (first | refine blk_drewN ?_ _ | refine blk_drew ?_ | refine blk_alloc ?_ _)); refine blk_far ?_ NB595_600.out _; (with_reducible repeat (first | refine blk_drewN ?_ _ | refine blk_drew ?_ | refine blk_alloc ?_ _)); exact BK595.out) hb); have n2_ := Aside0.mk (blk_below (g := gb600) (o := .cells #[.int .i64 t597, .int .i64 t598] 24 (0, 0)) (by (with_reducible repeat (first | refine blk_drewN ?_ _ | refine blk_drew ?_ | refine blk_alloc ?_ _)); refine blk_put (cs := #[.int .i64 t597, .int .i64 0]) ?_ 1 _ rfl; (with_reducible repeat (first | refine blk_drewN ?_ _ | refine blk_drew ?_ | refine blk_alloc ?_ _)); refine blk_put (cs := #[.int .i64 0, .int .i64 0]) ?_ 0 _ rfl; (with_reducible repeat (first | refine blk_drewN ?_ _ | refine blk_drew ?_ | refine blk_alloc ?_ _)); exact BK600.out) hb); have n3_ := Aside0.mk (below_step (by repeat (first | (with_reducible first | exact HB.out | apply below_alloc | apply pw_below_drewN | apply below_drew1 | refine below_set ?_ GE594.out | refine below_set ?_ GE595.out | refine below_set ?_ GE600.out) | exact HB.out)) hb); clear BK594; clear BK595; clear BK600; clear HB; have BK594 := n0_; have BK595 := n1_; have BK600 := n2_; have HB := n3_; clear n0_ n1_ n2_ n3_; (try clear hb); (try clear hb2); (try clear hk); (try clear hi)))
      (try simp only [Act.put, List.setIfInBounds_toArray, List.set_cons_zero, List.set_cons_succ])
      go_cut [48] (fun v48 wc => ∃ (kq : Nat) (x48_7 : Bool), v48 = .bool x48_7 ∧ Aside0 (ephemerislaw2_TrigArcs.j0 kq t599 x48_7 a0_0 a0_1 a1_0 a1_1 t597 t598 = some r) ∧ Aside0 (kq ≤ k) ∧ Aside0 (wc.heap[gb594]? = some (.cells #[.int .i64 a0_0, .int .i64 a0_1] 24 (0, 0))) ∧ Aside0 (wc.heap[gb595]? = some (.cells #[.int .i64 a1_0, .int .i64 a1_1] 24 (0, 0))) ∧ Aside0 (wc.heap[gb600]? = some (.cells #[.int .i64 t597, .int .i64 t598] 24 (0, 0))) ∧ Aside0 (Below w.heap.size w wc))
      case first =>
        have H := HC8.out
        clear HC8
        by_cases c23 : a0_0 ≤ 0
        · rw [if_pos c23] at H
          have c23b0 : decide (a0_0 ≤ 0) = true := decide_eq_true c23
          clear c23
          (first | rw [c23b0] | (simp only [i64_w, i32_w]; rw [c23b0]) | skip)
          by_cases c24 : a0_1 ≥ 0
          · rw [if_pos c24] at H
            have c24b0 : decide (0 ≤ a0_1) = true := decide_eq_true c24
            clear c24
            by_cases c25 : a1_0 ≤ 0
            · rw [if_pos c25] at H
              have c25b0 : decide (a1_0 ≤ 0) = true := decide_eq_true c25
              clear c25
              have H' := Aside0.mk H
              clear H
              have hnb26 := NB594_595.out
              have hnc26 := NB595_594.out
              have hnb27 := NB594_600.out
              have hnc27 := NB600_594.out
              have hcz28_0 : w22.cell? ⟨gb594, 0, none⟩ = some (.int .i64 a0_0) := (blk_cell BK594.out 0).trans rfl
              have hcz28_1 : w22.cell? ⟨gb594, 1, none⟩ = some (.int .i64 a0_1) := (blk_cell BK594.out 1).trans rfl
              have hfz28_0 := blk_frozen BK594.out 0
              have hfz28_1 := blk_frozen BK594.out 1
              have hnb29 := NB595_600.out
              have hnc29 := NB600_595.out
              have hcz30_0 : w22.cell? ⟨gb595, 0, none⟩ = some (.int .i64 a1_0) := (blk_cell BK595.out 0).trans rfl
              have hcz30_1 : w22.cell? ⟨gb595, 1, none⟩ = some (.int .i64 a1_1) := (blk_cell BK595.out 1).trans rfl
              have hfz30_0 := blk_frozen BK595.out 0
              have hfz30_1 := blk_frozen BK595.out 1
              go_wp2
              go_meet
              case rel => exact ⟨_, (decide (a1_1 ≥ 0)), (by first | rfl | (simp; done) | (simp [*]; done)), H', ⟨by first | omega | exact Nat.le_refl _⟩, ⟨by (with_reducible repeat (first | refine blk_drewN ?_ _ | refine blk_drew ?_ | refine blk_alloc ?_ _)); exact BK594.out⟩, ⟨by (with_reducible repeat (first | refine blk_drewN ?_ _ | refine blk_drew ?_ | refine blk_alloc ?_ _)); exact BK595.out⟩, ⟨by (with_reducible repeat (first | refine blk_drewN ?_ _ | refine blk_drew ?_ | refine blk_alloc ?_ _)); exact BK600.out⟩, ⟨by repeat (first | (with_reducible first | exact HB.out | apply below_alloc | apply pw_below_drewN | apply below_drew1 | refine below_set ?_ GE594.out | refine below_set ?_ GE595.out | refine below_set ?_ GE600.out) | exact HB.out)⟩⟩
            · rw [if_neg c25] at H
              have c25b0 : decide (a1_0 ≤ 0) = false := decide_eq_false c25
              clear c25
              have H' := Aside0.mk H
              clear H
              have hnb31 := NB594_595.out
              have hnc31 := NB595_594.out
              have hnb32 := NB594_600.out
              have hnc32 := NB600_594.out
              have hcz33_0 : w22.cell? ⟨gb594, 0, none⟩ = some (.int .i64 a0_0) := (blk_cell BK594.out 0).trans rfl
              have hcz33_1 : w22.cell? ⟨gb594, 1, none⟩ = some (.int .i64 a0_1) := (blk_cell BK594.out 1).trans rfl
              have hfz33_0 := blk_frozen BK594.out 0
              have hfz33_1 := blk_frozen BK594.out 1
              have hnb34 := NB595_600.out
              have hnc34 := NB600_595.out
              have hcz35_0 : w22.cell? ⟨gb595, 0, none⟩ = some (.int .i64 a1_0) := (blk_cell BK595.out 0).trans rfl
              have hcz35_1 : w22.cell? ⟨gb595, 1, none⟩ = some (.int .i64 a1_1) := (blk_cell BK595.out 1).trans rfl
              have hfz35_0 := blk_frozen BK595.out 0
              have hfz35_1 := blk_frozen BK595.out 1
              go_wp2
              go_meet
              case rel => exact ⟨_, (false), (by first | rfl | (simp; done) | (simp [*]; done)), H', ⟨by first | omega | exact Nat.le_refl _⟩, ⟨by (with_reducible repeat (first | refine blk_drewN ?_ _ | refine blk_drew ?_ | refine blk_alloc ?_ _)); exact BK594.out⟩, ⟨by (with_reducible repeat (first | refine blk_drewN ?_ _ | refine blk_drew ?_ | refine blk_alloc ?_ _)); exact BK595.out⟩, ⟨by (with_reducible repeat (first | refine blk_drewN ?_ _ | refine blk_drew ?_ | refine blk_alloc ?_ _)); exact BK600.out⟩, ⟨by repeat (first | (with_reducible first | exact HB.out | apply below_alloc | apply pw_below_drewN | apply below_drew1 | refine below_set ?_ GE594.out | refine below_set ?_ GE595.out | refine below_set ?_ GE600.out) | exact HB.out)⟩⟩
          · rw [if_neg c24] at H
            have c24b0 : decide (0 ≤ a0_1) = false := decide_eq_false c24
            clear c24
            have H' := Aside0.mk H
            clear H
            have hnb36 := NB594_595.out
            have hnc36 := NB595_594.out
            have hnb37 := NB594_600.out
            have hnc37 := NB600_594.out
            have hcz38_0 : w22.cell? ⟨gb594, 0, none⟩ = some (.int .i64 a0_0) := (blk_cell BK594.out 0).trans rfl
            have hcz38_1 : w22.cell? ⟨gb594, 1, none⟩ = some (.int .i64 a0_1) := (blk_cell BK594.out 1).trans rfl
            have hfz38_0 := blk_frozen BK594.out 0
            have hfz38_1 := blk_frozen BK594.out 1
            go_wp2
            go_meet
            case rel => exact ⟨_, (false), (by first | rfl | (simp; done) | (simp [*]; done)), H', ⟨by first | omega | exact Nat.le_refl _⟩, ⟨by (with_reducible repeat (first | refine blk_drewN ?_ _ | refine blk_drew ?_ | refine blk_alloc ?_ _)); exact BK594.out⟩, ⟨by (with_reducible repeat (first | refine blk_drewN ?_ _ | refine blk_drew ?_ | refine blk_alloc ?_ _)); exact BK595.out⟩, ⟨by (with_reducible repeat (first | refine blk_drewN ?_ _ | refine blk_drew ?_ | refine blk_alloc ?_ _)); exact BK600.out⟩, ⟨by repeat (first | (with_reducible first | exact HB.out | apply below_alloc | apply pw_below_drewN | apply below_drew1 | refine below_set ?_ GE594.out | refine below_set ?_ GE595.out | refine below_set ?_ GE600.out) | exact HB.out)⟩⟩
        · rw [if_neg c23] at H
          have c23b0 : decide (a0_0 ≤ 0) = false := decide_eq_false c23
          clear c23
          (first | rw [c23b0] | (simp only [i64_w, i32_w]; rw [c23b0]) | skip)
          have H' := Aside0.mk H
          clear H
          have hnb39 := NB594_595.out
          have hnc39 := NB595_594.out
          have hnb40 := NB594_600.out
          have hnc40 := NB600_594.out
          have hcz41_0 : w22.cell? ⟨gb594, 0, none⟩ = some (.int .i64 a0_0) := (blk_cell BK594.out 0).trans rfl
          have hcz41_1 : w22.cell? ⟨gb594, 1, none⟩ = some (.int .i64 a0_1) := (blk_cell BK594.out 1).trans rfl
          have hfz41_0 := blk_frozen BK594.out 0
          have hfz41_1 := blk_frozen BK594.out 1
          go_wp2
          go_meet
          case rel => exact ⟨_, (false), (by first | rfl | (simp; done) | (simp [*]; done)), H', ⟨by first | omega | exact Nat.le_refl _⟩, ⟨by (with_reducible repeat (first | refine blk_drewN ?_ _ | refine blk_drew ?_ | refine blk_alloc ?_ _)); exact BK594.out⟩, ⟨by (with_reducible repeat (first | refine blk_drewN ?_ _ | refine blk_drew ?_ | refine blk_alloc ?_ _)); exact BK595.out⟩, ⟨by (with_reducible repeat (first | refine blk_drewN ?_ _ | refine blk_drew ?_ | refine blk_alloc ?_ _)); exact BK600.out⟩, ⟨by repeat (first | (with_reducible first | exact HB.out | apply below_alloc | apply pw_below_drewN | apply below_drew1 | refine below_set ?_ GE594.out | refine below_set ?_ GE595.out | refine below_set ?_ GE600.out) | exact HB.out)⟩⟩
      case rest =>
        clear HC8
        try clear c1
        try clear c2
        try clear p2
        try clear c3
        try clear c4
        try clear c7
        try clear c7b0
        try clear c7b1
        try clear c12
        try clear c16
        try clear c17
        try clear c18
        try clear c23
        try clear c23b0
        try clear c24
        try clear c24b0
        try clear c25
        try clear c25b0
        try clear c26
        try clear c27
        try clear c29
        try clear c31
        try clear c32
        try clear c34
        try clear c36
        try clear c37
        try clear c39
        try clear c40
        try clear hcz13_0
        try clear hcz13_1
        try clear hcz14_0
        try clear hcz14_1
        try clear hcz19_0
        try clear hcz19_1
        try clear hcz20_0
        try clear hcz20_1
        try clear hcz21_0
        try clear hcz21_1
        try clear hcz28_0
        try clear hcz28_1
        try clear hcz30_0
        try clear hcz30_1
        try clear hcz33_0
        try clear hcz33_1
        try clear hcz35_0
        try clear hcz35_1
        try clear hcz38_0
        try clear hcz38_1
        try clear hcz41_0
        try clear hcz41_1
        try clear hfz13_0
        try clear hfz13_1
        try clear hfz14_0
        try clear hfz14_1
        try clear hfz19_0
        try clear hfz19_1
        try clear hfz20_0
        try clear hfz20_1
        try clear hfz21_0
        try clear hfz21_1
        try clear hfz28_0
        try clear hfz28_1
        try clear hfz30_0
        try clear hfz30_1
        try clear hfz33_0
        try clear hfz33_1
        try clear hfz35_0
        try clear hfz35_1
        try clear hfz38_0
        try clear hfz38_1
        try clear hfz41_0
        try clear hfz41_1
        obtain ⟨kq, x48_7, rfl, HA, HJ7, BK594, BK595, BK600, HB⟩ := hcut
        cases kq with
        | zero => exact absurd HA.out (by simp [ephemerislaw2_TrigArcs.j0])
        | succ kj7 =>
          have H := HA.out
          clear HA
          simp only [ephemerislaw2_TrigArcs.j0] at H
          by_cases c42 : x48_7 = true
          · subst c42
            have H1 : ((ephemerislaw2_none.f t597 t598 t599 11).bind fun t603 => (some t603)) = some r := by rw [if_pos rfl] at H; exact H
            clear H
            have H := H1
            clear H1
            replace H := Option.bind_eq_some_iff.mp H
            obtain ⟨t603, A430, H⟩ := H
            replace H : (some t603) = some r := H
            have A43 := Aside0.mk A430
            clear A430
            obtain rfl := Option.some.inj H
            simp only [Option.some.injEq, Prod.mk.injEq] at H
            obtain ⟨rfl⟩ := H
            have hnb44 := NB600_594.out
            have hnc44 := NB594_600.out
            have hnb45 := NB600_595.out
            have hnc45 := NB595_600.out
            have hcz46_0 : wc.cell? ⟨gb600, 0, none⟩ = some (.int .i64 t597) := (blk_cell BK600.out 0).trans rfl
            have hcz46_1 : wc.cell? ⟨gb600, 1, none⟩ = some (.int .i64 t598) := (blk_cell BK600.out 1).trans rfl
            have hfz46_0 := blk_frozen BK600.out 0
            have hfz46_1 := blk_frozen BK600.out 1
            go_wp2_with (first | ((with_reducible refine gate_callee (f := 20) rfl ?_); refine goesL_ (some 51) rfl rfl Try.func20 (by kernel_rfl) rfl #[.agg #[.int .i64 t597, .int .i64 t598], .int .i64 t599, .int .i64 11] rfl (by (try simp only [List.map_toArray, List.map_cons, List.map_nil]); first | done | rfl | (simp only [List.length_drop, List.length_take]; rfl)) ?_; (with_reducible refine (ephemerislaw2_none.calls t597 t598 t599 11 t603 _ A43.out).mono ?_); rintro e w47 ⟨rfl, hb⟩; refine ⟨_, rfl, ?_⟩; have n0_ := Aside0.mk (blk_below (g := gb594) (o := .cells #[.int .i64 a0_0, .int .i64 a0_1] 24 (0, 0)) (by (with_reducible repeat (first | refine blk_drewN ?_ _ | refine blk_drew ?_ | refine blk_alloc ?_ _)); exact BK594.out) hb); have n1_ := Aside0.mk (blk_below (g := gb595) (o := .cells #[.int .i64 a1_0, .int .i64 a1_1] 24 (0, 0)) (by (with_reducible repeat (first | refine blk_drewN ?_ _ | refine blk_drew ?_ | refine blk_alloc ?_ _)); exact BK595.out) hb); have n2_ := Aside0.mk (blk_below (g := gb600) (o := .cells #[.int .i64 t597, .int .i64 t598] 24 (0, 0)) (by (with_reducible repeat (first | refine blk_drewN ?_ _ | refine blk_drew ?_ | refine blk_alloc ?_ _)); exact BK600.out) hb); have n3_ := Aside0.mk (below_step (by repeat (first | (with_reducible first | exact HB.out | apply below_alloc | apply pw_below_drewN | apply below_drew1 | refine below_set ?_ GE594.out | refine below_set ?_ GE595.out | refine below_set ?_ GE600.out) | exact HB.out)) hb); clear BK594; clear BK595; clear BK600; clear HB; have BK594 := n0_; have BK595 := n1_; have BK600 := n2_; have HB := n3_; clear n0_ n1_ n2_ n3_; (try clear hb); (try clear hb2); (try clear hk); (try clear hi)))
            go_ret
            exact ⟨by first | rfl | (simp [errW_none, errW_some] <;> rfl) | (simp [*, errW_none, errW_some] <;> rfl), by repeat (first | (with_reducible first | exact HB.out | apply below_alloc | apply pw_below_drewN | apply below_drew1 | refine below_set ?_ GE594.out | refine below_set ?_ GE595.out | refine below_set ?_ GE600.out) | exact HB.out)⟩
          · replace c42 := Bool.eq_false_iff.mpr c42
            subst c42
            have H1 : (if t599 = 0 then ((some (([a0_0, a0_1] : List Int) : List Int)).bind fun y605 => (ephemerislaw2_TrigArcs.l0 kj7 y605 (y605.length : Int) 0 a0_0 a0_1 a1_0 a1_1 t597 t598)) else ((ephemerislaw2_none.f t597 t598 t599 11).bind fun t604 => (if t604 = true then (if a0_0 < a0_1 then (some true) else (some (decide (a1_0 < a1_1)))) else (some false)))) = some r := by rw [if_neg (show ¬ (false = true) by decide)] at H; exact H
            clear H
            have H := H1
            clear H1
            by_cases c48 : t599 = 0
            · rw [if_pos c48] at H
              have c48b0 : (t599 == 0) = true := beq_iff_eq.mpr c48
              have c48b1 : (t599 != 0) = false := bne_eq_false_iff_eq.mpr c48
              clear c48
              obtain ⟨y605, hy605⟩ : ∃ y_ : List Int, y_ = (([a0_0, a0_1] : List Int)) := ⟨_, rfl⟩
              replace H : (ephemerislaw2_TrigArcs.l0 kj7 y605 (y605.length : Int) 0 a0_0 a0_1 a1_0 a1_1 t597 t598) = some r := by first | (rw [hy605]; with_reducible exact H) | (have H2_ := (Option.bind_some _ _).symm.trans H; rw [hy605]; with_reducible exact H2_) | (have H2_ := (Option.bind_some _ _).symm.trans H; with_reducible exact H2_) | with_reducible exact H | (rw [hy605]; exact H) | exact H
              have Ny605 := Aside0.mk hy605
              clear hy605
              have H' := Aside0.mk H
              clear H
              have hnb49 := NB594_595.out
              have hnc49 := NB595_594.out
              have hnb50 := NB594_600.out
              have hnc50 := NB600_594.out
              have hcz51_0 : wc.cell? ⟨gb594, 0, none⟩ = some (.int .i64 a0_0) := (blk_cell BK594.out 0).trans rfl
              have hcz51_1 : wc.cell? ⟨gb594, 1, none⟩ = some (.int .i64 a0_1) := (blk_cell BK594.out 1).trans rfl
              have hfz51_0 := blk_frozen BK594.out 0
              have hfz51_1 := blk_frozen BK594.out 1
              go_wp2_with (first | ((with_reducible refine gate_dst (N := 75) rfl ?_); refine Kd.R_lit (Kd.int .i64) _ 3 ?hg (N := 75) ?hd (xs := ([a0_0, a0_1] : List Int)) (inner := [.int .i64 a0_0, .int .i64 a0_1]) (ok := fun _ => True) (okp := fun _ => True) ?hr ?hp (fun _ hk => hk) trivial (Below.refl _ _) (Nat.le_refl _) (by simp) ?_; (case hd => rfl); (case hg => rfl); (case hr => first | (go_simp; done) | (go_simp; rfl)); (case hp => exact (Reps.one (show Kd.M (Kd.int .i64) _ _ _ a0_0 [.int .i64 a0_0] from rfl) (Reps.one (show Kd.M (Kd.int .i64) _ _ _ a0_1 [.int .i64 a0_1] from rfl) (Reps.none _ _)))); intro v606 w52 ho53 hb hg_ hnew_; clear hg_ hnew_; (first | rw [← Ny605.out] at ho53 | (simp only [Int.reduceToNat] at ho53; rw [← Ny605.out] at ho53)); have n0_ := Aside0.mk (Kd.R_lower ho53 (below_size (by repeat (first | (with_reducible first | exact HB.out | apply below_alloc | apply pw_below_drewN | apply below_drew1 | refine below_set ?_ GE594.out | refine below_set ?_ GE595.out | refine below_set ?_ GE600.out) | exact HB.out)))); have n1_ := Aside0.mk (blk_below (g := gb594) (o := .cells #[.int .i64 a0_0, .int .i64 a0_1] 24 (0, 0)) (by (with_reducible repeat (first | refine blk_drewN ?_ _ | refine blk_drew ?_ | refine blk_alloc ?_ _)); exact BK594.out) hb); have n2_ := Aside0.mk (blk_below (g := gb595) (o := .cells #[.int .i64 a1_0, .int .i64 a1_1] 24 (0, 0)) (by (with_reducible repeat (first | refine blk_drewN ?_ _ | refine blk_drew ?_ | refine blk_alloc ?_ _)); exact BK595.out) hb); have n3_ := Aside0.mk (blk_below (g := gb600) (o := .cells #[.int .i64 t597, .int .i64 t598] 24 (0, 0)) (by (with_reducible repeat (first | refine blk_drewN ?_ _ | refine blk_drew ?_ | refine blk_alloc ?_ _)); exact BK600.out) hb); have n4_ := Aside0.mk (below_step (by repeat (first | (with_reducible first | exact HB.out | apply below_alloc | apply pw_below_drewN | apply below_drew1 | refine below_set ?_ GE594.out | refine below_set ?_ GE595.out | refine below_set ?_ GE600.out) | exact HB.out)) hb); clear BK594; clear BK595; clear BK600; clear HB; have HO607 := n0_; have BK594 := n1_; have BK595 := n2_; have BK600 := n3_; have HB := n4_; clear n0_ n1_ n2_ n3_ n4_; clear hb ho53; obtain ⟨Ao54, co54, eo54⟩ := Kd.R_slice HO607.out; subst eo54))
              go_loopg [77] kj7 (fun kq v77 w' => ∃ (x77_2 : Int), v77 = .int .i64 x77_2 ∧ Aside0 (ephemerislaw2_TrigArcs.l0 kq y605 (y605.length : Int) x77_2 a0_0 a0_1 a1_0 a1_1 t597 t598 = some r) ∧ Aside0 (kq ≤ kj7) ∧ Aside0 (Kd.R (Kd.int .i64) 3 w' w.heap.size (fun _ => True) (.slice Ao54 y605.length co54) y605) ∧ Aside0 (w'.heap[gb594]? = some (.cells #[.int .i64 a0_0, .int .i64 a0_1] 24 (0, 0))) ∧ Aside0 (w'.heap[gb595]? = some (.cells #[.int .i64 a1_0, .int .i64 a1_1] 24 (0, 0))) ∧ Aside0 (w'.heap[gb600]? = some (.cells #[.int .i64 t597, .int .i64 t598] 24 (0, 0))) ∧ Aside0 (Below w.heap.size w w'))
              case atStart => exact ⟨(0), (by first | rfl | (simp; done) | (simp [*]; done)), H', ⟨Nat.le_refl _⟩, ⟨by (with_reducible repeat (first | apply Kd.R_alloc | apply Kd.R_drewN | apply Kd.R_drew)); exact HO607.out⟩, ⟨by (with_reducible repeat (first | refine blk_drewN ?_ _ | refine blk_drew ?_ | refine blk_alloc ?_ _)); exact BK594.out⟩, ⟨by (with_reducible repeat (first | refine blk_drewN ?_ _ | refine blk_drew ?_ | refine blk_alloc ?_ _)); exact BK595.out⟩, ⟨by (with_reducible repeat (first | refine blk_drewN ?_ _ | refine blk_drew ?_ | refine blk_alloc ?_ _)); exact BK600.out⟩, ⟨by repeat (first | (with_reducible first | exact HB.out | apply below_alloc | apply pw_below_drewN | apply below_drew1 | refine below_set ?_ GE594.out | refine below_set ?_ GE595.out | refine below_set ?_ GE600.out) | exact HB.out)⟩⟩
              case round =>
                clear H'
                try clear c1
                try clear c2
                try clear p2
                try clear c3
                try clear c4
                try clear c5
                try clear c7
                try clear c7b0
                try clear c7b1
                try clear c12
                try clear c16
                try clear c17
                try clear c18
                try clear c20
                try clear c23
                try clear c23b0
                try clear c24
                try clear c24b0
                try clear c25
                try clear c25b0
                try clear c26
                try clear c27
                try clear c29
                try clear c31
                try clear c32
                try clear c34
                try clear c36
                try clear c37
                try clear c39
                try clear c40
                try clear c42
                try clear c44
                try clear c45
                try clear c48
                try clear c48b0
                try clear c48b1
                try clear c49
                try clear c50
                try clear hcz13_0
                try clear hcz13_1
                try clear hcz14_0
                try clear hcz14_1
                try clear hcz19_0
                try clear hcz19_1
                try clear hcz20_0
                try clear hcz20_1
                try clear hcz21_0
                try clear hcz21_1
                try clear hcz28_0
                try clear hcz28_1
                try clear hcz30_0
                try clear hcz30_1
                try clear hcz33_0
                try clear hcz33_1
                try clear hcz35_0
                try clear hcz35_1
                try clear hcz38_0
                try clear hcz38_1
                try clear hcz41_0
                try clear hcz41_1
                try clear hcz46_0
                try clear hcz46_1
                try clear hcz51_0
                try clear hcz51_1
                try clear hfz13_0
                try clear hfz13_1
                try clear hfz14_0
                try clear hfz14_1
                try clear hfz19_0
                try clear hfz19_1
                try clear hfz20_0
                try clear hfz20_1
                try clear hfz21_0
                try clear hfz21_1
                try clear hfz28_0
                try clear hfz28_1
                try clear hfz30_0
                try clear hfz30_1
                try clear hfz33_0
                try clear hfz33_1
                try clear hfz35_0
                try clear hfz35_1
                try clear hfz38_0
                try clear hfz38_1
                try clear hfz41_0
                try clear hfz41_1
                try clear hfz46_0
                try clear hfz46_1
                try clear hfz51_0
                try clear hfz51_1
                try clear p2
                obtain ⟨x77_2, rfl, HA, HK2, HO_75, BK594, BK595, BK600, HB⟩ := hrel
                cases gk with
                | zero => exact absurd HA.out (by simp [ephemerislaw2_TrigArcs.l0])
                | succ k2 =>
                  have H := HA.out
                  clear HA
                  simp only [ephemerislaw2_TrigArcs.l0] at H
                  by_cases c55 : x77_2 < (y605.length : Int)
                  · rw [if_pos c55] at H
                    have c55b0 : decide (x77_2 < (y605.length : Int)) = true := decide_eq_true c55
                    clear c55
                    by_cases c56 : 0 ≤ x77_2
                    · rw [if_pos c56] at H
                      have c56b0 : decide (0 ≤ x77_2) = true := decide_eq_true c56
                      clear c56
                      by_cases c57 : x77_2 < (y605.length : Int)
                      · rw [if_pos c57] at H
                        have c57b0 : decide (x77_2 < (y605.length : Int)) = true := decide_eq_true c57
                        clear c57
                        obtain ⟨y609, hy609⟩ : ∃ y_ : List Int, y_ = (([a1_0, a1_1] : List Int)) := ⟨_, rfl⟩
                        replace H : (ephemerislaw2_TrigArcs.l1 k2 (rd y605 x77_2) y605 (y605.length : Int) x77_2 y609 (y609.length : Int) 0 a0_0 a0_1 a1_0 a1_1 t597 t598) = some r := by first | (rw [hy609]; with_reducible exact H) | (have H2_ := (Option.bind_some _ _).symm.trans H; rw [hy609]; with_reducible exact H2_) | (have H2_ := (Option.bind_some _ _).symm.trans H; with_reducible exact H2_) | with_reducible exact H | (rw [hy609]; exact H) | exact H
                        have Ny609 := Aside0.mk hy609
                        clear hy609
                        have H' := Aside0.mk H
                        clear H
                        have p608 : 0 ≤ (x77_2 : Int) := of_decide_eq_true (by first | (with_reducible assumption) | assumption)
                        have q608 : x77_2 < (y605.length : Int) := of_decide_eq_true (by first | (with_reducible assumption) | assumption)
                        obtain ⟨ad608, e608, hx608_0⟩ := Kd.at_int (Kd.R_reads' HO_75.out).2.2 x77_2 p608 q608
                        cases e608
                        replace p608 := eq_true p608
                        replace q608 := eq_true q608
                        have hnb58 := NB595_594.out
                        have hnc58 := NB594_595.out
                        have hnb59 := NB595_600.out
                        have hnc59 := NB600_595.out
                        have hcz60_0 : wr.cell? ⟨gb595, 0, none⟩ = some (.int .i64 a1_0) := (blk_cell BK595.out 0).trans rfl
                        have hcz60_1 : wr.cell? ⟨gb595, 1, none⟩ = some (.int .i64 a1_1) := (blk_cell BK595.out 1).trans rfl
                        have hfz60_0 := blk_frozen BK595.out 0
                        have hfz60_1 := blk_frozen BK595.out 1
                        go_wp2_with (first | ((with_reducible refine gate_dst (N := 85) rfl ?_); refine Kd.R_lit (Kd.int .i64) _ 3 ?hg (N := 85) ?hd (xs := ([a1_0, a1_1] : List Int)) (inner := [.int .i64 a1_0, .int .i64 a1_1]) (ok := fun _ => True) (okp := fun _ => True) ?hr ?hp (fun _ hk => hk) trivial (Below.refl _ _) (Nat.le_refl _) (by simp) ?_; (case hd => rfl); (case hg => rfl); (case hr => first | (go_simp; done) | (go_simp; rfl)); (case hp => exact (Reps.one (show Kd.M (Kd.int .i64) _ _ _ a1_0 [.int .i64 a1_0] from rfl) (Reps.one (show Kd.M (Kd.int .i64) _ _ _ a1_1 [.int .i64 a1_1] from rfl) (Reps.none _ _)))); intro v610 w61 ho62 hb hg_ hnew_; clear hg_ hnew_; (first | rw [← Ny609.out] at ho62 | (simp only [Int.reduceToNat] at ho62; rw [← Ny609.out] at ho62)); have n0_ := Aside0.mk (Kd.R_elder' (by (with_reducible repeat (first | apply Kd.R_alloc | apply Kd.R_drewN | apply Kd.R_drew)); exact HO_75.out) (Kd.R_base ho62) hb); have n1_ := Aside0.mk (Kd.R_lower (Kd.R_new' ho62 (Kd.R_lt (by (with_reducible repeat (first | apply Kd.R_alloc | apply Kd.R_drewN | apply Kd.R_drew)); exact HO_75.out))) (below_size (by repeat (first | (with_reducible first | exact HB.out | apply below_alloc | apply pw_below_drewN | apply below_drew1 | refine below_set ?_ GE594.out | refine below_set ?_ GE595.out | refine below_set ?_ GE600.out) | exact HB.out)))); have n2_ := Aside0.mk (blk_below (g := gb594) (o := .cells #[.int .i64 a0_0, .int .i64 a0_1] 24 (0, 0)) (by (with_reducible repeat (first | refine blk_drewN ?_ _ | refine blk_drew ?_ | refine blk_alloc ?_ _)); exact BK594.out) hb); have n3_ := Aside0.mk (blk_below (g := gb595) (o := .cells #[.int .i64 a1_0, .int .i64 a1_1] 24 (0, 0)) (by (with_reducible repeat (first | refine blk_drewN ?_ _ | refine blk_drew ?_ | refine blk_alloc ?_ _)); exact BK595.out) hb); have n4_ := Aside0.mk (blk_below (g := gb600) (o := .cells #[.int .i64 t597, .int .i64 t598] 24 (0, 0)) (by (with_reducible repeat (first | refine blk_drewN ?_ _ | refine blk_drew ?_ | refine blk_alloc ?_ _)); exact BK600.out) hb); have n5_ := Aside0.mk (below_step (by repeat (first | (with_reducible first | exact HB.out | apply below_alloc | apply pw_below_drewN | apply below_drew1 | refine below_set ?_ GE594.out | refine below_set ?_ GE595.out | refine below_set ?_ GE600.out) | exact HB.out)) hb); clear HO_75; clear BK594; clear BK595; clear BK600; clear HB; have HO_75 := n0_; have HO611 := n1_; have BK594 := n2_; have BK595 := n3_; have BK600 := n4_; have HB := n5_; clear n0_ n1_ n2_ n3_ n4_ n5_; clear hb ho62; obtain ⟨Ao63, co63, eo63⟩ := Kd.R_slice HO611.out; subst eo63))
                        go_loopg [87] k2 (fun kq v87 w' => ∃ (x87_3 : Int), v87 = .int .i64 x87_3 ∧ Aside0 (ephemerislaw2_TrigArcs.l1 kq (rd y605 x77_2) y605 (y605.length : Int) x77_2 y609 (y609.length : Int) x87_3 a0_0 a0_1 a1_0 a1_1 t597 t598 = some r) ∧ Aside0 (kq ≤ k2) ∧ Aside0 (Kd.R (Kd.int .i64) 3 w' w.heap.size (fun k_ => some k_ ≠ ((.slice Ao63 y609.length co63) : Value).ownBlock) (.slice (some ad608) y605.length co54) y605) ∧ Aside0 (Kd.R (Kd.int .i64) 3 w' w.heap.size (fun k_ => some k_ ≠ ((.slice (some ad608) y605.length co54) : Value).ownBlock) (.slice Ao63 y609.length co63) y609) ∧ Aside0 (w'.heap[gb594]? = some (.cells #[.int .i64 a0_0, .int .i64 a0_1] 24 (0, 0))) ∧ Aside0 (w'.heap[gb595]? = some (.cells #[.int .i64 a1_0, .int .i64 a1_1] 24 (0, 0))) ∧ Aside0 (w'.heap[gb600]? = some (.cells #[.int .i64 t597, .int .i64 t598] 24 (0, 0))) ∧ Aside0 (Below w.heap.size w w'))
                        case atStart => exact ⟨(0), (by first | rfl | (simp; done) | (simp [*]; done)), H', ⟨Nat.le_refl _⟩, ⟨by (with_reducible repeat (first | apply Kd.R_alloc | apply Kd.R_drewN | apply Kd.R_drew)); exact Kd.R_mono HO_75.out (fun _ hk => hk.2)⟩, ⟨by (with_reducible repeat (first | apply Kd.R_alloc | apply Kd.R_drewN | apply Kd.R_drew)); exact Kd.R_mono HO611.out (fun _ hk => hk.2)⟩, ⟨by (with_reducible repeat (first | refine blk_drewN ?_ _ | refine blk_drew ?_ | refine blk_alloc ?_ _)); exact BK594.out⟩, ⟨by (with_reducible repeat (first | refine blk_drewN ?_ _ | refine blk_drew ?_ | refine blk_alloc ?_ _)); exact BK595.out⟩, ⟨by (with_reducible repeat (first | refine blk_drewN ?_ _ | refine blk_drew ?_ | refine blk_alloc ?_ _)); exact BK600.out⟩, ⟨by repeat (first | (with_reducible first | exact HB.out | apply below_alloc | apply pw_below_drewN | apply below_drew1 | refine below_set ?_ GE594.out | refine below_set ?_ GE595.out | refine below_set ?_ GE600.out) | exact HB.out)⟩⟩
                        case round =>
                          clear H'
                          try clear c1
                          try clear c2
                          try clear p2
                          try clear c3
                          try clear c4
                          try clear c5
                          try clear p6
                          try clear q6
                          try clear hx6
                          try clear c7
                          try clear c7b0
                          try clear c7b1
                          try clear c12
                          try clear c16
                          try clear c17
                          try clear c18
                          try clear c20
                          try clear c23
                          try clear c23b0
                          try clear c24
                          try clear c24b0
                          try clear c25
                          try clear c25b0
                          try clear c26
                          try clear c27
                          try clear c29
                          try clear c31
                          try clear c32
                          try clear c34
                          try clear c36
                          try clear c37
                          try clear c39
                          try clear c40
                          try clear c42
                          try clear c44
                          try clear c45
                          try clear c48
                          try clear c48b0
                          try clear c48b1
                          try clear c49
                          try clear c50
                          try clear c55
                          try clear c55b0
                          try clear c56
                          try clear c56b0
                          try clear c57
                          try clear c57b0
                          try clear c58
                          try clear c59
                          try clear p60
                          try clear q60
                          try clear hx60
                          try clear hcz13_0
                          try clear hcz13_1
                          try clear hcz14_0
                          try clear hcz14_1
                          try clear hcz19_0
                          try clear hcz19_1
                          try clear hcz20_0
                          try clear hcz20_1
                          try clear hcz21_0
                          try clear hcz21_1
                          try clear hcz28_0
                          try clear hcz28_1
                          try clear hcz30_0
                          try clear hcz30_1
                          try clear hcz33_0
                          try clear hcz33_1
                          try clear hcz35_0
                          try clear hcz35_1
                          try clear hcz38_0
                          try clear hcz38_1
                          try clear hcz41_0
                          try clear hcz41_1
                          try clear hcz46_0
                          try clear hcz46_1
                          try clear hcz51_0
                          try clear hcz51_1
                          try clear hcz60_0
                          try clear hcz60_1
                          try clear hfz13_0
                          try clear hfz13_1
                          try clear hfz14_0
                          try clear hfz14_1
                          try clear hfz19_0
                          try clear hfz19_1
                          try clear hfz20_0
                          try clear hfz20_1
                          try clear hfz21_0
                          try clear hfz21_1
                          try clear hfz28_0
                          try clear hfz28_1
                          try clear hfz30_0
                          try clear hfz30_1
                          try clear hfz33_0
                          try clear hfz33_1
                          try clear hfz35_0
                          try clear hfz35_1
                          try clear hfz38_0
                          try clear hfz38_1
                          try clear hfz41_0
                          try clear hfz41_1
                          try clear hfz46_0
                          try clear hfz46_1
                          try clear hfz51_0
                          try clear hfz51_1
                          try clear hfz60_0
                          try clear hfz60_1
                          try clear hx608_0
                          try clear p2
                          try clear p608
                          try clear q608
                          obtain ⟨x87_3, rfl, HA, HK3, HO_75, HO_85, BK594, BK595, BK600, HB⟩ := hrel
                          cases gk with
                          | zero => exact absurd HA.out (by simp [ephemerislaw2_TrigArcs.l1])
                          | succ k3 =>
                            have H := HA.out
                            clear HA
                            simp only [ephemerislaw2_TrigArcs.l1] at H
                            by_cases c64 : x87_3 < (y609.length : Int)
                            · rw [if_pos c64] at H
                              have c64b0 : decide (x87_3 < (y609.length : Int)) = true := decide_eq_true c64
                              clear c64
                              by_cases c65 : 0 ≤ x87_3
                              · rw [if_pos c65] at H
                                have c65b0 : decide (0 ≤ x87_3) = true := decide_eq_true c65
                                clear c65
                                by_cases c66 : x87_3 < (y609.length : Int)
                                · rw [if_pos c66] at H
                                  have c66b0 : decide (x87_3 < (y609.length : Int)) = true := decide_eq_true c66
                                  clear c66
                                  have H' := Aside0.mk H
                                  clear H
                                  have p612 : 0 ≤ (x87_3 : Int) := of_decide_eq_true (by first | (with_reducible assumption) | assumption)
                                  have q612 : x87_3 < (y609.length : Int) := of_decide_eq_true (by first | (with_reducible assumption) | assumption)
                                  obtain ⟨ad612, e612, hx612_0⟩ := Kd.at_int (Kd.R_reads' HO_85.out).2.2 x87_3 p612 q612
                                  cases e612
                                  replace p612 := eq_true p612
                                  replace q612 := eq_true q612
                                  go_wp2
                                  go_loopg [12, 13] k3 (fun kq v12 v13 w' => ∃ (x12_4 : Int) (x13_4 : Int), v12 = .int .i64 x12_4 ∧ v13 = .int .i64 x13_4 ∧ Aside0 (ephemerislaw2_TrigArcs.l2 kq (rd y605 x77_2) x12_4 x13_4 y605 (y605.length : Int) x77_2 y609 (y609.length : Int) x87_3 a0_0 a0_1 a1_0 a1_1 t597 t598 = some r) ∧ Aside0 (kq ≤ k3) ∧ Aside0 (Kd.R (Kd.int .i64) 3 w' w.heap.size (fun k_ => some k_ ≠ ((.slice (some ad612) y609.length co63) : Value).ownBlock) (.slice (some ad608) y605.length co54) y605) ∧ Aside0 (Kd.R (Kd.int .i64) 3 w' w.heap.size (fun k_ => some k_ ≠ ((.slice (some ad608) y605.length co54) : Value).ownBlock) (.slice (some ad612) y609.length co63) y609) ∧ Aside0 (w'.heap[gb594]? = some (.cells #[.int .i64 a0_0, .int .i64 a0_1] 24 (0, 0))) ∧ Aside0 (w'.heap[gb595]? = some (.cells #[.int .i64 a1_0, .int .i64 a1_1] 24 (0, 0))) ∧ Aside0 (w'.heap[gb600]? = some (.cells #[.int .i64 t597, .int .i64 t598] 24 (0, 0))) ∧ Aside0 (Below w.heap.size w w'))
                                  case atStart => exact ⟨((rd y605 x77_2)), (rd y609 x87_3), (by first | rfl | (simp; done) | (simp [*]; done)), (by first | rfl | (simp; done) | (simp [*]; done)), H', ⟨Nat.le_refl _⟩, ⟨by (with_reducible repeat (first | apply Kd.R_alloc | apply Kd.R_drewN | apply Kd.R_drew)); exact HO_75.out⟩, ⟨by (with_reducible repeat (first | apply Kd.R_alloc | apply Kd.R_drewN | apply Kd.R_drew)); exact HO_85.out⟩, ⟨by (with_reducible repeat (first | refine blk_drewN ?_ _ | refine blk_drew ?_ | refine blk_alloc ?_ _)); exact BK594.out⟩, ⟨by (with_reducible repeat (first | refine blk_drewN ?_ _ | refine blk_drew ?_ | refine blk_alloc ?_ _)); exact BK595.out⟩, ⟨by (with_reducible repeat (first | refine blk_drewN ?_ _ | refine blk_drew ?_ | refine blk_alloc ?_ _)); exact BK600.out⟩, ⟨by repeat (first | (with_reducible first | exact HB.out | apply below_alloc | apply pw_below_drewN | apply below_drew1 | refine below_set ?_ GE594.out | refine below_set ?_ GE595.out | refine below_set ?_ GE600.out) | exact HB.out)⟩⟩
                                  case round =>
                                    clear H'
                                    try clear c1
                                    try clear c2
                                    try clear p2
                                    try clear c3
                                    try clear c4
                                    try clear c5
                                    try clear c6
                                    try clear p6
                                    try clear q6
                                    try clear hx6
                                    try clear c7
                                    try clear c7b0
                                    try clear c7b1
                                    try clear c12
                                    try clear c16
                                    try clear c17
                                    try clear c18
                                    try clear c20
                                    try clear c23
                                    try clear c23b0
                                    try clear c24
                                    try clear c24b0
                                    try clear c25
                                    try clear c25b0
                                    try clear c26
                                    try clear c27
                                    try clear c29
                                    try clear c31
                                    try clear c32
                                    try clear c34
                                    try clear c36
                                    try clear c37
                                    try clear c39
                                    try clear c40
                                    try clear c42
                                    try clear c44
                                    try clear c45
                                    try clear c48
                                    try clear c48b0
                                    try clear c48b1
                                    try clear c49
                                    try clear c50
                                    try clear c55
                                    try clear c55b0
                                    try clear c56
                                    try clear c56b0
                                    try clear c57
                                    try clear c57b0
                                    try clear c58
                                    try clear c59
                                    try clear p60
                                    try clear q60
                                    try clear hx60
                                    try clear p61
                                    try clear q61
                                    try clear hx61
                                    try clear c64
                                    try clear c64b0
                                    try clear c65
                                    try clear c65b0
                                    try clear c66
                                    try clear c66b0
                                    try clear hcz13_0
                                    try clear hcz13_1
                                    try clear hcz14_0
                                    try clear hcz14_1
                                    try clear hcz19_0
                                    try clear hcz19_1
                                    try clear hcz20_0
                                    try clear hcz20_1
                                    try clear hcz21_0
                                    try clear hcz21_1
                                    try clear hcz28_0
                                    try clear hcz28_1
                                    try clear hcz30_0
                                    try clear hcz30_1
                                    try clear hcz33_0
                                    try clear hcz33_1
                                    try clear hcz35_0
                                    try clear hcz35_1
                                    try clear hcz38_0
                                    try clear hcz38_1
                                    try clear hcz41_0
                                    try clear hcz41_1
                                    try clear hcz46_0
                                    try clear hcz46_1
                                    try clear hcz51_0
                                    try clear hcz51_1
                                    try clear hcz60_0
                                    try clear hcz60_1
                                    try clear hfz13_0
                                    try clear hfz13_1
                                    try clear hfz14_0
                                    try clear hfz14_1
                                    try clear hfz19_0
                                    try clear hfz19_1
                                    try clear hfz20_0
                                    try clear hfz20_1
                                    try clear hfz21_0
                                    try clear hfz21_1
                                    try clear hfz28_0
                                    try clear hfz28_1
                                    try clear hfz30_0
                                    try clear hfz30_1
                                    try clear hfz33_0
                                    try clear hfz33_1
                                    try clear hfz35_0
                                    try clear hfz35_1
                                    try clear hfz38_0
                                    try clear hfz38_1
                                    try clear hfz41_0
                                    try clear hfz41_1
                                    try clear hfz46_0
                                    try clear hfz46_1
                                    try clear hfz51_0
                                    try clear hfz51_1
                                    try clear hfz60_0
                                    try clear hfz60_1
                                    try clear hx608_0
                                    try clear hx612_0
                                    try clear p2
                                    try clear p6
                                    try clear p60
                                    try clear p608
                                    try clear p612
                                    try clear q6
                                    try clear q60
                                    try clear q608
                                    try clear q612
                                    obtain ⟨x12_4, x13_4, rfl, rfl, HA, HK4, HO_75, HO_85, BK594, BK595, BK600, HB⟩ := hrel
                                    cases gk with
                                    | zero => exact absurd HA.out (by simp [ephemerislaw2_TrigArcs.l2])
                                    | succ k4 =>
                                      have H := HA.out
                                      clear HA
                                      simp only [ephemerislaw2_TrigArcs.l2] at H
                                      replace H := Option.bind_eq_some_iff.mp H
                                      obtain ⟨t613, A670, H⟩ := H
                                      replace H : (if t613 = true then ((ephemerisref2_InArc.f k4 t597 t598 x12_4 x13_4).bind fun t614 => (if t614 = true then (ephemerislaw2_TrigArcs.l1 k4 (rd y605 x77_2) y605 (y605.length : Int) x77_2 y609 (y609.length : Int) (wrap64 (x87_3 + 1)) a0_0 a0_1 a1_0 a1_1 t597 t598) else (some false))) else ((ephemerislaw2_beyond.f x13_4 288230376151711744).bind fun t615 => (if t615 = true then ((ephemerisref2_InArc.f k4 t597 t598 x12_4 x13_4).bind fun t616 => (if t616 = true then (ephemerislaw2_TrigArcs.l1 k4 (rd y605 x77_2) y605 (y605.length : Int) x77_2 y609 (y609.length : Int) (wrap64 (x87_3 + 1)) a0_0 a0_1 a1_0 a1_1 t597 t598) else (some false))) else (ephemerislaw2_TrigArcs.l2 k4 (rd y605 x77_2) (wrap64 (2 * x12_4)) (wrap64 (2 * x13_4)) y605 (y605.length : Int) x77_2 y609 (y609.length : Int) x87_3 a0_0 a0_1 a1_0 a1_1 t597 t598)))) = some r := H
                                      have A67 := Aside0.mk A670
                                      clear A670
                                      by_cases c68 : t613 = true
                                      · subst c68
                                        have H1 : ((ephemerisref2_InArc.f k4 t597 t598 x12_4 x13_4).bind fun t614 => (if t614 = true then (ephemerislaw2_TrigArcs.l1 k4 (rd y605 x77_2) y605 (y605.length : Int) x77_2 y609 (y609.length : Int) (wrap64 (x87_3 + 1)) a0_0 a0_1 a1_0 a1_1 t597 t598) else (some false))) = some r := by rw [if_pos rfl] at H; exact H
                                        clear H
                                        have H := H1
                                        clear H1
                                        replace H := Option.bind_eq_some_iff.mp H
                                        obtain ⟨t614, A690, H⟩ := H
                                        replace H : (if t614 = true then (ephemerislaw2_TrigArcs.l1 k4 (rd y605 x77_2) y605 (y605.length : Int) x77_2 y609 (y609.length : Int) (wrap64 (x87_3 + 1)) a0_0 a0_1 a1_0 a1_1 t597 t598) else (some false)) = some r := H
                                        have A69 := Aside0.mk A690
                                        clear A690
                                        by_cases c70 : t614 = true
                                        · subst c70
                                          have H1 : (ephemerislaw2_TrigArcs.l1 k4 (rd y605 x77_2) y605 (y605.length : Int) x77_2 y609 (y609.length : Int) (wrap64 (x87_3 + 1)) a0_0 a0_1 a1_0 a1_1 t597 t598) = some r := by rw [if_pos rfl] at H; exact H
                                          clear H
                                          have H := H1
                                          clear H1
                                          have H' := Aside0.mk H
                                          clear H
                                          go_wp2_with (first | ((with_reducible refine gate_callee (f := 19) rfl ?_); refine goesL_ (some 94) rfl rfl Try.func19 (by kernel_rfl) rfl #[.int .i64 x12_4, .int .i64 288230376151711744] rfl (by (try simp only [List.map_toArray, List.map_cons, List.map_nil]); first | done | rfl | (simp only [List.length_drop, List.length_take]; rfl)) ?_; (with_reducible refine (ephemerislaw2_beyond.calls x12_4 288230376151711744 true _ A67.out).mono ?_); rintro e w' ⟨rfl, ⟨nd, rfl⟩⟩; refine ⟨_, rfl, ?_⟩; have hnb71 := NB600_594.out; have hnc71 := NB594_600.out; have hnb72 := NB600_595.out; have hnc72 := NB595_600.out; have hcz73_0 : wr.cell? ⟨gb600, 0, none⟩ = some (.int .i64 t597) := (blk_cell BK600.out 0).trans rfl; have hcz73_1 : wr.cell? ⟨gb600, 1, none⟩ = some (.int .i64 t598) := (blk_cell BK600.out 1).trans rfl; have hfz73_0 := blk_frozen BK600.out 0; have hfz73_1 := blk_frozen BK600.out 1) | ((with_reducible refine gate_callee (f := 26) rfl ?_); refine goesL_ (some 108) rfl rfl Try.func26 (by kernel_rfl) rfl #[.agg #[.int .i64 t597, .int .i64 t598], .int .i64 x12_4, .int .i64 x13_4] rfl (by (try simp only [List.map_toArray, List.map_cons, List.map_nil]); first | done | rfl | (simp only [List.length_drop, List.length_take]; rfl)) ?_; (with_reducible refine (ephemerisref2_InArc.calls k4 t597 t598 x12_4 x13_4 true _ A69.out).mono ?_); rintro e w74 ⟨rfl, hb⟩; refine ⟨_, rfl, ?_⟩; have n0_ := Aside0.mk (Kd.R_below (by (with_reducible repeat (first | apply Kd.R_alloc | apply Kd.R_drewN | apply Kd.R_drew)); exact HO_75.out) hb); have n1_ := Aside0.mk (Kd.R_below (by (with_reducible repeat (first | apply Kd.R_alloc | apply Kd.R_drewN | apply Kd.R_drew)); exact HO_85.out) hb); have n2_ := Aside0.mk (blk_below (g := gb594) (o := .cells #[.int .i64 a0_0, .int .i64 a0_1] 24 (0, 0)) (by (with_reducible repeat (first | refine blk_drewN ?_ _ | refine blk_drew ?_ | refine blk_alloc ?_ _)); exact BK594.out) hb); have n3_ := Aside0.mk (blk_below (g := gb595) (o := .cells #[.int .i64 a1_0, .int .i64 a1_1] 24 (0, 0)) (by (with_reducible repeat (first | refine blk_drewN ?_ _ | refine blk_drew ?_ | refine blk_alloc ?_ _)); exact BK595.out) hb); have n4_ := Aside0.mk (blk_below (g := gb600) (o := .cells #[.int .i64 t597, .int .i64 t598] 24 (0, 0)) (by (with_reducible repeat (first | refine blk_drewN ?_ _ | refine blk_drew ?_ | refine blk_alloc ?_ _)); exact BK600.out) hb); have n5_ := Aside0.mk (below_step (by repeat (first | (with_reducible first | exact HB.out | apply below_alloc | apply pw_below_drewN | apply below_drew1 | refine below_set ?_ GE594.out | refine below_set ?_ GE595.out | refine below_set ?_ GE600.out) | exact HB.out)) hb); clear HO_75; clear HO_85; clear BK594; clear BK595; clear BK600; clear HB; have HO_75 := n0_; have HO_85 := n1_; have BK594 := n2_; have BK595 := n3_; have BK600 := n4_; have HB := n5_; clear n0_ n1_ n2_ n3_ n4_ n5_; (try clear hb); (try clear hb2); (try clear hk); (try clear hi)))
                                          go_roundg k4
                                          case measure => have := HJ7.out; have := HK2.out; have := HK3.out; have := HK4.out; omega
                                          case rel => exact ⟨(wrap64 (x87_3 + 1)), (by first | rfl | (simp; done) | (simp [*]; done)), H', ⟨by have := HJ7.out; have := HK2.out; have := HK3.out; have := HK4.out; omega⟩, ⟨by (with_reducible repeat (first | apply Kd.R_alloc | apply Kd.R_drewN | apply Kd.R_drew)); exact HO_75.out⟩, ⟨by (with_reducible repeat (first | apply Kd.R_alloc | apply Kd.R_drewN | apply Kd.R_drew)); exact HO_85.out⟩, ⟨by (with_reducible repeat (first | refine blk_drewN ?_ _ | refine blk_drew ?_ | refine blk_alloc ?_ _)); exact BK594.out⟩, ⟨by (with_reducible repeat (first | refine blk_drewN ?_ _ | refine blk_drew ?_ | refine blk_alloc ?_ _)); exact BK595.out⟩, ⟨by (with_reducible repeat (first | refine blk_drewN ?_ _ | refine blk_drew ?_ | refine blk_alloc ?_ _)); exact BK600.out⟩, ⟨by repeat (first | (with_reducible first | exact HB.out | apply below_alloc | apply pw_below_drewN | apply below_drew1 | refine below_set ?_ GE594.out | refine below_set ?_ GE595.out | refine below_set ?_ GE600.out) | exact HB.out)⟩⟩
                                        · replace c70 := Bool.eq_false_iff.mpr c70
                                          subst c70
                                          have H1 : (some false) = some r := by rw [if_neg (show ¬ (false = true) by decide)] at H; exact H
                                          clear H
                                          have H := H1
                                          clear H1
                                          obtain rfl := Option.some.inj H
                                          exact absurd hT (by decide)
                                      · replace c68 := Bool.eq_false_iff.mpr c68
                                        subst c68
                                        have H1 : ((ephemerislaw2_beyond.f x13_4 288230376151711744).bind fun t615 => (if t615 = true then ((ephemerisref2_InArc.f k4 t597 t598 x12_4 x13_4).bind fun t616 => (if t616 = true then (ephemerislaw2_TrigArcs.l1 k4 (rd y605 x77_2) y605 (y605.length : Int) x77_2 y609 (y609.length : Int) (wrap64 (x87_3 + 1)) a0_0 a0_1 a1_0 a1_1 t597 t598) else (some false))) else (ephemerislaw2_TrigArcs.l2 k4 (rd y605 x77_2) (wrap64 (2 * x12_4)) (wrap64 (2 * x13_4)) y605 (y605.length : Int) x77_2 y609 (y609.length : Int) x87_3 a0_0 a0_1 a1_0 a1_1 t597 t598))) = some r := by rw [if_neg (show ¬ (false = true) by decide)] at H; exact H
                                        clear H
                                        have H := H1
                                        clear H1
                                        replace H := Option.bind_eq_some_iff.mp H
                                        obtain ⟨t615, A750, H⟩ := H
                                        replace H : (if t615 = true then ((ephemerisref2_InArc.f k4 t597 t598 x12_4 x13_4).bind fun t616 => (if t616 = true then (ephemerislaw2_TrigArcs.l1 k4 (rd y605 x77_2) y605 (y605.length : Int) x77_2 y609 (y609.length : Int) (wrap64 (x87_3 + 1)) a0_0 a0_1 a1_0 a1_1 t597 t598) else (some false))) else (ephemerislaw2_TrigArcs.l2 k4 (rd y605 x77_2) (wrap64 (2 * x12_4)) (wrap64 (2 * x13_4)) y605 (y605.length : Int) x77_2 y609 (y609.length : Int) x87_3 a0_0 a0_1 a1_0 a1_1 t597 t598)) = some r := H
                                        have A75 := Aside0.mk A750
                                        clear A750
                                        by_cases c76 : t615 = true
                                        · subst c76
                                          have H1 : ((ephemerisref2_InArc.f k4 t597 t598 x12_4 x13_4).bind fun t616 => (if t616 = true then (ephemerislaw2_TrigArcs.l1 k4 (rd y605 x77_2) y605 (y605.length : Int) x77_2 y609 (y609.length : Int) (wrap64 (x87_3 + 1)) a0_0 a0_1 a1_0 a1_1 t597 t598) else (some false))) = some r := by rw [if_pos rfl] at H; exact H
                                          clear H
                                          have H := H1
                                          clear H1
                                          replace H := Option.bind_eq_some_iff.mp H
                                          obtain ⟨t616, A770, H⟩ := H
                                          replace H : (if t616 = true then (ephemerislaw2_TrigArcs.l1 k4 (rd y605 x77_2) y605 (y605.length : Int) x77_2 y609 (y609.length : Int) (wrap64 (x87_3 + 1)) a0_0 a0_1 a1_0 a1_1 t597 t598) else (some false)) = some r := H
                                          have A77 := Aside0.mk A770
                                          clear A770
                                          by_cases c78 : t616 = true
                                          · subst c78
                                            have H1 : (ephemerislaw2_TrigArcs.l1 k4 (rd y605 x77_2) y605 (y605.length : Int) x77_2 y609 (y609.length : Int) (wrap64 (x87_3 + 1)) a0_0 a0_1 a1_0 a1_1 t597 t598) = some r := by rw [if_pos rfl] at H; exact H
                                            clear H
                                            have H := H1
                                            clear H1
                                            have H' := Aside0.mk H
                                            clear H
                                            go_wp2_with (first | ((with_reducible refine gate_callee (f := 19) rfl ?_); refine goesL_ (some 94) rfl rfl Try.func19 (by kernel_rfl) rfl #[.int .i64 x12_4, .int .i64 288230376151711744] rfl (by (try simp only [List.map_toArray, List.map_cons, List.map_nil]); first | done | rfl | (simp only [List.length_drop, List.length_take]; rfl)) ?_; (with_reducible refine (ephemerislaw2_beyond.calls x12_4 288230376151711744 false _ A67.out).mono ?_); rintro e w' ⟨rfl, ⟨nd, rfl⟩⟩; refine ⟨_, rfl, ?_⟩) | (go_at_call 19; (with_reducible refine (ephemerislaw2_beyond.calls x13_4 288230376151711744 true _ A75.out).mono ?_); rintro e w' ⟨rfl, ⟨nd, rfl⟩⟩; have hnb79 := NB600_594.out; have hnc79 := NB594_600.out; have hnb80 := NB600_595.out; have hnc80 := NB595_600.out; have hcz81_0 : wr.cell? ⟨gb600, 0, none⟩ = some (.int .i64 t597) := (blk_cell BK600.out 0).trans rfl; have hcz81_1 : wr.cell? ⟨gb600, 1, none⟩ = some (.int .i64 t598) := (blk_cell BK600.out 1).trans rfl; have hfz81_0 := blk_frozen BK600.out 0; have hfz81_1 := blk_frozen BK600.out 1) | ((with_reducible refine gate_callee (f := 26) rfl ?_); refine goesL_ (some 108) rfl rfl Try.func26 (by kernel_rfl) rfl #[.agg #[.int .i64 t597, .int .i64 t598], .int .i64 x12_4, .int .i64 x13_4] rfl (by (try simp only [List.map_toArray, List.map_cons, List.map_nil]); first | done | rfl | (simp only [List.length_drop, List.length_take]; rfl)) ?_; (with_reducible refine (ephemerisref2_InArc.calls k4 t597 t598 x12_4 x13_4 true _ A77.out).mono ?_); rintro e w82 ⟨rfl, hb⟩; refine ⟨_, rfl, ?_⟩; have n0_ := Aside0.mk (Kd.R_below (by (with_reducible repeat (first | apply Kd.R_alloc | apply Kd.R_drewN | apply Kd.R_drew)); exact HO_75.out) hb); have n1_ := Aside0.mk (Kd.R_below (by (with_reducible repeat (first | apply Kd.R_alloc | apply Kd.R_drewN | apply Kd.R_drew)); exact HO_85.out) hb); have n2_ := Aside0.mk (blk_below (g := gb594) (o := .cells #[.int .i64 a0_0, .int .i64 a0_1] 24 (0, 0)) (by (with_reducible repeat (first | refine blk_drewN ?_ _ | refine blk_drew ?_ | refine blk_alloc ?_ _)); exact BK594.out) hb); have n3_ := Aside0.mk (blk_below (g := gb595) (o := .cells #[.int .i64 a1_0, .int .i64 a1_1] 24 (0, 0)) (by (with_reducible repeat (first | refine blk_drewN ?_ _ | refine blk_drew ?_ | refine blk_alloc ?_ _)); exact BK595.out) hb); have n4_ := Aside0.mk (blk_below (g := gb600) (o := .cells #[.int .i64 t597, .int .i64 t598] 24 (0, 0)) (by (with_reducible repeat (first | refine blk_drewN ?_ _ | refine blk_drew ?_ | refine blk_alloc ?_ _)); exact BK600.out) hb); have n5_ := Aside0.mk (below_step (by repeat (first | (with_reducible first | exact HB.out | apply below_alloc | apply pw_below_drewN | apply below_drew1 | refine below_set ?_ GE594.out | refine below_set ?_ GE595.out | refine below_set ?_ GE600.out) | exact HB.out)) hb); clear HO_75; clear HO_85; clear BK594; clear BK595; clear BK600; clear HB; have HO_75 := n0_; have HO_85 := n1_; have BK594 := n2_; have BK595 := n3_; have BK600 := n4_; have HB := n5_; clear n0_ n1_ n2_ n3_ n4_ n5_; (try clear hb); (try clear hb2); (try clear hk); (try clear hi)))
                                            go_roundg k4
                                            case measure => have := HJ7.out; have := HK2.out; have := HK3.out; have := HK4.out; omega
                                            case rel => exact ⟨(wrap64 (x87_3 + 1)), (by first | rfl | (simp; done) | (simp [*]; done)), H', ⟨by have := HJ7.out; have := HK2.out; have := HK3.out; have := HK4.out; omega⟩, ⟨by (with_reducible repeat (first | apply Kd.R_alloc | apply Kd.R_drewN | apply Kd.R_drew)); exact HO_75.out⟩, ⟨by (with_reducible repeat (first | apply Kd.R_alloc | apply Kd.R_drewN | apply Kd.R_drew)); exact HO_85.out⟩, ⟨by (with_reducible repeat (first | refine blk_drewN ?_ _ | refine blk_drew ?_ | refine blk_alloc ?_ _)); exact BK594.out⟩, ⟨by (with_reducible repeat (first | refine blk_drewN ?_ _ | refine blk_drew ?_ | refine blk_alloc ?_ _)); exact BK595.out⟩, ⟨by (with_reducible repeat (first | refine blk_drewN ?_ _ | refine blk_drew ?_ | refine blk_alloc ?_ _)); exact BK600.out⟩, ⟨by repeat (first | (with_reducible first | exact HB.out | apply below_alloc | apply pw_below_drewN | apply below_drew1 | refine below_set ?_ GE594.out | refine below_set ?_ GE595.out | refine below_set ?_ GE600.out) | exact HB.out)⟩⟩
                                          · replace c78 := Bool.eq_false_iff.mpr c78
                                            subst c78
                                            have H1 : (some false) = some r := by rw [if_neg (show ¬ (false = true) by decide)] at H; exact H
                                            clear H
                                            have H := H1
                                            clear H1
                                            obtain rfl := Option.some.inj H
                                            exact absurd hT (by decide)
                                        · replace c76 := Bool.eq_false_iff.mpr c76
                                          subst c76
                                          have H1 : (ephemerislaw2_TrigArcs.l2 k4 (rd y605 x77_2) (wrap64 (2 * x12_4)) (wrap64 (2 * x13_4)) y605 (y605.length : Int) x77_2 y609 (y609.length : Int) x87_3 a0_0 a0_1 a1_0 a1_1 t597 t598) = some r := by rw [if_neg (show ¬ (false = true) by decide)] at H; exact H
                                          clear H
                                          have H := H1
                                          clear H1
                                          have H' := Aside0.mk H
                                          clear H
                                          go_wp2_with (first | ((with_reducible refine gate_callee (f := 19) rfl ?_); refine goesL_ (some 94) rfl rfl Try.func19 (by kernel_rfl) rfl #[.int .i64 x12_4, .int .i64 288230376151711744] rfl (by (try simp only [List.map_toArray, List.map_cons, List.map_nil]); first | done | rfl | (simp only [List.length_drop, List.length_take]; rfl)) ?_; (with_reducible refine (ephemerislaw2_beyond.calls x12_4 288230376151711744 false _ A67.out).mono ?_); rintro e w' ⟨rfl, ⟨nd, rfl⟩⟩; refine ⟨_, rfl, ?_⟩) | (go_at_call 19; (with_reducible refine (ephemerislaw2_beyond.calls x13_4 288230376151711744 false _ A75.out).mono ?_); rintro e w' ⟨rfl, ⟨nd, rfl⟩⟩))
                                          go_roundg k4
                                          case measure => have := HJ7.out; have := HK2.out; have := HK3.out; have := HK4.out; omega
                                          case rel => exact ⟨(wrap64 (2 * x12_4)), (wrap64 (2 * x13_4)), (by first | rfl | (simp; done) | (simp [*]; done)), (by first | rfl | (simp; done) | (simp [*]; done)), H', ⟨by have := HJ7.out; have := HK2.out; have := HK3.out; have := HK4.out; omega⟩, ⟨by (with_reducible repeat (first | apply Kd.R_alloc | apply Kd.R_drewN | apply Kd.R_drew)); exact HO_75.out⟩, ⟨by (with_reducible repeat (first | apply Kd.R_alloc | apply Kd.R_drewN | apply Kd.R_drew)); exact HO_85.out⟩, ⟨by (with_reducible repeat (first | refine blk_drewN ?_ _ | refine blk_drew ?_ | refine blk_alloc ?_ _)); exact BK594.out⟩, ⟨by (with_reducible repeat (first | refine blk_drewN ?_ _ | refine blk_drew ?_ | refine blk_alloc ?_ _)); exact BK595.out⟩, ⟨by (with_reducible repeat (first | refine blk_drewN ?_ _ | refine blk_drew ?_ | refine blk_alloc ?_ _)); exact BK600.out⟩, ⟨by repeat (first | (with_reducible first | exact HB.out | apply below_alloc | apply pw_below_drewN | apply below_drew1 | refine below_set ?_ GE594.out | refine below_set ?_ GE595.out | refine below_set ?_ GE600.out) | exact HB.out)⟩⟩
                                · rw [if_neg c66] at H
                                  exact absurd H (by simp)
                              · rw [if_neg c65] at H
                                exact absurd H (by simp)
                            · rw [if_neg c64] at H
                              have c64b0 : decide (x87_3 < (y609.length : Int)) = false := decide_eq_false c64
                              clear c64
                              have H' := Aside0.mk H
                              clear H
                              go_wp2
                              go_roundg k3
                              case measure => have := HJ7.out; have := HK2.out; have := HK3.out; omega
                              case rel => exact ⟨(wrap64 (x77_2 + 1)), (by first | rfl | (simp; done) | (simp [*]; done)), H', ⟨by have := HJ7.out; have := HK2.out; have := HK3.out; omega⟩, ⟨by (with_reducible repeat (first | apply Kd.R_alloc | apply Kd.R_drewN | apply Kd.R_drew)); exact Kd.R_mono HO_75.out (fun _ hk => trivial)⟩, ⟨by (with_reducible repeat (first | refine blk_drewN ?_ _ | refine blk_drew ?_ | refine blk_alloc ?_ _)); exact BK594.out⟩, ⟨by (with_reducible repeat (first | refine blk_drewN ?_ _ | refine blk_drew ?_ | refine blk_alloc ?_ _)); exact BK595.out⟩, ⟨by (with_reducible repeat (first | refine blk_drewN ?_ _ | refine blk_drew ?_ | refine blk_alloc ?_ _)); exact BK600.out⟩, ⟨by repeat (first | (with_reducible first | exact HB.out | apply below_alloc | apply pw_below_drewN | apply below_drew1 | refine below_set ?_ GE594.out | refine below_set ?_ GE595.out | refine below_set ?_ GE600.out) | exact HB.out)⟩⟩
                      · rw [if_neg c57] at H
                        exact absurd H (by simp)
                    · rw [if_neg c56] at H
                      exact absurd H (by simp)
                  · rw [if_neg c55] at H
                    have c55b0 : decide (x77_2 < (y605.length : Int)) = false := decide_eq_false c55
                    clear c55
                    by_cases c83 : a0_0 = a0_1
                    · rw [if_pos c83] at H
                      have c83b0 : (a0_0 == a0_1) = true := beq_iff_eq.mpr c83
                      have c83b1 : (a0_0 != a0_1) = false := bne_eq_false_iff_eq.mpr c83
                      clear c83
                      by_cases c84 : a1_0 = a1_1
                      · rw [if_pos c84] at H
                        have c84b0 : (a1_0 == a1_1) = true := beq_iff_eq.mpr c84
                        have c84b1 : (a1_0 != a1_1) = false := bne_eq_false_iff_eq.mpr c84
                        clear c84
                        obtain rfl := Option.some.inj H
                        simp only [Option.some.injEq, Prod.mk.injEq] at H
                        obtain ⟨rfl⟩ := H
                        have hnb85 := NB594_595.out
                        have hnc85 := NB595_594.out
                        have hnb86 := NB594_600.out
                        have hnc86 := NB600_594.out
                        have hcz87_0 : wr.cell? ⟨gb594, 0, none⟩ = some (.int .i64 a0_0) := (blk_cell BK594.out 0).trans rfl
                        have hcz87_1 : wr.cell? ⟨gb594, 1, none⟩ = some (.int .i64 a0_1) := (blk_cell BK594.out 1).trans rfl
                        have hfz87_0 := blk_frozen BK594.out 0
                        have hfz87_1 := blk_frozen BK594.out 1
                        have hnb88 := NB595_600.out
                        have hnc88 := NB600_595.out
                        have hcz89_0 : wr.cell? ⟨gb595, 0, none⟩ = some (.int .i64 a1_0) := (blk_cell BK595.out 0).trans rfl
                        have hcz89_1 : wr.cell? ⟨gb595, 1, none⟩ = some (.int .i64 a1_1) := (blk_cell BK595.out 1).trans rfl
                        have hfz89_0 := blk_frozen BK595.out 0
                        have hfz89_1 := blk_frozen BK595.out 1
                        have hcz90_0 : wr.cell? ⟨gb600, 0, none⟩ = some (.int .i64 t597) := (blk_cell BK600.out 0).trans rfl
                        have hcz90_1 : wr.cell? ⟨gb600, 1, none⟩ = some (.int .i64 t598) := (blk_cell BK600.out 1).trans rfl
                        have hfz90_0 := blk_frozen BK600.out 0
                        have hfz90_1 := blk_frozen BK600.out 1
                        go_wp2
                        go_ret
                        exact ⟨by first | rfl | (simp [errW_none, errW_some] <;> rfl) | (simp [*, errW_none, errW_some] <;> rfl), by repeat (first | (with_reducible first | exact HB.out | apply below_alloc | apply pw_below_drewN | apply below_drew1 | refine below_set ?_ GE594.out | refine below_set ?_ GE595.out | refine below_set ?_ GE600.out) | exact HB.out)⟩
                      · rw [if_neg c84] at H
                        have c84b0 : (a1_0 == a1_1) = false := beq_eq_false_iff_ne.mpr c84
                        have c84b1 : (a1_0 != a1_1) = true := bne_iff_ne.mpr c84
                        obtain rfl := Option.some.inj H
                        simp only [Option.some.injEq, Prod.mk.injEq] at H
                        obtain ⟨rfl⟩ := H
                        have hnb91 := NB594_595.out
                        have hnc91 := NB595_594.out
                        have hnb92 := NB594_600.out
                        have hnc92 := NB600_594.out
                        have hcz93_0 : wr.cell? ⟨gb594, 0, none⟩ = some (.int .i64 a0_0) := (blk_cell BK594.out 0).trans rfl
                        have hcz93_1 : wr.cell? ⟨gb594, 1, none⟩ = some (.int .i64 a0_1) := (blk_cell BK594.out 1).trans rfl
                        have hfz93_0 := blk_frozen BK594.out 0
                        have hfz93_1 := blk_frozen BK594.out 1
                        have hnb94 := NB595_600.out
                        have hnc94 := NB600_595.out
                        have hcz95_0 : wr.cell? ⟨gb595, 0, none⟩ = some (.int .i64 a1_0) := (blk_cell BK595.out 0).trans rfl
                        have hcz95_1 : wr.cell? ⟨gb595, 1, none⟩ = some (.int .i64 a1_1) := (blk_cell BK595.out 1).trans rfl
                        have hfz95_0 := blk_frozen BK595.out 0
                        have hfz95_1 := blk_frozen BK595.out 1
                        go_wp2
                        go_ret
                        exact ⟨by first | rfl | (simp [errW_none, errW_some] <;> rfl) | (simp [*, errW_none, errW_some] <;> rfl), by repeat (first | (with_reducible first | exact HB.out | apply below_alloc | apply pw_below_drewN | apply below_drew1 | refine below_set ?_ GE594.out | refine below_set ?_ GE595.out | refine below_set ?_ GE600.out) | exact HB.out)⟩
                    · rw [if_neg c83] at H
                      have c83b0 : (a0_0 == a0_1) = false := beq_eq_false_iff_ne.mpr c83
                      have c83b1 : (a0_0 != a0_1) = true := bne_iff_ne.mpr c83
                      obtain rfl := Option.some.inj H
                      simp only [Option.some.injEq, Prod.mk.injEq] at H
                      obtain ⟨rfl⟩ := H
                      have hnb96 := NB594_595.out
                      have hnc96 := NB595_594.out
                      have hnb97 := NB594_600.out
                      have hnc97 := NB600_594.out
                      have hcz98_0 : wr.cell? ⟨gb594, 0, none⟩ = some (.int .i64 a0_0) := (blk_cell BK594.out 0).trans rfl
                      have hcz98_1 : wr.cell? ⟨gb594, 1, none⟩ = some (.int .i64 a0_1) := (blk_cell BK594.out 1).trans rfl
                      have hfz98_0 := blk_frozen BK594.out 0
                      have hfz98_1 := blk_frozen BK594.out 1
                      go_wp2
                      go_ret
                      exact ⟨by first | rfl | (simp [errW_none, errW_some] <;> rfl) | (simp [*, errW_none, errW_some] <;> rfl), by repeat (first | (with_reducible first | exact HB.out | apply below_alloc | apply pw_below_drewN | apply below_drew1 | refine below_set ?_ GE594.out | refine below_set ?_ GE595.out | refine below_set ?_ GE600.out) | exact HB.out)⟩
            · rw [if_neg c48] at H
              have c48b0 : (t599 == 0) = false := beq_eq_false_iff_ne.mpr c48
              have c48b1 : (t599 != 0) = true := bne_iff_ne.mpr c48
              replace H := Option.bind_eq_some_iff.mp H
              obtain ⟨t604, A990, H⟩ := H
              replace H : (if t604 = true then (if a0_0 < a0_1 then (some true) else (some (decide (a1_0 < a1_1)))) else (some false)) = some r := H
              have A99 := Aside0.mk A990
              clear A990
              by_cases c100 : t604 = true
              · subst c100
                have H1 : (if a0_0 < a0_1 then (some true) else (some (decide (a1_0 < a1_1)))) = some r := by rw [if_pos rfl] at H; exact H
                clear H
                have H := H1
                clear H1
                by_cases c101 : a0_0 < a0_1
                · rw [if_pos c101] at H
                  have c101b0 : decide (a0_0 < a0_1) = true := decide_eq_true c101
                  clear c101
                  obtain rfl := Option.some.inj H
                  simp only [Option.some.injEq, Prod.mk.injEq] at H
                  obtain ⟨rfl⟩ := H
                  have hnb102 := NB600_594.out
                  have hnc102 := NB594_600.out
                  have hnb103 := NB600_595.out
                  have hnc103 := NB595_600.out
                  have hcz104_0 : wc.cell? ⟨gb600, 0, none⟩ = some (.int .i64 t597) := (blk_cell BK600.out 0).trans rfl
                  have hcz104_1 : wc.cell? ⟨gb600, 1, none⟩ = some (.int .i64 t598) := (blk_cell BK600.out 1).trans rfl
                  have hfz104_0 := blk_frozen BK600.out 0
                  have hfz104_1 := blk_frozen BK600.out 1
                  go_wp2_with (first | ((with_reducible refine gate_callee (f := 20) rfl ?_); refine goesL_ (some 56) rfl rfl Try.func20 (by kernel_rfl) rfl #[.agg #[.int .i64 t597, .int .i64 t598], .int .i64 t599, .int .i64 11] rfl (by (try simp only [List.map_toArray, List.map_cons, List.map_nil]); first | done | rfl | (simp only [List.length_drop, List.length_take]; rfl)) ?_; (with_reducible refine (ephemerislaw2_none.calls t597 t598 t599 11 true _ A99.out).mono ?_); rintro e w105 ⟨rfl, hb⟩; refine ⟨_, rfl, ?_⟩; have n0_ := Aside0.mk (blk_below (g := gb594) (o := .cells #[.int .i64 a0_0, .int .i64 a0_1] 24 (0, 0)) (by (with_reducible repeat (first | refine blk_drewN ?_ _ | refine blk_drew ?_ | refine blk_alloc ?_ _)); exact BK594.out) hb); have n1_ := Aside0.mk (blk_below (g := gb595) (o := .cells #[.int .i64 a1_0, .int .i64 a1_1] 24 (0, 0)) (by (with_reducible repeat (first | refine blk_drewN ?_ _ | refine blk_drew ?_ | refine blk_alloc ?_ _)); exact BK595.out) hb); have n2_ := Aside0.mk (blk_below (g := gb600) (o := .cells #[.int .i64 t597, .int .i64 t598] 24 (0, 0)) (by (with_reducible repeat (first | refine blk_drewN ?_ _ | refine blk_drew ?_ | refine blk_alloc ?_ _)); exact BK600.out) hb); have n3_ := Aside0.mk (below_step (by repeat (first | (with_reducible first | exact HB.out | apply below_alloc | apply pw_below_drewN | apply below_drew1 | refine below_set ?_ GE594.out | refine below_set ?_ GE595.out | refine below_set ?_ GE600.out) | exact HB.out)) hb); clear BK594; clear BK595; clear BK600; clear HB; have BK594 := n0_; have BK595 := n1_; have BK600 := n2_; have HB := n3_; clear n0_ n1_ n2_ n3_; (try clear hb); (try clear hb2); (try clear hk); (try clear hi); have hnb106 := NB594_595.out; have hnc106 := NB595_594.out; have hcz107_0 : w105.cell? ⟨gb594, 0, none⟩ = some (.int .i64 a0_0) := (blk_cell BK594.out 0).trans rfl; have hcz107_1 : w105.cell? ⟨gb594, 1, none⟩ = some (.int .i64 a0_1) := (blk_cell BK594.out 1).trans rfl; have hfz107_0 := blk_frozen BK594.out 0; have hfz107_1 := blk_frozen BK594.out 1))
                  go_ret
                  exact ⟨by first | rfl | (simp [errW_none, errW_some] <;> rfl) | (simp [*, errW_none, errW_some] <;> rfl), by repeat (first | (with_reducible first | exact HB.out | apply below_alloc | apply pw_below_drewN | apply below_drew1 | refine below_set ?_ GE594.out | refine below_set ?_ GE595.out | refine below_set ?_ GE600.out) | exact HB.out)⟩
                · rw [if_neg c101] at H
                  have c101b0 : decide (a0_0 < a0_1) = false := decide_eq_false c101
                  clear c101
                  obtain rfl := Option.some.inj H
                  simp only [Option.some.injEq, Prod.mk.injEq] at H
                  obtain ⟨rfl⟩ := H
                  have hnb108 := NB600_594.out
                  have hnc108 := NB594_600.out
                  have hnb109 := NB600_595.out
                  have hnc109 := NB595_600.out
                  have hcz110_0 : wc.cell? ⟨gb600, 0, none⟩ = some (.int .i64 t597) := (blk_cell BK600.out 0).trans rfl
                  have hcz110_1 : wc.cell? ⟨gb600, 1, none⟩ = some (.int .i64 t598) := (blk_cell BK600.out 1).trans rfl
                  have hfz110_0 := blk_frozen BK600.out 0
                  have hfz110_1 := blk_frozen BK600.out 1
                  go_wp2_with (first | ((with_reducible refine gate_callee (f := 20) rfl ?_); refine goesL_ (some 56) rfl rfl Try.func20 (by kernel_rfl) rfl #[.agg #[.int .i64 t597, .int .i64 t598], .int .i64 t599, .int .i64 11] rfl (by (try simp only [List.map_toArray, List.map_cons, List.map_nil]); first | done | rfl | (simp only [List.length_drop, List.length_take]; rfl)) ?_; (with_reducible refine (ephemerislaw2_none.calls t597 t598 t599 11 true _ A99.out).mono ?_); rintro e w111 ⟨rfl, hb⟩; refine ⟨_, rfl, ?_⟩; have n0_ := Aside0.mk (blk_below (g := gb594) (o := .cells #[.int .i64 a0_0, .int .i64 a0_1] 24 (0, 0)) (by (with_reducible repeat (first | refine blk_drewN ?_ _ | refine blk_drew ?_ | refine blk_alloc ?_ _)); exact BK594.out) hb); have n1_ := Aside0.mk (blk_below (g := gb595) (o := .cells #[.int .i64 a1_0, .int .i64 a1_1] 24 (0, 0)) (by (with_reducible repeat (first | refine blk_drewN ?_ _ | refine blk_drew ?_ | refine blk_alloc ?_ _)); exact BK595.out) hb); have n2_ := Aside0.mk (blk_below (g := gb600) (o := .cells #[.int .i64 t597, .int .i64 t598] 24 (0, 0)) (by (with_reducible repeat (first | refine blk_drewN ?_ _ | refine blk_drew ?_ | refine blk_alloc ?_ _)); exact BK600.out) hb); have n3_ := Aside0.mk (below_step (by repeat (first | (with_reducible first | exact HB.out | apply below_alloc | apply pw_below_drewN | apply below_drew1 | refine below_set ?_ GE594.out | refine below_set ?_ GE595.out | refine below_set ?_ GE600.out) | exact HB.out)) hb); clear BK594; clear BK595; clear BK600; clear HB; have BK594 := n0_; have BK595 := n1_; have BK600 := n2_; have HB := n3_; clear n0_ n1_ n2_ n3_; (try clear hb); (try clear hb2); (try clear hk); (try clear hi); have hnb112 := NB594_595.out; have hnc112 := NB595_594.out; have hcz113_0 : w111.cell? ⟨gb594, 0, none⟩ = some (.int .i64 a0_0) := (blk_cell BK594.out 0).trans rfl; have hcz113_1 : w111.cell? ⟨gb594, 1, none⟩ = some (.int .i64 a0_1) := (blk_cell BK594.out 1).trans rfl; have hfz113_0 := blk_frozen BK594.out 0; have hfz113_1 := blk_frozen BK594.out 1; have hcz114_0 : w111.cell? ⟨gb595, 0, none⟩ = some (.int .i64 a1_0) := (blk_cell BK595.out 0).trans rfl; have hcz114_1 : w111.cell? ⟨gb595, 1, none⟩ = some (.int .i64 a1_1) := (blk_cell BK595.out 1).trans rfl; have hfz114_0 := blk_frozen BK595.out 0; have hfz114_1 := blk_frozen BK595.out 1))
                  go_ret
                  exact ⟨by first | rfl | (simp [errW_none, errW_some] <;> rfl) | (simp [*, errW_none, errW_some] <;> rfl), by repeat (first | (with_reducible first | exact HB.out | apply below_alloc | apply pw_below_drewN | apply below_drew1 | refine below_set ?_ GE594.out | refine below_set ?_ GE595.out | refine below_set ?_ GE600.out) | exact HB.out)⟩
              · replace c100 := Bool.eq_false_iff.mpr c100
                subst c100
                have H1 : (some false) = some r := by rw [if_neg (show ¬ (false = true) by decide)] at H; exact H
                clear H
                have H := H1
                clear H1
                obtain rfl := Option.some.inj H
                exact absurd hT (by decide)
    · rw [if_neg c7] at H
      have c7b0 : (t601 == 0) = false := beq_eq_false_iff_ne.mpr c7
      have c7b1 : (t601 != 0) = true := bne_iff_ne.mpr c7
      replace H := Option.bind_eq_some_iff.mp H
      obtain ⟨t602, A1150, H⟩ := H
      replace H : (some t602) = some r := H
      have A115 := Aside0.mk A1150
      clear A1150
      obtain rfl := Option.some.inj H
      simp only [Option.some.injEq, Prod.mk.injEq] at H
      obtain ⟨rfl⟩ := H
      go_enter Try.func4, Try.ntmps4
      go_wp2_with (first | ((with_reducible refine gate_dst (N := 2) rfl ?_); refine box_event ?hg (N := 2) ?hd (cs := #[.int .i64 a0_0, .int .i64 a0_1]) (t := 24) ?hr ?_; (case hd => rfl); (case hg => rfl); (case hr => first | (go_simp; done) | (go_simp; rfl)); intro gb594 hg w116 hbox hb; have n0_ := Aside0.mk (below_step (by repeat (first | (with_reducible first | exact HB.out | apply below_alloc | apply pw_below_drewN | apply below_drew1) | exact HB.out)) hb); have n1_ := Aside0.mk (hbox); have n2_ := Aside0.mk ((by rw [hg]; exact (below_size (by repeat (first | (with_reducible first | exact HB.out | apply below_alloc | apply pw_below_drewN | apply below_drew1) | exact HB.out))) : w.heap.size ≤ gb594)); have n3_ := Aside0.mk ((by rw [hg]; exact (below_size (by repeat (first | (with_reducible first | exact HB.out | apply below_alloc | apply pw_below_drewN | apply below_drew1) | exact HB.out))) : w.heap.size ≤ gb594)); clear HB; have HB := n0_; have BK594 := n1_; have GW594 := n2_; have GE594 := n3_; clear n0_ n1_ n2_ n3_; clear hb hbox hg) | ((with_reducible refine gate_dst (N := 3) rfl ?_); refine box_event ?hg (N := 3) ?hd (cs := #[.int .i64 a1_0, .int .i64 a1_1]) (t := 24) ?hr ?_; (case hd => rfl); (case hg => rfl); (case hr => first | (go_simp; done) | (go_simp; rfl)); intro gb595 hg w117 hbox hb; have n0_ := Aside0.mk (blk_below (g := gb594) (o := .cells #[.int .i64 a0_0, .int .i64 a0_1] 24 (0, 0)) (by (with_reducible repeat (first | refine blk_drewN ?_ _ | refine blk_drew ?_ | refine blk_alloc ?_ _)); exact BK594.out) hb); have n1_ := Aside0.mk (below_step (by repeat (first | (with_reducible first | exact HB.out | apply below_alloc | apply pw_below_drewN | apply below_drew1 | refine below_set ?_ GE594.out) | exact HB.out)) hb); have n2_ := Aside0.mk (hbox); have n3_ := Aside0.mk ((by rw [hg]; exact (below_size (by repeat (first | (with_reducible first | exact HB.out | apply below_alloc | apply pw_below_drewN | apply below_drew1 | refine below_set ?_ GE594.out) | exact HB.out))) : w.heap.size ≤ gb595)); have n4_ := Aside0.mk ((by rw [hg]; exact (below_size (by repeat (first | (with_reducible first | exact HB.out | apply below_alloc | apply pw_below_drewN | apply below_drew1 | refine below_set ?_ GE594.out) | exact HB.out))) : w.heap.size ≤ gb595)); have n5_ := Aside0.mk ((by rw [hg]; exact Nat.ne_of_lt (blk_lt (g := gb594) (o := .cells #[.int .i64 a0_0, .int .i64 a0_1] 24 (0, 0)) (by (with_reducible repeat (first | refine blk_drewN ?_ _ | refine blk_drew ?_ | refine blk_alloc ?_ _)); exact BK594.out)) : gb594 ≠ gb595)); have n6_ := Aside0.mk ((by rw [hg]; exact Nat.ne_of_gt (blk_lt (g := gb594) (o := .cells #[.int .i64 a0_0, .int .i64 a0_1] 24 (0, 0)) (by (with_reducible repeat (first | refine blk_drewN ?_ _ | refine blk_drew ?_ | refine blk_alloc ?_ _)); exact BK594.out)) : gb595 ≠ gb594)); clear BK594; clear HB; have BK594 := n0_; have HB := n1_; have BK595 := n2_; have GW595 := n3_; have GE595 := n4_; have NB594_595 := n5_; have NB595_594 := n6_; clear n0_ n1_ n2_ n3_ n4_ n5_ n6_; clear hb hbox hg) | ((with_reducible refine gate_callee (f := 16) rfl ?_); refine goesL_ (some 14) rfl rfl Try.func16 (by kernel_rfl) rfl #[] rfl (by (try simp only [List.map_toArray, List.map_cons, List.map_nil]); first | done | rfl | (simp only [List.length_drop, List.length_take]; rfl)) ?_; (with_reducible refine (ephemerislaw2_trigWorks.calls k  true _ A3.out rfl).mono ?_); rintro e w118 ⟨rfl, hb⟩; refine ⟨_, rfl, ?_⟩; have n0_ := Aside0.mk (blk_below (g := gb594) (o := .cells #[.int .i64 a0_0, .int .i64 a0_1] 24 (0, 0)) (by (with_reducible repeat (first | refine blk_drewN ?_ _ | refine blk_drew ?_ | refine blk_alloc ?_ _)); exact BK594.out) hb); have n1_ := Aside0.mk (blk_below (g := gb595) (o := .cells #[.int .i64 a1_0, .int .i64 a1_1] 24 (0, 0)) (by (with_reducible repeat (first | refine blk_drewN ?_ _ | refine blk_drew ?_ | refine blk_alloc ?_ _)); exact BK595.out) hb); have n2_ := Aside0.mk (below_step (by repeat (first | (with_reducible first | exact HB.out | apply below_alloc | apply pw_below_drewN | apply below_drew1 | refine below_set ?_ GE594.out | refine below_set ?_ GE595.out) | exact HB.out)) hb); clear BK594; clear BK595; clear HB; have BK594 := n0_; have BK595 := n1_; have HB := n2_; clear n0_ n1_ n2_; (try clear hb); (try clear hb2); (try clear hk); (try clear hi); have hnb119 := NB594_595.out; have hnc119 := NB595_594.out; have hcz120_0 : w118.cell? ⟨gb594, 0, none⟩ = some (.int .i64 a0_0) := (blk_cell BK594.out 0).trans rfl; have hcz120_1 : w118.cell? ⟨gb594, 1, none⟩ = some (.int .i64 a0_1) := (blk_cell BK594.out 1).trans rfl; have hfz120_0 := blk_frozen BK594.out 0; have hfz120_1 := blk_frozen BK594.out 1; have hcz121_0 : w118.cell? ⟨gb595, 0, none⟩ = some (.int .i64 a1_0) := (blk_cell BK595.out 0).trans rfl; have hcz121_1 : w118.cell? ⟨gb595, 1, none⟩ = some (.int .i64 a1_1) := (blk_cell BK595.out 1).trans rfl; have hfz121_0 := blk_frozen BK595.out 0; have hfz121_1 := blk_frozen BK595.out 1) | ((with_reducible refine gate_callee (f := 24) rfl ?_); refine goesL_ (some 19) rfl rfl Try.func24 (by kernel_rfl) rfl #[.agg #[.int .i64 a0_0, .int .i64 a0_1], .agg #[.int .i64 a1_0, .int .i64 a1_1]] rfl (by (try simp only [List.map_toArray, List.map_cons, List.map_nil]); first | done | rfl | (simp only [List.length_drop, List.length_take]; rfl)) ?_; (with_reducible refine (trig_Arc.calls k a0_0 a0_1 a1_0 a1_1 t597 t598 t599 _ A5.out).mono ?_); rintro e w122 ⟨rfl, hb⟩; refine ⟨_, rfl, ?_⟩; have n0_ := Aside0.mk (blk_below (g := gb594) (o := .cells #[.int .i64 a0_0, .int .i64 a0_1] 24 (0, 0)) (by (with_reducible repeat (first | refine blk_drewN ?_ _ | refine blk_drew ?_ | refine blk_alloc ?_ _)); exact BK594.out) hb); have n1_ := Aside0.mk (blk_below (g := gb595) (o := .cells #[.int .i64 a1_0, .int .i64 a1_1] 24 (0, 0)) (by (with_reducible repeat (first | refine blk_drewN ?_ _ | refine blk_drew ?_ | refine blk_alloc ?_ _)); exact BK595.out) hb); have n2_ := Aside0.mk (below_step (by repeat (first | (with_reducible first | exact HB.out | apply below_alloc | apply pw_below_drewN | apply below_drew1 | refine below_set ?_ GE594.out | refine below_set ?_ GE595.out) | exact HB.out)) hb); clear BK594; clear BK595; clear HB; have BK594 := n0_; have BK595 := n1_; have HB := n2_; clear n0_ n1_ n2_; (try clear hb); (try clear hb2); (try clear hk); (try clear hi)) | ((with_reducible refine gate_dst (N := 5) rfl ?_); refine box_event ?hg (N := 5) ?hd (cs := #[.int .i64 0, .int .i64 0]) (t := 24) ?hr ?_; (case hd => rfl); (case hg => rfl); (case hr => first | (go_simp; done) | (go_simp; rfl)); intro gb600 hg w123 hbox hb; have n0_ := Aside0.mk (blk_below (g := gb594) (o := .cells #[.int .i64 a0_0, .int .i64 a0_1] 24 (0, 0)) (by (with_reducible repeat (first | refine blk_drewN ?_ _ | refine blk_drew ?_ | refine blk_alloc ?_ _)); exact BK594.out) hb); have n1_ := Aside0.mk (blk_below (g := gb595) (o := .cells #[.int .i64 a1_0, .int .i64 a1_1] 24 (0, 0)) (by (with_reducible repeat (first | refine blk_drewN ?_ _ | refine blk_drew ?_ | refine blk_alloc ?_ _)); exact BK595.out) hb); have n2_ := Aside0.mk (below_step (by repeat (first | (with_reducible first | exact HB.out | apply below_alloc | apply pw_below_drewN | apply below_drew1 | refine below_set ?_ GE594.out | refine below_set ?_ GE595.out) | exact HB.out)) hb); have n3_ := Aside0.mk (hbox); have n4_ := Aside0.mk ((by rw [hg]; exact (below_size (by repeat (first | (with_reducible first | exact HB.out | apply below_alloc | apply pw_below_drewN | apply below_drew1 | refine below_set ?_ GE594.out | refine below_set ?_ GE595.out) | exact HB.out))) : w.heap.size ≤ gb600)); have n5_ := Aside0.mk ((by rw [hg]; exact (below_size (by repeat (first | (with_reducible first | exact HB.out | apply below_alloc | apply pw_below_drewN | apply below_drew1 | refine below_set ?_ GE594.out | refine below_set ?_ GE595.out) | exact HB.out))) : w.heap.size ≤ gb600)); have n6_ := Aside0.mk ((by rw [hg]; exact Nat.ne_of_lt (blk_lt (g := gb594) (o := .cells #[.int .i64 a0_0, .int .i64 a0_1] 24 (0, 0)) (by (with_reducible repeat (first | refine blk_drewN ?_ _ | refine blk_drew ?_ | refine blk_alloc ?_ _)); exact BK594.out)) : gb594 ≠ gb600)); have n7_ := Aside0.mk ((by rw [hg]; exact Nat.ne_of_gt (blk_lt (g := gb594) (o := .cells #[.int .i64 a0_0, .int .i64 a0_1] 24 (0, 0)) (by (with_reducible repeat (first | refine blk_drewN ?_ _ | refine blk_drew ?_ | refine blk_alloc ?_ _)); exact BK594.out)) : gb600 ≠ gb594)); have n8_ := Aside0.mk ((by rw [hg]; exact Nat.ne_of_lt (blk_lt (g := gb595) (o := .cells #[.int .i64 a1_0, .int .i64 a1_1] 24 (0, 0)) (by (with_reducible repeat (first | refine blk_drewN ?_ _ | refine blk_drew ?_ | refine blk_alloc ?_ _)); exact BK595.out)) : gb595 ≠ gb600)); have n9_ := Aside0.mk ((by rw [hg]; exact Nat.ne_of_gt (blk_lt (g := gb595) (o := .cells #[.int .i64 a1_0, .int .i64 a1_1] 24 (0, 0)) (by (with_reducible repeat (first | refine blk_drewN ?_ _ | refine blk_drew ?_ | refine blk_alloc ?_ _)); exact BK595.out)) : gb600 ≠ gb595)); clear BK594; clear BK595; clear HB; have BK594 := n0_; have BK595 := n1_; have HB := n2_; have BK600 := n3_; have GW600 := n4_; have GE600 := n5_; have NB594_600 := n6_; have NB600_594 := n7_; have NB595_600 := n8_; have NB600_595 := n9_; clear n0_ n1_ n2_ n3_ n4_ n5_ n6_ n7_ n8_ n9_; clear hb hbox hg; have hnb124 := NB600_594.out; have hnc124 := NB594_600.out; have hnb125 := NB600_595.out; have hnc125 := NB595_600.out; have hcz126_0 : w123.cell? ⟨gb600, 0, none⟩ = some (.int .i64 0) := (blk_cell BK600.out 0).trans rfl; have hcz126_1 : w123.cell? ⟨gb600, 1, none⟩ = some (.int .i64 0) := (blk_cell BK600.out 1).trans rfl; have hfz126_0 := blk_frozen BK600.out 0; have hfz126_1 := blk_frozen BK600.out 1; have hcz127_0 : w123.cell? ⟨gb594, 0, none⟩ = some (.int .i64 a0_0) := (blk_cell BK594.out 0).trans rfl; have hcz127_1 : w123.cell? ⟨gb594, 1, none⟩ = some (.int .i64 a0_1) := (blk_cell BK594.out 1).trans rfl; have hfz127_0 := blk_frozen BK594.out 0; have hfz127_1 := blk_frozen BK594.out 1; have hcz128_0 : w123.cell? ⟨gb595, 0, none⟩ = some (.int .i64 a1_0) := (blk_cell BK595.out 0).trans rfl; have hcz128_1 : w123.cell? ⟨gb595, 1, none⟩ = some (.int .i64 a1_1) := (blk_cell BK595.out 1).trans rfl; have hfz128_0 := blk_frozen BK595.out 0; have hfz128_1 := blk_frozen BK595.out 1) | ((with_reducible refine gate_callee (f := 25) rfl ?_); refine goesL_ (some 24) rfl rfl Try.func25 (by kernel_rfl) rfl #[.agg #[.int .i64 a0_0, .int .i64 a0_1], .agg #[.int .i64 a1_0, .int .i64 a1_1]] rfl (by (try simp only [List.map_toArray, List.map_cons, List.map_nil]); first | done | rfl | (simp only [List.length_drop, List.length_take]; rfl)) ?_; (with_reducible refine (ephemerisref2_TwoErr.calls k a0_0 a0_1 a1_0 a1_1 t601 _ A6.out).mono ?_); rintro e w129 ⟨rfl, hb⟩; refine ⟨_, rfl, ?_⟩; have n0_ := Aside0.mk (blk_below (g := gb594) (o := .cells #[.int .i64 a0_0, .int .i64 a0_1] 24 (0, 0)) (by (with_reducible repeat (first | refine blk_drewN ?_ _ | refine blk_drew ?_ | refine blk_alloc ?_ _)); refine blk_far ?_ NB594_600.out _; (with_reducible repeat (first | refine blk_drewN ?_ _ | refine blk_drew ?_ | refine blk_alloc ?_ _)); refine blk_far ?_ NB594_600.out _; (with_reducible repeat (first | refine blk_drewN ?_ _ | refine blk_drew ?_ | refine blk_alloc ?_ _)); exact BK594.out) hb); have n1_ := Aside0.mk (blk_below (g := gb595) (o := .cells #[.int .i64 a1_0, .int .i64 a1_1] 24 (0, 0)) (by (with_reducible repeat (first | refine blk_drewN ?_ _ | refine blk_drew ?_ | refine blk_alloc ?_ _)); refine blk_far ?_ NB595_600.out _; (with_reducible repeat (first | refine blk_drewN ?_ _ | refine blk_drew ?_ | refine blk_alloc ?_ _)); refine blk_far ?_ NB595_600.out _; (with_reducible repeat (first | refine blk_drewN ?_ _ | refine blk_drew ?_ | refine blk_alloc ?_ _)); exact BK595.out) hb); have n2_ := Aside0.mk (blk_below (g := gb600) (o := .cells #[.int .i64 t597, .int .i64 t598] 24 (0, 0)) (by (with_reducible repeat (first | refine blk_drewN ?_ _ | refine blk_drew ?_ | refine blk_alloc ?_ _)); refine blk_put (cs := #[.int .i64 t597, .int .i64 0]) ?_ 1 _ rfl; (with_reducible repeat (first | refine blk_drewN ?_ _ | refine blk_drew ?_ | refine blk_alloc ?_ _)); refine blk_put (cs := #[.int .i64 0, .int .i64 0]) ?_ 0 _ rfl; (with_reducible repeat (first | refine blk_drewN ?_ _ | refine blk_drew ?_ | refine blk_alloc ?_ _)); exact BK600.out) hb); have n3_ := Aside0.mk (below_step (by repeat (first | (with_reducible first | exact HB.out | apply below_alloc | apply pw_below_drewN | apply below_drew1 | refine below_set ?_ GE594.out | refine below_set ?_ GE595.out | refine below_set ?_ GE600.out) | exact HB.out)) hb); clear BK594; clear BK595; clear BK600; clear HB; have BK594 := n0_; have BK595 := n1_; have BK600 := n2_; have HB := n3_; clear n0_ n1_ n2_ n3_; (try clear hb); (try clear hb2); (try clear hk); (try clear hi); have hcz130_0 : w129.cell? ⟨gb600, 0, none⟩ = some (.int .i64 t597) := (blk_cell BK600.out 0).trans rfl; have hcz130_1 : w129.cell? ⟨gb600, 1, none⟩ = some (.int .i64 t598) := (blk_cell BK600.out 1).trans rfl; have hfz130_0 := blk_frozen BK600.out 0; have hfz130_1 := blk_frozen BK600.out 1) | ((with_reducible refine gate_callee (f := 20) rfl ?_); refine goesL_ (some 30) rfl rfl Try.func20 (by kernel_rfl) rfl #[.agg #[.int .i64 t597, .int .i64 t598], .int .i64 t599, .int .i64 t601] rfl (by (try simp only [List.map_toArray, List.map_cons, List.map_nil]); first | done | rfl | (simp only [List.length_drop, List.length_take]; rfl)) ?_; (with_reducible refine (ephemerislaw2_none.calls t597 t598 t599 t601 t602 _ A115.out).mono ?_); rintro e w131 ⟨rfl, hb⟩; refine ⟨_, rfl, ?_⟩; have n0_ := Aside0.mk (blk_below (g := gb594) (o := .cells #[.int .i64 a0_0, .int .i64 a0_1] 24 (0, 0)) (by (with_reducible repeat (first | refine blk_drewN ?_ _ | refine blk_drew ?_ | refine blk_alloc ?_ _)); exact BK594.out) hb); have n1_ := Aside0.mk (blk_below (g := gb595) (o := .cells #[.int .i64 a1_0, .int .i64 a1_1] 24 (0, 0)) (by (with_reducible repeat (first | refine blk_drewN ?_ _ | refine blk_drew ?_ | refine blk_alloc ?_ _)); exact BK595.out) hb); have n2_ := Aside0.mk (blk_below (g := gb600) (o := .cells #[.int .i64 t597, .int .i64 t598] 24 (0, 0)) (by (with_reducible repeat (first | refine blk_drewN ?_ _ | refine blk_drew ?_ | refine blk_alloc ?_ _)); exact BK600.out) hb); have n3_ := Aside0.mk (below_step (by repeat (first | (with_reducible first | exact HB.out | apply below_alloc | apply pw_below_drewN | apply below_drew1 | refine below_set ?_ GE594.out | refine below_set ?_ GE595.out | refine below_set ?_ GE600.out) | exact HB.out)) hb); clear BK594; clear BK595; clear BK600; clear HB; have BK594 := n0_; have BK595 := n1_; have BK600 := n2_; have HB := n3_; clear n0_ n1_ n2_ n3_; (try clear hb); (try clear hb2); (try clear hk); (try clear hi)))
      go_ret
      exact ⟨by first | rfl | (simp [errW_none, errW_some] <;> rfl) | (simp [*, errW_none, errW_some] <;> rfl), by repeat (first | (with_reducible first | exact HB.out | apply below_alloc | apply pw_below_drewN | apply below_drew1 | refine below_set ?_ GE594.out | refine below_set ?_ GE595.out | refine below_set ?_ GE600.out) | exact HB.out)⟩
  · replace c4 := Bool.eq_false_iff.mpr c4
    subst c4
    have H1 : (some false) = some r := by rw [if_neg (show ¬ (false = true) by decide)] at H; exact H
    clear H
    have H := H1
    clear H1
    obtain rfl := Option.some.inj H
    exact absurd hT (by decide)
end Go.Proofs.Ytelcegpaakbppaa.PAll
