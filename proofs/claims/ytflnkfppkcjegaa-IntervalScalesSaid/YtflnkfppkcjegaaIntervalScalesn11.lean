/- Written by a program of this session: what one law needs. -/
import Derived.Test.YtflnkfppkcjegaaIntervalScalesn6
import Derived.Test.YtflnkfppkcjegaaIntervalScalesn7
import Derived.Test.YtflnkfppkcjegaaIntervalScalesn8
import Derived.Test.YtflnkfppkcjegaaIntervalScalesn9
import Derived.Test.YtflnkfppkcjegaaIntervalScalesn10
import Derived.Test.YtflnkfppkcjegaaChecked
import Derived.Test.YtflnkfppkcjegaaIntervalScalesn0
section
namespace Go.Proofs.Ytflnkfppkcjegaa.PAll
open Go.RowKit Go.Proofs.YtflnkfppkcjegaaW.PrintWords Go.Proofs.YtflnkfppkcjegaaW.PrintLast Go.Proofs.YtflnkfppkcjegaaW.PrintMore Go.Proofs.Ytflnkfppkcjegaa.More2
attribute [local go_sem] max2_int min2_int max_two min_two max_three min_three max_four min_four tdiv2e18_ tdiv1e18_ cellSS_  -- for this text's walks alone
set_option linter.unusedVariables false
set_option linter.unusedSimpArgs false
attribute [local go_sem high] eqA37
def ephemerislaw2_intervalWorks.f (k : Nat)  : Option (Bool) := (interval_Mul.f k (-2) 3 4 5).bind fun bt152 => ((interval_Div.f k 7 10 2 4).bind fun bt156 => ((interval_Scale.f k 1 2 (-3) 2).bind fun bt160 => ((interval_Sign.f k (-2) (-1)).bind fun bt164 => ((interval_Add.f k 1 2 3 5).bind fun bt166 => (if bt152.2.2 = 0 then (if (bt152.1 == (-10) && (bt152.2.1 == 15)) = true then (if bt156.2.2 = 0 then (if (bt156.1 == 1 && (bt156.2.1 == 5)) = true then (if bt160.2.2 = 0 then (if (bt160.1 == (-3) && (bt160.2.1 == (-1))) = true then (if bt164.2 = 0 then (if bt164.1 = (-1) then (if bt166.2.2 = 0 then (some (bt166.1 == 4 && (bt166.2.1 == 7))) else (some false)) else (some false)) else (some false)) else (some false)) else (some false)) else (some false)) else (some false)) else (some false)) else (some false))))))
theorem ephemerislaw2_intervalWorks.mono : ∀ k, LeO (ephemerislaw2_intervalWorks.f k ) (ephemerislaw2_intervalWorks.f (k + 1) ) := by
  intro  k
  unfold ephemerislaw2_intervalWorks.f
  repeat' first
      | (with_reducible exact interval_Add.mono _ _ _ _ _)
      | (with_reducible exact interval_Div.mono _ _ _ _ _)
      | (with_reducible exact interval_Mul.mono _ _ _ _ _)
      | (with_reducible exact interval_Scale.mono _ _ _ _ _)
      | (with_reducible exact interval_Sign.mono _ _ _)
      | (with_reducible exact LeO.refl _)
      | (with_reducible exact LeO.none _)
      | (with_reducible refine LeO.ite ?_ ?_)
      | (with_reducible refine LeO.bind ?_ (fun _ => ?_))
      | exact interval_Add.mono _ _ _ _ _
      | exact interval_Div.mono _ _ _ _ _
      | exact interval_Mul.mono _ _ _ _ _
      | exact interval_Scale.mono _ _ _ _ _
      | exact interval_Sign.mono _ _ _
      | exact LeO.none _
      | refine LeO.ite ?_ ?_
      | refine LeO.bind ?_ (fun _ => ?_)
set_option maxHeartbeats 8000000 in
set_option maxRecDepth 100000 in
theorem ephemerislaw2_intervalWorks.calls (k : Nat)  (r : Bool) (w : World) (h : ephemerislaw2_intervalWorks.f k  = some r) (hT : r = true) :
    Calls Try.prog 22 #[] w fun e w' => e = .returned (.bool r) ∧ Below w.heap.size w w' := by
  have hu37 := Try.underlying37
  have HB := Aside0.mk (Below.refl w.heap.size w)
  have H : ((interval_Mul.f k (-2) 3 4 5).bind fun bt152 => ((interval_Div.f k 7 10 2 4).bind fun bt156 => ((interval_Scale.f k 1 2 (-3) 2).bind fun bt160 => ((interval_Sign.f k (-2) (-1)).bind fun bt164 => ((interval_Add.f k 1 2 3 5).bind fun bt166 => (if bt152.2.2 = 0 then (if (bt152.1 == (-10) && (bt152.2.1 == 15)) = true then (if bt156.2.2 = 0 then (if (bt156.1 == 1 && (bt156.2.1 == 5)) = true then (if bt160.2.2 = 0 then (if (bt160.1 == (-3) && (bt160.2.1 == (-1))) = true then (if bt164.2 = 0 then (if bt164.1 = (-1) then (if bt166.2.2 = 0 then (some (bt166.1 == 4 && (bt166.2.1 == 7))) else (some false)) else (some false)) else (some false)) else (some false)) else (some false)) else (some false)) else (some false)) else (some false)) else (some false))))))) = some r := h
  clear h
  replace H := Option.bind_eq_some_iff.mp H
  obtain ⟨⟨t152, t153, t154⟩, A10, H⟩ := H
  replace H : ((interval_Div.f k 7 10 2 4).bind fun bt156 => ((interval_Scale.f k 1 2 (-3) 2).bind fun bt160 => ((interval_Sign.f k (-2) (-1)).bind fun bt164 => ((interval_Add.f k 1 2 3 5).bind fun bt166 => (if t154 = 0 then (if (t152 == (-10) && (t153 == 15)) = true then (if bt156.2.2 = 0 then (if (bt156.1 == 1 && (bt156.2.1 == 5)) = true then (if bt160.2.2 = 0 then (if (bt160.1 == (-3) && (bt160.2.1 == (-1))) = true then (if bt164.2 = 0 then (if bt164.1 = (-1) then (if bt166.2.2 = 0 then (some (bt166.1 == 4 && (bt166.2.1 == 7))) else (some false)) else (some false)) else (some false)) else (some false)) else (some false)) else (some false)) else (some false)) else (some false)) else (some false)))))) = some r := H
  have A1 := Aside0.mk A10
  clear A10
  replace H := Option.bind_eq_some_iff.mp H
  obtain ⟨⟨t156, t157, t158⟩, A20, H⟩ := H
  replace H : ((interval_Scale.f k 1 2 (-3) 2).bind fun bt160 => ((interval_Sign.f k (-2) (-1)).bind fun bt164 => ((interval_Add.f k 1 2 3 5).bind fun bt166 => (if t154 = 0 then (if (t152 == (-10) && (t153 == 15)) = true then (if t158 = 0 then (if (t156 == 1 && (t157 == 5)) = true then (if bt160.2.2 = 0 then (if (bt160.1 == (-3) && (bt160.2.1 == (-1))) = true then (if bt164.2 = 0 then (if bt164.1 = (-1) then (if bt166.2.2 = 0 then (some (bt166.1 == 4 && (bt166.2.1 == 7))) else (some false)) else (some false)) else (some false)) else (some false)) else (some false)) else (some false)) else (some false)) else (some false)) else (some false))))) = some r := H
  have A2 := Aside0.mk A20
  clear A20
  replace H := Option.bind_eq_some_iff.mp H
  obtain ⟨⟨t160, t161, t162⟩, A30, H⟩ := H
  replace H : ((interval_Sign.f k (-2) (-1)).bind fun bt164 => ((interval_Add.f k 1 2 3 5).bind fun bt166 => (if t154 = 0 then (if (t152 == (-10) && (t153 == 15)) = true then (if t158 = 0 then (if (t156 == 1 && (t157 == 5)) = true then (if t162 = 0 then (if (t160 == (-3) && (t161 == (-1))) = true then (if bt164.2 = 0 then (if bt164.1 = (-1) then (if bt166.2.2 = 0 then (some (bt166.1 == 4 && (bt166.2.1 == 7))) else (some false)) else (some false)) else (some false)) else (some false)) else (some false)) else (some false)) else (some false)) else (some false)) else (some false)))) = some r := H
  have A3 := Aside0.mk A30
  clear A30
  replace H := Option.bind_eq_some_iff.mp H
  obtain ⟨⟨t164, t165⟩, A40, H⟩ := H
  replace H : ((interval_Add.f k 1 2 3 5).bind fun bt166 => (if t154 = 0 then (if (t152 == (-10) && (t153 == 15)) = true then (if t158 = 0 then (if (t156 == 1 && (t157 == 5)) = true then (if t162 = 0 then (if (t160 == (-3) && (t161 == (-1))) = true then (if t165 = 0 then (if t164 = (-1) then (if bt166.2.2 = 0 then (some (bt166.1 == 4 && (bt166.2.1 == 7))) else (some false)) else (some false)) else (some false)) else (some false)) else (some false)) else (some false)) else (some false)) else (some false)) else (some false))) = some r := H
  have A4 := Aside0.mk A40
  clear A40
  replace H := Option.bind_eq_some_iff.mp H
  obtain ⟨⟨t166, t167, t168⟩, A50, H⟩ := H
  replace H : (if t154 = 0 then (if (t152 == (-10) && (t153 == 15)) = true then (if t158 = 0 then (if (t156 == 1 && (t157 == 5)) = true then (if t162 = 0 then (if (t160 == (-3) && (t161 == (-1))) = true then (if t165 = 0 then (if t164 = (-1) then (if t168 = 0 then (some (t166 == 4 && (t167 == 7))) else (some false)) else (some false)) else (some false)) else (some false)) else (some false)) else (some false)) else (some false)) else (some false)) else (some false)) = some r := H
  have A5 := Aside0.mk A50
  clear A50
  by_cases c6 : t154 = 0
  · rw [if_pos c6] at H
    have c6b0 : (t154 == 0) = true := beq_iff_eq.mpr c6
    have c6b1 : (t154 != 0) = false := bne_eq_false_iff_eq.mpr c6
    clear c6
    by_cases c7 : (t152 == (-10) && (t153 == 15)) = true
    · rw [if_pos c7] at H
      have c7b0 : (t152 == (-10) && (t153 == 15)) = true := c7
      (try (have c7b1 : decide (t152 = (-10) && (t153 == 15)) = true := by simpa using c7))
      (try (have c7b2 : (t152 == (-10) && (t153 == 15)) = true := by simpa using c7))
      clear c7
      by_cases c8 : t158 = 0
      · rw [if_pos c8] at H
        have c8b0 : (t158 == 0) = true := beq_iff_eq.mpr c8
        have c8b1 : (t158 != 0) = false := bne_eq_false_iff_eq.mpr c8
        clear c8
        by_cases c9 : (t156 == 1 && (t157 == 5)) = true
        · rw [if_pos c9] at H
          have c9b0 : (t156 == 1 && (t157 == 5)) = true := c9
          (try (have c9b1 : decide (t156 = 1 && (t157 == 5)) = true := by simpa using c9))
          (try (have c9b2 : (t156 == 1 && (t157 == 5)) = true := by simpa using c9))
          clear c9
          by_cases c10 : t162 = 0
          · rw [if_pos c10] at H
            have c10b0 : (t162 == 0) = true := beq_iff_eq.mpr c10
            have c10b1 : (t162 != 0) = false := bne_eq_false_iff_eq.mpr c10
            clear c10
            by_cases c11 : (t160 == (-3) && (t161 == (-1))) = true
            · rw [if_pos c11] at H
              have c11b0 : (t160 == (-3) && (t161 == (-1))) = true := c11
              (try (have c11b1 : decide (t160 = (-3) && (t161 == (-1))) = true := by simpa using c11))
              (try (have c11b2 : (t160 == (-3) && (t161 == (-1))) = true := by simpa using c11))
              clear c11
              by_cases c12 : t165 = 0
              · rw [if_pos c12] at H
                have c12b0 : (t165 == 0) = true := beq_iff_eq.mpr c12
                have c12b1 : (t165 != 0) = false := bne_eq_false_iff_eq.mpr c12
                clear c12
                by_cases c13 : t164 = (-1)
                · rw [if_pos c13] at H
                  have c13b0 : (t164 == (-1)) = true := beq_iff_eq.mpr c13
                  have c13b1 : (t164 != (-1)) = false := bne_eq_false_iff_eq.mpr c13
                  clear c13
                  by_cases c14 : t168 = 0
                  · rw [if_pos c14] at H
                    have c14b0 : (t168 == 0) = true := beq_iff_eq.mpr c14
                    have c14b1 : (t168 != 0) = false := bne_eq_false_iff_eq.mpr c14
                    clear c14
                    obtain rfl := Option.some.inj H
                    simp only [Option.some.injEq, Prod.mk.injEq] at H
                    obtain ⟨rfl⟩ := H
                    go_enter Try.func22, Try.ntmps22
                    go_wp2_with (first | ((with_reducible refine gate_callee (f := 25) rfl ?_); refine goesL_ (some 14) rfl rfl Try.func25 (by kernel_rfl) rfl #[.agg #[.int .i64 (-2), .int .i64 3], .agg #[.int .i64 4, .int .i64 5]] rfl (by (try simp only [List.map_toArray, List.map_cons, List.map_nil]); first | done | rfl | (simp only [List.length_drop, List.length_take]; rfl)) ?_; (with_reducible refine (interval_Mul.calls k (-2) 3 4 5 t152 t153 t154 _ A1.out).mono ?_); rintro e w15 ⟨rfl, hb⟩; refine ⟨_, rfl, ?_⟩; have n0_ := Aside0.mk (below_step (by repeat (first | (with_reducible first | exact HB.out | apply below_alloc | apply pw_below_drewN | apply below_drew1) | exact HB.out)) hb); clear HB; have HB := n0_; clear n0_; (try clear hb); (try clear hb2); (try clear hk); (try clear hi)) | ((with_reducible refine gate_dst (N := 1) rfl ?_); refine box_event ?hg (N := 1) ?hd (cs := #[.int .i64 0, .int .i64 0]) (t := 37) ?hr ?_; (case hd => rfl); (case hg => rfl); (case hr => first | (go_simp; done) | (go_simp; rfl)); intro gb155 hg w16 hbox hb; have n0_ := Aside0.mk (below_step (by repeat (first | (with_reducible first | exact HB.out | apply below_alloc | apply pw_below_drewN | apply below_drew1) | exact HB.out)) hb); have n1_ := Aside0.mk (hbox); have n2_ := Aside0.mk ((by rw [hg]; exact (below_size (by repeat (first | (with_reducible first | exact HB.out | apply below_alloc | apply pw_below_drewN | apply below_drew1) | exact HB.out))) : w.heap.size ≤ gb155)); have n3_ := Aside0.mk ((by rw [hg]; exact (below_size (by repeat (first | (with_reducible first | exact HB.out | apply below_alloc | apply pw_below_drewN | apply below_drew1) | exact HB.out))) : w.heap.size ≤ gb155)); clear HB; have HB := n0_; have BK155 := n1_; have GW155 := n2_; have GE155 := n3_; clear n0_ n1_ n2_ n3_; clear hb hbox hg; have hcz17_0 : w16.cell? ⟨gb155, 0, none⟩ = some (.int .i64 0) := (blk_cell BK155.out 0).trans rfl; have hcz17_1 : w16.cell? ⟨gb155, 1, none⟩ = some (.int .i64 0) := (blk_cell BK155.out 1).trans rfl; have hfz17_0 := blk_frozen BK155.out 0; have hfz17_1 := blk_frozen BK155.out 1) | ((with_reducible refine gate_callee (f := 32) rfl ?_); refine goesL_ (some 20) rfl rfl Try.func32 (by kernel_rfl) rfl #[.agg #[.int .i64 7, .int .i64 10], .agg #[.int .i64 2, .int .i64 4]] rfl (by (try simp only [List.map_toArray, List.map_cons, List.map_nil]); first | done | rfl | (simp only [List.length_drop, List.length_take]; rfl)) ?_; (with_reducible refine (interval_Div.calls k 7 10 2 4 t156 t157 t158 _ A2.out).mono ?_); rintro e w18 ⟨rfl, hb⟩; refine ⟨_, rfl, ?_⟩; have n0_ := Aside0.mk (blk_below (g := gb155) (o := .cells #[.int .i64 t152, .int .i64 t153] 37 (0, 0)) (by (with_reducible repeat (first | refine blk_drewN ?_ _ | refine blk_drew ?_ | refine blk_alloc ?_ _)); refine blk_put (cs := #[.int .i64 t152, .int .i64 0]) ?_ 1 _ rfl; (with_reducible repeat (first | refine blk_drewN ?_ _ | refine blk_drew ?_ | refine blk_alloc ?_ _)); refine blk_put (cs := #[.int .i64 0, .int .i64 0]) ?_ 0 _ rfl; (with_reducible repeat (first | refine blk_drewN ?_ _ | refine blk_drew ?_ | refine blk_alloc ?_ _)); exact BK155.out) hb); have n1_ := Aside0.mk (below_step (by repeat (first | (with_reducible first | exact HB.out | apply below_alloc | apply pw_below_drewN | apply below_drew1 | refine below_set ?_ GE155.out) | exact HB.out)) hb); clear BK155; clear HB; have BK155 := n0_; have HB := n1_; clear n0_ n1_; (try clear hb); (try clear hb2); (try clear hk); (try clear hi)) | ((with_reducible refine gate_dst (N := 3) rfl ?_); refine box_event ?hg (N := 3) ?hd (cs := #[.int .i64 0, .int .i64 0]) (t := 37) ?hr ?_; (case hd => rfl); (case hg => rfl); (case hr => first | (go_simp; done) | (go_simp; rfl)); intro gb159 hg w19 hbox hb; have n0_ := Aside0.mk (blk_below (g := gb155) (o := .cells #[.int .i64 t152, .int .i64 t153] 37 (0, 0)) (by (with_reducible repeat (first | refine blk_drewN ?_ _ | refine blk_drew ?_ | refine blk_alloc ?_ _)); exact BK155.out) hb); have n1_ := Aside0.mk (below_step (by repeat (first | (with_reducible first | exact HB.out | apply below_alloc | apply pw_below_drewN | apply below_drew1 | refine below_set ?_ GE155.out) | exact HB.out)) hb); have n2_ := Aside0.mk (hbox); have n3_ := Aside0.mk ((by rw [hg]; exact (below_size (by repeat (first | (with_reducible first | exact HB.out | apply below_alloc | apply pw_below_drewN | apply below_drew1 | refine below_set ?_ GE155.out) | exact HB.out))) : w.heap.size ≤ gb159)); have n4_ := Aside0.mk ((by rw [hg]; exact (below_size (by repeat (first | (with_reducible first | exact HB.out | apply below_alloc | apply pw_below_drewN | apply below_drew1 | refine below_set ?_ GE155.out) | exact HB.out))) : w.heap.size ≤ gb159)); have n5_ := Aside0.mk ((by rw [hg]; exact Nat.ne_of_lt (blk_lt (g := gb155) (o := .cells #[.int .i64 t152, .int .i64 t153] 37 (0, 0)) (by (with_reducible repeat (first | refine blk_drewN ?_ _ | refine blk_drew ?_ | refine blk_alloc ?_ _)); exact BK155.out)) : gb155 ≠ gb159)); have n6_ := Aside0.mk ((by rw [hg]; exact Nat.ne_of_gt (blk_lt (g := gb155) (o := .cells #[.int .i64 t152, .int .i64 t153] 37 (0, 0)) (by (with_reducible repeat (first | refine blk_drewN ?_ _ | refine blk_drew ?_ | refine blk_alloc ?_ _)); exact BK155.out)) : gb159 ≠ gb155)); clear BK155; clear HB; have BK155 := n0_; have HB := n1_; have BK159 := n2_; have GW159 := n3_; have GE159 := n4_; have NB155_159 := n5_; have NB159_155 := n6_; clear n0_ n1_ n2_ n3_ n4_ n5_ n6_; clear hb hbox hg; have hnb20 := NB159_155.out; have hnc20 := NB155_159.out; have hcz21_0 : w19.cell? ⟨gb159, 0, none⟩ = some (.int .i64 0) := (blk_cell BK159.out 0).trans rfl; have hcz21_1 : w19.cell? ⟨gb159, 1, none⟩ = some (.int .i64 0) := (blk_cell BK159.out 1).trans rfl; have hfz21_0 := blk_frozen BK159.out 0; have hfz21_1 := blk_frozen BK159.out 1) | ((with_reducible refine gate_callee (f := 33) rfl ?_); refine goesL_ (some 25) rfl rfl Try.func33 (by kernel_rfl) rfl #[.agg #[.int .i64 1, .int .i64 2], .int .i64 (-3), .int .i64 2] rfl (by (try simp only [List.map_toArray, List.map_cons, List.map_nil]); first | done | rfl | (simp only [List.length_drop, List.length_take]; rfl)) ?_; (with_reducible refine (interval_Scale.calls k 1 2 (-3) 2 t160 t161 t162 _ A3.out).mono ?_); rintro e w22 ⟨rfl, hb⟩; refine ⟨_, rfl, ?_⟩; have n0_ := Aside0.mk (blk_below (g := gb155) (o := .cells #[.int .i64 t152, .int .i64 t153] 37 (0, 0)) (by (with_reducible repeat (first | refine blk_drewN ?_ _ | refine blk_drew ?_ | refine blk_alloc ?_ _)); refine blk_far ?_ NB155_159.out _; (with_reducible repeat (first | refine blk_drewN ?_ _ | refine blk_drew ?_ | refine blk_alloc ?_ _)); refine blk_far ?_ NB155_159.out _; (with_reducible repeat (first | refine blk_drewN ?_ _ | refine blk_drew ?_ | refine blk_alloc ?_ _)); exact BK155.out) hb); have n1_ := Aside0.mk (blk_below (g := gb159) (o := .cells #[.int .i64 t156, .int .i64 t157] 37 (0, 0)) (by (with_reducible repeat (first | refine blk_drewN ?_ _ | refine blk_drew ?_ | refine blk_alloc ?_ _)); refine blk_put (cs := #[.int .i64 t156, .int .i64 0]) ?_ 1 _ rfl; (with_reducible repeat (first | refine blk_drewN ?_ _ | refine blk_drew ?_ | refine blk_alloc ?_ _)); refine blk_put (cs := #[.int .i64 0, .int .i64 0]) ?_ 0 _ rfl; (with_reducible repeat (first | refine blk_drewN ?_ _ | refine blk_drew ?_ | refine blk_alloc ?_ _)); exact BK159.out) hb); have n2_ := Aside0.mk (below_step (by repeat (first | (with_reducible first | exact HB.out | apply below_alloc | apply pw_below_drewN | apply below_drew1 | refine below_set ?_ GE155.out | refine below_set ?_ GE159.out) | exact HB.out)) hb); clear BK155; clear BK159; clear HB; have BK155 := n0_; have BK159 := n1_; have HB := n2_; clear n0_ n1_ n2_; (try clear hb); (try clear hb2); (try clear hk); (try clear hi)) | ((with_reducible refine gate_dst (N := 5) rfl ?_); refine box_event ?hg (N := 5) ?hd (cs := #[.int .i64 0, .int .i64 0]) (t := 37) ?hr ?_; (case hd => rfl); (case hg => rfl); (case hr => first | (go_simp; done) | (go_simp; rfl)); intro gb163 hg w23 hbox hb; have n0_ := Aside0.mk (blk_below (g := gb155) (o := .cells #[.int .i64 t152, .int .i64 t153] 37 (0, 0)) (by (with_reducible repeat (first | refine blk_drewN ?_ _ | refine blk_drew ?_ | refine blk_alloc ?_ _)); exact BK155.out) hb); have n1_ := Aside0.mk (blk_below (g := gb159) (o := .cells #[.int .i64 t156, .int .i64 t157] 37 (0, 0)) (by (with_reducible repeat (first | refine blk_drewN ?_ _ | refine blk_drew ?_ | refine blk_alloc ?_ _)); exact BK159.out) hb); have n2_ := Aside0.mk (below_step (by repeat (first | (with_reducible first | exact HB.out | apply below_alloc | apply pw_below_drewN | apply below_drew1 | refine below_set ?_ GE155.out | refine below_set ?_ GE159.out) | exact HB.out)) hb); have n3_ := Aside0.mk (hbox); have n4_ := Aside0.mk ((by rw [hg]; exact (below_size (by repeat (first | (with_reducible first | exact HB.out | apply below_alloc | apply pw_below_drewN | apply below_drew1 | refine below_set ?_ GE155.out | refine below_set ?_ GE159.out) | exact HB.out))) : w.heap.size ≤ gb163)); have n5_ := Aside0.mk ((by rw [hg]; exact (below_size (by repeat (first | (with_reducible first | exact HB.out | apply below_alloc | apply pw_below_drewN | apply below_drew1 | refine below_set ?_ GE155.out | refine below_set ?_ GE159.out) | exact HB.out))) : w.heap.size ≤ gb163)); have n6_ := Aside0.mk ((by rw [hg]; exact Nat.ne_of_lt (blk_lt (g := gb155) (o := .cells #[.int .i64 t152, .int .i64 t153] 37 (0, 0)) (by (with_reducible repeat (first | refine blk_drewN ?_ _ | refine blk_drew ?_ | refine blk_alloc ?_ _)); exact BK155.out)) : gb155 ≠ gb163)); have n7_ := Aside0.mk ((by rw [hg]; exact Nat.ne_of_gt (blk_lt (g := gb155) (o := .cells #[.int .i64 t152, .int .i64 t153] 37 (0, 0)) (by (with_reducible repeat (first | refine blk_drewN ?_ _ | refine blk_drew ?_ | refine blk_alloc ?_ _)); exact BK155.out)) : gb163 ≠ gb155)); have n8_ := Aside0.mk ((by rw [hg]; exact Nat.ne_of_lt (blk_lt (g := gb159) (o := .cells #[.int .i64 t156, .int .i64 t157] 37 (0, 0)) (by (with_reducible repeat (first | refine blk_drewN ?_ _ | refine blk_drew ?_ | refine blk_alloc ?_ _)); exact BK159.out)) : gb159 ≠ gb163)); have n9_ := Aside0.mk ((by rw [hg]; exact Nat.ne_of_gt (blk_lt (g := gb159) (o := .cells #[.int .i64 t156, .int .i64 t157] 37 (0, 0)) (by (with_reducible repeat (first | refine blk_drewN ?_ _ | refine blk_drew ?_ | refine blk_alloc ?_ _)); exact BK159.out)) : gb163 ≠ gb159)); clear BK155; clear BK159; clear HB; have BK155 := n0_; have BK159 := n1_; have HB := n2_; have BK163 := n3_; have GW163 := n4_; have GE163 := n5_; have NB155_163 := n6_; have NB163_155 := n7_; have NB159_163 := n8_; have NB163_159 := n9_; clear n0_ n1_ n2_ n3_ n4_ n5_ n6_ n7_ n8_ n9_; clear hb hbox hg; have hnb24 := NB163_155.out; have hnc24 := NB155_163.out; have hnb25 := NB163_159.out; have hnc25 := NB159_163.out; have hcz26_0 : w23.cell? ⟨gb163, 0, none⟩ = some (.int .i64 0) := (blk_cell BK163.out 0).trans rfl; have hcz26_1 : w23.cell? ⟨gb163, 1, none⟩ = some (.int .i64 0) := (blk_cell BK163.out 1).trans rfl; have hfz26_0 := blk_frozen BK163.out 0; have hfz26_1 := blk_frozen BK163.out 1) | ((with_reducible refine gate_callee (f := 35) rfl ?_); refine goesL_ (some 30) rfl rfl Try.func35 (by kernel_rfl) rfl #[.agg #[.int .i64 (-2), .int .i64 (-1)]] rfl (by (try simp only [List.map_toArray, List.map_cons, List.map_nil]); first | done | rfl | (simp only [List.length_drop, List.length_take]; rfl)) ?_; (with_reducible refine (interval_Sign.calls k (-2) (-1) t164 t165 _ A4.out).mono ?_); rintro e w27 ⟨rfl, hb⟩; refine ⟨_, rfl, ?_⟩; have n0_ := Aside0.mk (blk_below (g := gb155) (o := .cells #[.int .i64 t152, .int .i64 t153] 37 (0, 0)) (by (with_reducible repeat (first | refine blk_drewN ?_ _ | refine blk_drew ?_ | refine blk_alloc ?_ _)); refine blk_far ?_ NB155_163.out _; (with_reducible repeat (first | refine blk_drewN ?_ _ | refine blk_drew ?_ | refine blk_alloc ?_ _)); refine blk_far ?_ NB155_163.out _; (with_reducible repeat (first | refine blk_drewN ?_ _ | refine blk_drew ?_ | refine blk_alloc ?_ _)); exact BK155.out) hb); have n1_ := Aside0.mk (blk_below (g := gb159) (o := .cells #[.int .i64 t156, .int .i64 t157] 37 (0, 0)) (by (with_reducible repeat (first | refine blk_drewN ?_ _ | refine blk_drew ?_ | refine blk_alloc ?_ _)); refine blk_far ?_ NB159_163.out _; (with_reducible repeat (first | refine blk_drewN ?_ _ | refine blk_drew ?_ | refine blk_alloc ?_ _)); refine blk_far ?_ NB159_163.out _; (with_reducible repeat (first | refine blk_drewN ?_ _ | refine blk_drew ?_ | refine blk_alloc ?_ _)); exact BK159.out) hb); have n2_ := Aside0.mk (blk_below (g := gb163) (o := .cells #[.int .i64 t160, .int .i64 t161] 37 (0, 0)) (by (with_reducible repeat (first | refine blk_drewN ?_ _ | refine blk_drew ?_ | refine blk_alloc ?_ _)); refine blk_put (cs := #[.int .i64 t160, .int .i64 0]) ?_ 1 _ rfl; (with_reducible repeat (first | refine blk_drewN ?_ _ | refine blk_drew ?_ | refine blk_alloc ?_ _)); refine blk_put (cs := #[.int .i64 0, .int .i64 0]) ?_ 0 _ rfl; (with_reducible repeat (first | refine blk_drewN ?_ _ | refine blk_drew ?_ | refine blk_alloc ?_ _)); exact BK163.out) hb); have n3_ := Aside0.mk (below_step (by repeat (first | (with_reducible first | exact HB.out | apply below_alloc | apply pw_below_drewN | apply below_drew1 | refine below_set ?_ GE155.out | refine below_set ?_ GE159.out | refine below_set ?_ GE163.out) | exact HB.out)) hb); clear BK155; clear BK159; clear BK163; clear HB; have BK155 := n0_; have BK159 := n1_; have BK163 := n2_; have HB := n3_; clear n0_ n1_ n2_ n3_; (try clear hb); (try clear hb2); (try clear hk); (try clear hi)) | ((with_reducible refine gate_callee (f := 43) rfl ?_); refine goesL_ (some 36) rfl rfl Try.func43 (by kernel_rfl) rfl #[.agg #[.int .i64 1, .int .i64 2], .agg #[.int .i64 3, .int .i64 5]] rfl (by (try simp only [List.map_toArray, List.map_cons, List.map_nil]); first | done | rfl | (simp only [List.length_drop, List.length_take]; rfl)) ?_; (with_reducible refine (interval_Add.calls k 1 2 3 5 t166 t167 t168 _ A5.out).mono ?_); rintro e w28 ⟨rfl, hb⟩; refine ⟨_, rfl, ?_⟩; have n0_ := Aside0.mk (blk_below (g := gb155) (o := .cells #[.int .i64 t152, .int .i64 t153] 37 (0, 0)) (by (with_reducible repeat (first | refine blk_drewN ?_ _ | refine blk_drew ?_ | refine blk_alloc ?_ _)); exact BK155.out) hb); have n1_ := Aside0.mk (blk_below (g := gb159) (o := .cells #[.int .i64 t156, .int .i64 t157] 37 (0, 0)) (by (with_reducible repeat (first | refine blk_drewN ?_ _ | refine blk_drew ?_ | refine blk_alloc ?_ _)); exact BK159.out) hb); have n2_ := Aside0.mk (blk_below (g := gb163) (o := .cells #[.int .i64 t160, .int .i64 t161] 37 (0, 0)) (by (with_reducible repeat (first | refine blk_drewN ?_ _ | refine blk_drew ?_ | refine blk_alloc ?_ _)); exact BK163.out) hb); have n3_ := Aside0.mk (below_step (by repeat (first | (with_reducible first | exact HB.out | apply below_alloc | apply pw_below_drewN | apply below_drew1 | refine below_set ?_ GE155.out | refine below_set ?_ GE159.out | refine below_set ?_ GE163.out) | exact HB.out)) hb); clear BK155; clear BK159; clear BK163; clear HB; have BK155 := n0_; have BK159 := n1_; have BK163 := n2_; have HB := n3_; clear n0_ n1_ n2_ n3_; (try clear hb); (try clear hb2); (try clear hk); (try clear hi)) | ((with_reducible refine gate_dst (N := 9) rfl ?_); refine box_event ?hg (N := 9) ?hd (cs := #[.int .i64 0, .int .i64 0]) (t := 37) ?hr ?_; (case hd => rfl); (case hg => rfl); (case hr => first | (go_simp; done) | (go_simp; rfl)); intro gb169 hg w29 hbox hb; have n0_ := Aside0.mk (blk_below (g := gb155) (o := .cells #[.int .i64 t152, .int .i64 t153] 37 (0, 0)) (by (with_reducible repeat (first | refine blk_drewN ?_ _ | refine blk_drew ?_ | refine blk_alloc ?_ _)); exact BK155.out) hb); have n1_ := Aside0.mk (blk_below (g := gb159) (o := .cells #[.int .i64 t156, .int .i64 t157] 37 (0, 0)) (by (with_reducible repeat (first | refine blk_drewN ?_ _ | refine blk_drew ?_ | refine blk_alloc ?_ _)); exact BK159.out) hb); have n2_ := Aside0.mk (blk_below (g := gb163) (o := .cells #[.int .i64 t160, .int .i64 t161] 37 (0, 0)) (by (with_reducible repeat (first | refine blk_drewN ?_ _ | refine blk_drew ?_ | refine blk_alloc ?_ _)); exact BK163.out) hb); have n3_ := Aside0.mk (below_step (by repeat (first | (with_reducible first | exact HB.out | apply below_alloc | apply pw_below_drewN | apply below_drew1 | refine below_set ?_ GE155.out | refine below_set ?_ GE159.out | refine below_set ?_ GE163.out) | exact HB.out)) hb); have n4_ := Aside0.mk (hbox); have n5_ := Aside0.mk ((by rw [hg]; exact (below_size (by repeat (first | (with_reducible first | exact HB.out | apply below_alloc | apply pw_below_drewN | apply below_drew1 | refine below_set ?_ GE155.out | refine below_set ?_ GE159.out | refine below_set ?_ GE163.out) | exact HB.out))) : w.heap.size ≤ gb169)); have n6_ := Aside0.mk ((by rw [hg]; exact (below_size (by repeat (first | (with_reducible first | exact HB.out | apply below_alloc | apply pw_below_drewN | apply below_drew1 | refine below_set ?_ GE155.out | refine below_set ?_ GE159.out | refine below_set ?_ GE163.out) | exact HB.out))) : w.heap.size ≤ gb169)); have n7_ := Aside0.mk ((by rw [hg]; exact Nat.ne_of_lt (blk_lt (g := gb155) (o := .cells #[.int .i64 t152, .int .i64 t153] 37 (0, 0)) (by (with_reducible repeat (first | refine blk_drewN ?_ _ | refine blk_drew ?_ | refine blk_alloc ?_ _)); exact BK155.out)) : gb155 ≠ gb169)); have n8_ := Aside0.mk ((by rw [hg]; exact Nat.ne_of_gt (blk_lt (g := gb155) (o := .cells #[.int .i64 t152, .int .i64 t153] 37 (0, 0)) (by (with_reducible repeat (first | refine blk_drewN ?_ _ | refine blk_drew ?_ | refine blk_alloc ?_ _)); exact BK155.out)) : gb169 ≠ gb155)); have n9_ := Aside0.mk ((by rw [hg]; exact Nat.ne_of_lt (blk_lt (g := gb159) (o := .cells #[.int .i64 t156, .int .i64 t157] 37 (0, 0)) (by (with_reducible repeat (first | refine blk_drewN ?_ _ | refine blk_drew ?_ | refine blk_alloc ?_ _)); exact BK159.out)) : gb159 ≠ gb169)); have n10_ := Aside0.mk ((by rw [hg]; exact Nat.ne_of_gt (blk_lt (g := gb159) (o := .cells #[.int .i64 t156, .int .i64 t157] 37 (0, 0)) (by (with_reducible repeat (first | refine blk_drewN ?_ _ | refine blk_drew ?_ | refine blk_alloc ?_ _)); exact BK159.out)) : gb169 ≠ gb159)); have n11_ := Aside0.mk ((by rw [hg]; exact Nat.ne_of_lt (blk_lt (g := gb163) (o := .cells #[.int .i64 t160, .int .i64 t161] 37 (0, 0)) (by (with_reducible repeat (first | refine blk_drewN ?_ _ | refine blk_drew ?_ | refine blk_alloc ?_ _)); exact BK163.out)) : gb163 ≠ gb169)); have n12_ := Aside0.mk ((by rw [hg]; exact Nat.ne_of_gt (blk_lt (g := gb163) (o := .cells #[.int .i64 t160, .int .i64 t161] 37 (0, 0)) (by (with_reducible repeat (first | refine blk_drewN ?_ _ | refine blk_drew ?_ | refine blk_alloc ?_ _)); exact BK163.out)) : gb169 ≠ gb163)); clear BK155; clear BK159; clear BK163; clear HB; have BK155 := n0_; have BK159 := n1_; have BK163 := n2_; have HB := n3_; have BK169 := n4_; have GW169 := n5_; have GE169 := n6_; have NB155_169 := n7_; have NB169_155 := n8_; have NB159_169 := n9_; have NB169_159 := n10_; have NB163_169 := n11_; have NB169_163 := n12_; clear n0_ n1_ n2_ n3_ n4_ n5_ n6_ n7_ n8_ n9_ n10_ n11_ n12_; clear hb hbox hg; have hnb30 := NB169_155.out; have hnc30 := NB155_169.out; have hnb31 := NB169_159.out; have hnc31 := NB159_169.out; have hnb32 := NB169_163.out; have hnc32 := NB163_169.out; have hcz33_0 : w29.cell? ⟨gb169, 0, none⟩ = some (.int .i64 0) := (blk_cell BK169.out 0).trans rfl; have hcz33_1 : w29.cell? ⟨gb169, 1, none⟩ = some (.int .i64 0) := (blk_cell BK169.out 1).trans rfl; have hfz33_0 := blk_frozen BK169.out 0; have hfz33_1 := blk_frozen BK169.out 1; have hcz34_0 : w29.cell? ⟨gb155, 0, none⟩ = some (.int .i64 t152) := (blk_cell BK155.out 0).trans rfl; have hcz34_1 : w29.cell? ⟨gb155, 1, none⟩ = some (.int .i64 t153) := (blk_cell BK155.out 1).trans rfl; have hfz34_0 := blk_frozen BK155.out 0; have hfz34_1 := blk_frozen BK155.out 1; have hcz35_0 : w29.cell? ⟨gb159, 0, none⟩ = some (.int .i64 t156) := (blk_cell BK159.out 0).trans rfl; have hcz35_1 : w29.cell? ⟨gb159, 1, none⟩ = some (.int .i64 t157) := (blk_cell BK159.out 1).trans rfl; have hfz35_0 := blk_frozen BK159.out 0; have hfz35_1 := blk_frozen BK159.out 1; have hcz36_0 : w29.cell? ⟨gb163, 0, none⟩ = some (.int .i64 t160) := (blk_cell BK163.out 0).trans rfl; have hcz36_1 : w29.cell? ⟨gb163, 1, none⟩ = some (.int .i64 t161) := (blk_cell BK163.out 1).trans rfl; have hfz36_0 := blk_frozen BK163.out 0; have hfz36_1 := blk_frozen BK163.out 1))
                    go_ret
                    exact ⟨by first | rfl | (simp [errW_none, errW_some] <;> rfl) | (simp [*, errW_none, errW_some] <;> rfl), by repeat (first | (with_reducible first | exact HB.out | apply below_alloc | apply pw_below_drewN | apply below_drew1 | refine below_set ?_ GE155.out | refine below_set ?_ GE159.out | refine below_set ?_ GE163.out | refine below_set ?_ GE169.out) | exact HB.out)⟩
                  · rw [if_neg c14] at H
                    have c14b0 : (t168 == 0) = false := beq_eq_false_iff_ne.mpr c14
                    have c14b1 : (t168 != 0) = true := bne_iff_ne.mpr c14
                    obtain rfl := Option.some.inj H
                    exact absurd hT (by decide)
                · rw [if_neg c13] at H
                  have c13b0 : (t164 == (-1)) = false := beq_eq_false_iff_ne.mpr c13
                  have c13b1 : (t164 != (-1)) = true := bne_iff_ne.mpr c13
                  obtain rfl := Option.some.inj H
                  exact absurd hT (by decide)
              · rw [if_neg c12] at H
                have c12b0 : (t165 == 0) = false := beq_eq_false_iff_ne.mpr c12
                have c12b1 : (t165 != 0) = true := bne_iff_ne.mpr c12
                obtain rfl := Option.some.inj H
                exact absurd hT (by decide)
            · rw [if_neg c11] at H
              have c11b0 : (t160 == (-3) && (t161 == (-1))) = false := by simpa using c11
              (try (have c11b1 : decide (t160 = (-3) && (t161 == (-1))) = false := by simpa using c11))
              (try (have c11b2 : (t160 == (-3) && (t161 == (-1))) = false := by simpa using c11))
              (try (have c11b3 : ¬ (t160 = (-3) && (t161 == (-1))) := by simpa using c11))
              clear c11
              obtain rfl := Option.some.inj H
              exact absurd hT (by decide)
          · rw [if_neg c10] at H
            have c10b0 : (t162 == 0) = false := beq_eq_false_iff_ne.mpr c10
            have c10b1 : (t162 != 0) = true := bne_iff_ne.mpr c10
            obtain rfl := Option.some.inj H
            exact absurd hT (by decide)
        · rw [if_neg c9] at H
          have c9b0 : (t156 == 1 && (t157 == 5)) = false := by simpa using c9
          (try (have c9b1 : decide (t156 = 1 && (t157 == 5)) = false := by simpa using c9))
          (try (have c9b2 : (t156 == 1 && (t157 == 5)) = false := by simpa using c9))
          (try (have c9b3 : ¬ (t156 = 1 && (t157 == 5)) := by simpa using c9))
          clear c9
          obtain rfl := Option.some.inj H
          exact absurd hT (by decide)
      · rw [if_neg c8] at H
        have c8b0 : (t158 == 0) = false := beq_eq_false_iff_ne.mpr c8
        have c8b1 : (t158 != 0) = true := bne_iff_ne.mpr c8
        obtain rfl := Option.some.inj H
        exact absurd hT (by decide)
    · rw [if_neg c7] at H
      have c7b0 : (t152 == (-10) && (t153 == 15)) = false := by simpa using c7
      (try (have c7b1 : decide (t152 = (-10) && (t153 == 15)) = false := by simpa using c7))
      (try (have c7b2 : (t152 == (-10) && (t153 == 15)) = false := by simpa using c7))
      (try (have c7b3 : ¬ (t152 = (-10) && (t153 == 15)) := by simpa using c7))
      clear c7
      obtain rfl := Option.some.inj H
      exact absurd hT (by decide)
  · rw [if_neg c6] at H
    have c6b0 : (t154 == 0) = false := beq_eq_false_iff_ne.mpr c6
    have c6b1 : (t154 != 0) = true := bne_iff_ne.mpr c6
    obtain rfl := Option.some.inj H
    exact absurd hT (by decide)
end Go.Proofs.Ytflnkfppkcjegaa.PAll
end
section
namespace Go.Proofs.Ytflnkfppkcjegaa.PAll
open Go.RowKit Go.Proofs.YtflnkfppkcjegaaW.PrintWords Go.Proofs.YtflnkfppkcjegaaW.PrintLast Go.Proofs.YtflnkfppkcjegaaW.PrintMore Go.Proofs.Ytflnkfppkcjegaa.More2
attribute [local go_sem] max2_int min2_int max_two min_two max_three min_three max_four min_four tdiv2e18_ tdiv1e18_ cellSS_  -- for this text's walks alone
set_option linter.unusedVariables false
set_option linter.unusedSimpArgs false
def ephemerisref2_SpanErr.j0 : Nat → Bool → Int → Int → Option (Int)
  | 0, _, _, _ => none
  | k + 1, x20, x171000, x171001 => if x20 = true then (some 3) else (if x171001 < x171000 then (some 9) else (some 0))
def ephemerisref2_SpanErr.f (k : Nat) (a0_0 : Int) (a0_1 : Int) : Option (Int) := if a0_0 < (-1000000000000000000) then (ephemerisref2_SpanErr.j0 k true a0_0 a0_1) else (if a0_0 > 1000000000000000000 then (ephemerisref2_SpanErr.j0 k true a0_0 a0_1) else (if a0_1 < (-1000000000000000000) then (ephemerisref2_SpanErr.j0 k true a0_0 a0_1) else (ephemerisref2_SpanErr.j0 k (decide (a0_1 > 1000000000000000000)) a0_0 a0_1)))
set_option maxHeartbeats 8000000 in
set_option maxRecDepth 100000 in
theorem ephemerisref2_SpanErr.calls (k : Nat) (a0_0 : Int) (a0_1 : Int) (r : Int) (w : World) (h : ephemerisref2_SpanErr.f k a0_0 a0_1 = some r) :
    Calls Try.prog 24 #[.agg #[.int .i64 a0_0, .int .i64 a0_1]] w fun e w' => e = .returned (.int .i64 r) ∧ Below w.heap.size w w' := by
  have hu37 := Try.underlying37
  have HB := Aside0.mk (Below.refl w.heap.size w)
  have H : (if a0_0 < (-1000000000000000000) then (ephemerisref2_SpanErr.j0 k true a0_0 a0_1) else (if a0_0 > 1000000000000000000 then (ephemerisref2_SpanErr.j0 k true a0_0 a0_1) else (if a0_1 < (-1000000000000000000) then (ephemerisref2_SpanErr.j0 k true a0_0 a0_1) else (ephemerisref2_SpanErr.j0 k (decide (a0_1 > 1000000000000000000)) a0_0 a0_1)))) = some r := h
  clear h
  have HC2 := Aside0.mk H
  clear H
  go_enter Try.func24, Try.ntmps24
  go_upto_region 1 with (first | ((with_reducible refine gate_dst (N := 1) rfl ?_); refine box_event ?hg (N := 1) ?hd (cs := #[.int .i64 a0_0, .int .i64 a0_1]) (t := 37) ?hr ?_; (case hd => rfl); (case hg => rfl); (case hr => first | (go_simp; done) | (go_simp; rfl)); intro gb170 hg w3 hbox hb; have n0_ := Aside0.mk (below_step (by repeat (first | (with_reducible first | exact HB.out | apply below_alloc | apply pw_below_drewN | apply below_drew1) | exact HB.out)) hb); have n1_ := Aside0.mk (hbox); have n2_ := Aside0.mk ((by rw [hg]; exact (below_size (by repeat (first | (with_reducible first | exact HB.out | apply below_alloc | apply pw_below_drewN | apply below_drew1) | exact HB.out))) : w.heap.size ≤ gb170)); have n3_ := Aside0.mk ((by rw [hg]; exact (below_size (by repeat (first | (with_reducible first | exact HB.out | apply below_alloc | apply pw_below_drewN | apply below_drew1) | exact HB.out))) : w.heap.size ≤ gb170)); clear HB; have HB := n0_; have BK170 := n1_; have GW170 := n2_; have GE170 := n3_; clear n0_ n1_ n2_ n3_; clear hb hbox hg))
  (try simp only [Act.put, List.setIfInBounds_toArray, List.set_cons_zero, List.set_cons_succ])
  go_cut [20] (fun v20 wc => ∃ (kq : Nat) (x20_1 : Bool), v20 = .bool x20_1 ∧ Aside0 (ephemerisref2_SpanErr.j0 kq x20_1 a0_0 a0_1 = some r) ∧ Aside0 (kq ≤ k) ∧ Aside0 (wc.heap[gb170]? = some (.cells #[.int .i64 a0_0, .int .i64 a0_1] 37 (0, 0))) ∧ Aside0 (Below w.heap.size w wc))
  case first =>
    have H := HC2.out
    clear HC2
    by_cases c4 : a0_0 < (-1000000000000000000)
    · rw [if_pos c4] at H
      have c4b0 : decide (a0_0 < (-1000000000000000000)) = true := decide_eq_true c4
      clear c4
      (first | rw [c4b0] | (simp only [i64_w, i32_w]; rw [c4b0]) | skip)
      have H' := Aside0.mk H
      clear H
      have hcz5_0 : w3.cell? ⟨gb170, 0, none⟩ = some (.int .i64 a0_0) := (blk_cell BK170.out 0).trans rfl
      have hcz5_1 : w3.cell? ⟨gb170, 1, none⟩ = some (.int .i64 a0_1) := (blk_cell BK170.out 1).trans rfl
      have hfz5_0 := blk_frozen BK170.out 0
      have hfz5_1 := blk_frozen BK170.out 1
      go_wp2
      go_meet
      case rel => exact ⟨_, (true), (by first | rfl | (simp; done) | (simp [*]; done)), H', ⟨by first | omega | exact Nat.le_refl _⟩, ⟨by (with_reducible repeat (first | refine blk_drewN ?_ _ | refine blk_drew ?_ | refine blk_alloc ?_ _)); exact BK170.out⟩, ⟨by repeat (first | (with_reducible first | exact HB.out | apply below_alloc | apply pw_below_drewN | apply below_drew1 | refine below_set ?_ GE170.out) | exact HB.out)⟩⟩
    · rw [if_neg c4] at H
      have c4b0 : decide (a0_0 < (-1000000000000000000)) = false := decide_eq_false c4
      clear c4
      (first | rw [c4b0] | (simp only [i64_w, i32_w]; rw [c4b0]) | skip)
      by_cases c6 : a0_0 > 1000000000000000000
      · rw [if_pos c6] at H
        have c6b0 : decide (1000000000000000000 < a0_0) = true := decide_eq_true c6
        clear c6
        have H' := Aside0.mk H
        clear H
        have hcz7_0 : w3.cell? ⟨gb170, 0, none⟩ = some (.int .i64 a0_0) := (blk_cell BK170.out 0).trans rfl
        have hcz7_1 : w3.cell? ⟨gb170, 1, none⟩ = some (.int .i64 a0_1) := (blk_cell BK170.out 1).trans rfl
        have hfz7_0 := blk_frozen BK170.out 0
        have hfz7_1 := blk_frozen BK170.out 1
        go_wp2
        go_meet
        case rel => exact ⟨_, (true), (by first | rfl | (simp; done) | (simp [*]; done)), H', ⟨by first | omega | exact Nat.le_refl _⟩, ⟨by (with_reducible repeat (first | refine blk_drewN ?_ _ | refine blk_drew ?_ | refine blk_alloc ?_ _)); exact BK170.out⟩, ⟨by repeat (first | (with_reducible first | exact HB.out | apply below_alloc | apply pw_below_drewN | apply below_drew1 | refine below_set ?_ GE170.out) | exact HB.out)⟩⟩
      · rw [if_neg c6] at H
        have c6b0 : decide (1000000000000000000 < a0_0) = false := decide_eq_false c6
        clear c6
        by_cases c8 : a0_1 < (-1000000000000000000)
        · rw [if_pos c8] at H
          have c8b0 : decide (a0_1 < (-1000000000000000000)) = true := decide_eq_true c8
          clear c8
          have H' := Aside0.mk H
          clear H
          have hcz9_0 : w3.cell? ⟨gb170, 0, none⟩ = some (.int .i64 a0_0) := (blk_cell BK170.out 0).trans rfl
          have hcz9_1 : w3.cell? ⟨gb170, 1, none⟩ = some (.int .i64 a0_1) := (blk_cell BK170.out 1).trans rfl
          have hfz9_0 := blk_frozen BK170.out 0
          have hfz9_1 := blk_frozen BK170.out 1
          go_wp2
          go_meet
          case rel => exact ⟨_, (true), (by first | rfl | (simp; done) | (simp [*]; done)), H', ⟨by first | omega | exact Nat.le_refl _⟩, ⟨by (with_reducible repeat (first | refine blk_drewN ?_ _ | refine blk_drew ?_ | refine blk_alloc ?_ _)); exact BK170.out⟩, ⟨by repeat (first | (with_reducible first | exact HB.out | apply below_alloc | apply pw_below_drewN | apply below_drew1 | refine below_set ?_ GE170.out) | exact HB.out)⟩⟩
        · rw [if_neg c8] at H
          have c8b0 : decide (a0_1 < (-1000000000000000000)) = false := decide_eq_false c8
          clear c8
          have H' := Aside0.mk H
          clear H
          have hcz10_0 : w3.cell? ⟨gb170, 0, none⟩ = some (.int .i64 a0_0) := (blk_cell BK170.out 0).trans rfl
          have hcz10_1 : w3.cell? ⟨gb170, 1, none⟩ = some (.int .i64 a0_1) := (blk_cell BK170.out 1).trans rfl
          have hfz10_0 := blk_frozen BK170.out 0
          have hfz10_1 := blk_frozen BK170.out 1
          go_wp2
          go_meet
          case rel => exact ⟨_, (decide (a0_1 > 1000000000000000000)), (by first | rfl | (simp; done) | (simp [*]; done)), H', ⟨by first | omega | exact Nat.le_refl _⟩, ⟨by (with_reducible repeat (first | refine blk_drewN ?_ _ | refine blk_drew ?_ | refine blk_alloc ?_ _)); exact BK170.out⟩, ⟨by repeat (first | (with_reducible first | exact HB.out | apply below_alloc | apply pw_below_drewN | apply below_drew1 | refine below_set ?_ GE170.out) | exact HB.out)⟩⟩
  case rest =>
    clear HC2
    try clear c2
    try clear p2
    try clear c4
    try clear c4b0
    try clear c6
    try clear c6b0
    try clear c8
    try clear c8b0
    try clear hcz10_0
    try clear hcz10_1
    try clear hcz5_0
    try clear hcz5_1
    try clear hcz7_0
    try clear hcz7_1
    try clear hcz9_0
    try clear hcz9_1
    try clear hfz10_0
    try clear hfz10_1
    try clear hfz5_0
    try clear hfz5_1
    try clear hfz7_0
    try clear hfz7_1
    try clear hfz9_0
    try clear hfz9_1
    obtain ⟨kq, x20_1, rfl, HA, HJ1, BK170, HB⟩ := hcut
    cases kq with
    | zero => exact absurd HA.out (by simp [ephemerisref2_SpanErr.j0])
    | succ kj1 =>
      have H := HA.out
      clear HA
      simp only [ephemerisref2_SpanErr.j0] at H
      by_cases c11 : x20_1 = true
      · subst c11
        have H1 : (some 3) = some r := by rw [if_pos rfl] at H; exact H
        clear H
        have H := H1
        clear H1
        obtain rfl := Option.some.inj H
        simp only [Option.some.injEq, Prod.mk.injEq] at H
        obtain ⟨rfl⟩ := H
        go_wp2
        go_ret
        exact ⟨by first | rfl | (simp [errW_none, errW_some] <;> rfl) | (simp [*, errW_none, errW_some] <;> rfl), by repeat (first | (with_reducible first | exact HB.out | apply below_alloc | apply pw_below_drewN | apply below_drew1 | refine below_set ?_ GE170.out) | exact HB.out)⟩
      · replace c11 := Bool.eq_false_iff.mpr c11
        subst c11
        have H1 : (if a0_1 < a0_0 then (some 9) else (some 0)) = some r := by rw [if_neg (show ¬ (false = true) by decide)] at H; exact H
        clear H
        have H := H1
        clear H1
        by_cases c12 : a0_1 < a0_0
        · rw [if_pos c12] at H
          have c12b0 : decide (a0_1 < a0_0) = true := decide_eq_true c12
          clear c12
          obtain rfl := Option.some.inj H
          simp only [Option.some.injEq, Prod.mk.injEq] at H
          obtain ⟨rfl⟩ := H
          have hcz13_0 : wc.cell? ⟨gb170, 0, none⟩ = some (.int .i64 a0_0) := (blk_cell BK170.out 0).trans rfl
          have hcz13_1 : wc.cell? ⟨gb170, 1, none⟩ = some (.int .i64 a0_1) := (blk_cell BK170.out 1).trans rfl
          have hfz13_0 := blk_frozen BK170.out 0
          have hfz13_1 := blk_frozen BK170.out 1
          go_wp2
          go_ret
          exact ⟨by first | rfl | (simp [errW_none, errW_some] <;> rfl) | (simp [*, errW_none, errW_some] <;> rfl), by repeat (first | (with_reducible first | exact HB.out | apply below_alloc | apply pw_below_drewN | apply below_drew1 | refine below_set ?_ GE170.out) | exact HB.out)⟩
        · rw [if_neg c12] at H
          have c12b0 : decide (a0_1 < a0_0) = false := decide_eq_false c12
          clear c12
          obtain rfl := Option.some.inj H
          simp only [Option.some.injEq, Prod.mk.injEq] at H
          obtain ⟨rfl⟩ := H
          have hcz14_0 : wc.cell? ⟨gb170, 0, none⟩ = some (.int .i64 a0_0) := (blk_cell BK170.out 0).trans rfl
          have hcz14_1 : wc.cell? ⟨gb170, 1, none⟩ = some (.int .i64 a0_1) := (blk_cell BK170.out 1).trans rfl
          have hfz14_0 := blk_frozen BK170.out 0
          have hfz14_1 := blk_frozen BK170.out 1
          go_wp2
          go_ret
          exact ⟨by first | rfl | (simp [errW_none, errW_some] <;> rfl) | (simp [*, errW_none, errW_some] <;> rfl), by repeat (first | (with_reducible first | exact HB.out | apply below_alloc | apply pw_below_drewN | apply below_drew1 | refine below_set ?_ GE170.out) | exact HB.out)⟩
end Go.Proofs.Ytflnkfppkcjegaa.PAll
end
section
namespace Go.Proofs.Ytflnkfppkcjegaa.PAll
open Go.RowKit Go.Proofs.YtflnkfppkcjegaaW.PrintWords Go.Proofs.YtflnkfppkcjegaaW.PrintLast Go.Proofs.YtflnkfppkcjegaaW.PrintMore Go.Proofs.Ytflnkfppkcjegaa.More2
attribute [local go_sem] max2_int min2_int max_two min_two max_three min_three max_four min_four tdiv2e18_ tdiv1e18_ cellSS_  -- for this text's walks alone
set_option linter.unusedVariables false
set_option linter.unusedSimpArgs false
attribute [local go_sem high] eqA37
def ephemerislaw2_none.f (a0_0 : Int) (a0_1 : Int) (a1 : Int) (a2 : Int) : Option (Bool) := if a1 = a2 then (some (a0_0 == 0 && (a0_1 == 0))) else (some false)
set_option maxHeartbeats 8000000 in
set_option maxRecDepth 100000 in
theorem ephemerislaw2_none.calls (a0_0 : Int) (a0_1 : Int) (a1 : Int) (a2 : Int) (r : Bool) (w : World) (h : ephemerislaw2_none.f a0_0 a0_1 a1 a2 = some r) :
    Calls Try.prog 27 #[.agg #[.int .i64 a0_0, .int .i64 a0_1], .int .i64 a1, .int .i64 a2] w fun e w' => e = .returned (.bool r) ∧ Below w.heap.size w w' := by
  have hu37 := Try.underlying37
  have HB := Aside0.mk (Below.refl w.heap.size w)
  have H : (if a1 = a2 then (some (a0_0 == 0 && (a0_1 == 0))) else (some false)) = some r := h
  clear h
  by_cases c4 : a1 = a2
  · rw [if_pos c4] at H
    have c4b0 : (a1 == a2) = true := beq_iff_eq.mpr c4
    have c4b1 : (a1 != a2) = false := bne_eq_false_iff_eq.mpr c4
    clear c4
    obtain rfl := Option.some.inj H
    simp only [Option.some.injEq, Prod.mk.injEq] at H
    obtain ⟨rfl⟩ := H
    go_enter Try.func27, Try.ntmps27
    go_wp2_with (first | ((with_reducible refine gate_dst (N := 3) rfl ?_); refine box_event ?hg (N := 3) ?hd (cs := #[.int .i64 a0_0, .int .i64 a0_1]) (t := 37) ?hr ?_; (case hd => rfl); (case hg => rfl); (case hr => first | (go_simp; done) | (go_simp; rfl)); intro gb175 hg w5 hbox hb; have n0_ := Aside0.mk (below_step (by repeat (first | (with_reducible first | exact HB.out | apply below_alloc | apply pw_below_drewN | apply below_drew1) | exact HB.out)) hb); have n1_ := Aside0.mk (hbox); have n2_ := Aside0.mk ((by rw [hg]; exact (below_size (by repeat (first | (with_reducible first | exact HB.out | apply below_alloc | apply pw_below_drewN | apply below_drew1) | exact HB.out))) : w.heap.size ≤ gb175)); have n3_ := Aside0.mk ((by rw [hg]; exact (below_size (by repeat (first | (with_reducible first | exact HB.out | apply below_alloc | apply pw_below_drewN | apply below_drew1) | exact HB.out))) : w.heap.size ≤ gb175)); clear HB; have HB := n0_; have BK175 := n1_; have GW175 := n2_; have GE175 := n3_; clear n0_ n1_ n2_ n3_; clear hb hbox hg; have hcz6_0 : w5.cell? ⟨gb175, 0, none⟩ = some (.int .i64 a0_0) := (blk_cell BK175.out 0).trans rfl; have hcz6_1 : w5.cell? ⟨gb175, 1, none⟩ = some (.int .i64 a0_1) := (blk_cell BK175.out 1).trans rfl; have hfz6_0 := blk_frozen BK175.out 0; have hfz6_1 := blk_frozen BK175.out 1))
    go_ret
    exact ⟨by first | rfl | (simp [errW_none, errW_some] <;> rfl) | (simp [*, errW_none, errW_some] <;> rfl), by repeat (first | (with_reducible first | exact HB.out | apply below_alloc | apply pw_below_drewN | apply below_drew1 | refine below_set ?_ GE175.out) | exact HB.out)⟩
  · rw [if_neg c4] at H
    have c4b0 : (a1 == a2) = false := beq_eq_false_iff_ne.mpr c4
    have c4b1 : (a1 != a2) = true := bne_iff_ne.mpr c4
    obtain rfl := Option.some.inj H
    simp only [Option.some.injEq, Prod.mk.injEq] at H
    obtain ⟨rfl⟩ := H
    go_enter Try.func27, Try.ntmps27
    go_wp2_with (first | ((with_reducible refine gate_dst (N := 3) rfl ?_); refine box_event ?hg (N := 3) ?hd (cs := #[.int .i64 a0_0, .int .i64 a0_1]) (t := 37) ?hr ?_; (case hd => rfl); (case hg => rfl); (case hr => first | (go_simp; done) | (go_simp; rfl)); intro gb175 hg w7 hbox hb; have n0_ := Aside0.mk (below_step (by repeat (first | (with_reducible first | exact HB.out | apply below_alloc | apply pw_below_drewN | apply below_drew1) | exact HB.out)) hb); have n1_ := Aside0.mk (hbox); have n2_ := Aside0.mk ((by rw [hg]; exact (below_size (by repeat (first | (with_reducible first | exact HB.out | apply below_alloc | apply pw_below_drewN | apply below_drew1) | exact HB.out))) : w.heap.size ≤ gb175)); have n3_ := Aside0.mk ((by rw [hg]; exact (below_size (by repeat (first | (with_reducible first | exact HB.out | apply below_alloc | apply pw_below_drewN | apply below_drew1) | exact HB.out))) : w.heap.size ≤ gb175)); clear HB; have HB := n0_; have BK175 := n1_; have GW175 := n2_; have GE175 := n3_; clear n0_ n1_ n2_ n3_; clear hb hbox hg))
    go_ret
    exact ⟨by first | rfl | (simp [errW_none, errW_some] <;> rfl) | (simp [*, errW_none, errW_some] <;> rfl), by repeat (first | (with_reducible first | exact HB.out | apply below_alloc | apply pw_below_drewN | apply below_drew1 | refine below_set ?_ GE175.out) | exact HB.out)⟩
end Go.Proofs.Ytflnkfppkcjegaa.PAll
end
section
namespace Go.Proofs.Ytflnkfppkcjegaa.PAll
open Go Go.RowKit Go.Proofs.YtflnkfppkcjegaaW.PrintWords Go.Proofs.Ytflnkfppkcjegaa.Sx
set_option linter.unusedVariables false
set_option maxRecDepth 100000
def ephemerisref2_ToWide.f (k : Nat) (a0 : Int) : Option (Bool × Int × Int × Int × Int × Int × Int) :=
  ol (a0.tmod 1000000000) fun n1 =>
  oif (decide (n1 < 0) = true) (
   ol (IntKind.i64.wrap (0 - n1)) fun n2 =>
   ol (IntKind.i64.wrap (a0.tdiv 1000000000)) fun n3 =>
   ol (n3.tmod 1000000000) fun n4 =>
   oif (decide (n4 < 0) = true) (
    ol (IntKind.i64.wrap (0 - n4)) fun n5 =>
    ol (IntKind.i64.wrap (n3.tdiv 1000000000)) fun n6 =>
    ol (n6.tmod 1000000000) fun n7 =>
    oif (decide (n7 < 0) = true) (
     ol (IntKind.i64.wrap (0 - n7)) fun n8 =>
     ol (IntKind.i64.wrap (n6.tdiv 1000000000)) fun n9 =>
     ol (n9.tmod 1000000000) fun n10 =>
     oif (decide (n10 < 0) = true) (
      ol (IntKind.i64.wrap (0 - n10)) fun n11 =>
      ol (IntKind.i64.wrap (n9.tdiv 1000000000)) fun n12 =>
      ol (n12.tmod 1000000000) fun n13 =>
      oif (decide (n13 < 0) = true) (
       ol (IntKind.i64.wrap (0 - n13)) fun n14 =>
       ol (IntKind.i64.wrap (n12.tdiv 1000000000)) fun n15 =>
       ol (n15.tmod 1000000000) fun n16 =>
       oif (decide (n16 < 0) = true) (
        ol (IntKind.i64.wrap (0 - n16)) fun n17 =>
        ol (IntKind.i64.wrap (n15.tdiv 1000000000)) fun n18 =>
        some (decide (a0 < 0), n2, n5, n8, n11, n14, n17)) (
        ol (IntKind.i64.wrap (n15.tdiv 1000000000)) fun n19 =>
        some (decide (a0 < 0), n2, n5, n8, n11, n14, n16))) (
       ol (IntKind.i64.wrap (n12.tdiv 1000000000)) fun n20 =>
       ol (n20.tmod 1000000000) fun n21 =>
       oif (decide (n21 < 0) = true) (
        ol (IntKind.i64.wrap (0 - n21)) fun n22 =>
        ol (IntKind.i64.wrap (n20.tdiv 1000000000)) fun n23 =>
        some (decide (a0 < 0), n2, n5, n8, n11, n13, n22)) (
        ol (IntKind.i64.wrap (n20.tdiv 1000000000)) fun n24 =>
        some (decide (a0 < 0), n2, n5, n8, n11, n13, n21)))) (
      ol (IntKind.i64.wrap (n9.tdiv 1000000000)) fun n25 =>
      ol (n25.tmod 1000000000) fun n26 =>
      oif (decide (n26 < 0) = true) (
       ol (IntKind.i64.wrap (0 - n26)) fun n27 =>
       ol (IntKind.i64.wrap (n25.tdiv 1000000000)) fun n28 =>
       ol (n28.tmod 1000000000) fun n29 =>
       oif (decide (n29 < 0) = true) (
        ol (IntKind.i64.wrap (0 - n29)) fun n30 =>
        ol (IntKind.i64.wrap (n28.tdiv 1000000000)) fun n31 =>
        some (decide (a0 < 0), n2, n5, n8, n10, n27, n30)) (
        ol (IntKind.i64.wrap (n28.tdiv 1000000000)) fun n32 =>
        some (decide (a0 < 0), n2, n5, n8, n10, n27, n29))) (
       ol (IntKind.i64.wrap (n25.tdiv 1000000000)) fun n33 =>
       ol (n33.tmod 1000000000) fun n34 =>
       oif (decide (n34 < 0) = true) (
        ol (IntKind.i64.wrap (0 - n34)) fun n35 =>
        ol (IntKind.i64.wrap (n33.tdiv 1000000000)) fun n36 =>
        some (decide (a0 < 0), n2, n5, n8, n10, n26, n35)) (
        ol (IntKind.i64.wrap (n33.tdiv 1000000000)) fun n37 =>
        some (decide (a0 < 0), n2, n5, n8, n10, n26, n34))))) (
     ol (IntKind.i64.wrap (n6.tdiv 1000000000)) fun n38 =>
     ol (n38.tmod 1000000000) fun n39 =>
     oif (decide (n39 < 0) = true) (
      ol (IntKind.i64.wrap (0 - n39)) fun n40 =>
      ol (IntKind.i64.wrap (n38.tdiv 1000000000)) fun n41 =>
      ol (n41.tmod 1000000000) fun n42 =>
      oif (decide (n42 < 0) = true) (
       ol (IntKind.i64.wrap (0 - n42)) fun n43 =>
       ol (IntKind.i64.wrap (n41.tdiv 1000000000)) fun n44 =>
       ol (n44.tmod 1000000000) fun n45 =>
       oif (decide (n45 < 0) = true) (
        ol (IntKind.i64.wrap (0 - n45)) fun n46 =>
        ol (IntKind.i64.wrap (n44.tdiv 1000000000)) fun n47 =>
        some (decide (a0 < 0), n2, n5, n7, n40, n43, n46)) (
        ol (IntKind.i64.wrap (n44.tdiv 1000000000)) fun n48 =>
        some (decide (a0 < 0), n2, n5, n7, n40, n43, n45))) (
       ol (IntKind.i64.wrap (n41.tdiv 1000000000)) fun n49 =>
       ol (n49.tmod 1000000000) fun n50 =>
       oif (decide (n50 < 0) = true) (
        ol (IntKind.i64.wrap (0 - n50)) fun n51 =>
        ol (IntKind.i64.wrap (n49.tdiv 1000000000)) fun n52 =>
        some (decide (a0 < 0), n2, n5, n7, n40, n42, n51)) (
        ol (IntKind.i64.wrap (n49.tdiv 1000000000)) fun n53 =>
        some (decide (a0 < 0), n2, n5, n7, n40, n42, n50)))) (
      ol (IntKind.i64.wrap (n38.tdiv 1000000000)) fun n54 =>
      ol (n54.tmod 1000000000) fun n55 =>
      oif (decide (n55 < 0) = true) (
       ol (IntKind.i64.wrap (0 - n55)) fun n56 =>
       ol (IntKind.i64.wrap (n54.tdiv 1000000000)) fun n57 =>
       ol (n57.tmod 1000000000) fun n58 =>
       oif (decide (n58 < 0) = true) (
        ol (IntKind.i64.wrap (0 - n58)) fun n59 =>
        ol (IntKind.i64.wrap (n57.tdiv 1000000000)) fun n60 =>
        some (decide (a0 < 0), n2, n5, n7, n39, n56, n59)) (
        ol (IntKind.i64.wrap (n57.tdiv 1000000000)) fun n61 =>
        some (decide (a0 < 0), n2, n5, n7, n39, n56, n58))) (
       ol (IntKind.i64.wrap (n54.tdiv 1000000000)) fun n62 =>
       ol (n62.tmod 1000000000) fun n63 =>
       oif (decide (n63 < 0) = true) (
        ol (IntKind.i64.wrap (0 - n63)) fun n64 =>
        ol (IntKind.i64.wrap (n62.tdiv 1000000000)) fun n65 =>
        some (decide (a0 < 0), n2, n5, n7, n39, n55, n64)) (
        ol (IntKind.i64.wrap (n62.tdiv 1000000000)) fun n66 =>
        some (decide (a0 < 0), n2, n5, n7, n39, n55, n63)))))) (
    ol (IntKind.i64.wrap (n3.tdiv 1000000000)) fun n67 =>
    ol (n67.tmod 1000000000) fun n68 =>
    oif (decide (n68 < 0) = true) (
     ol (IntKind.i64.wrap (0 - n68)) fun n69 =>
     ol (IntKind.i64.wrap (n67.tdiv 1000000000)) fun n70 =>
     ol (n70.tmod 1000000000) fun n71 =>
     oif (decide (n71 < 0) = true) (
      ol (IntKind.i64.wrap (0 - n71)) fun n72 =>
      ol (IntKind.i64.wrap (n70.tdiv 1000000000)) fun n73 =>
      ol (n73.tmod 1000000000) fun n74 =>
      oif (decide (n74 < 0) = true) (
       ol (IntKind.i64.wrap (0 - n74)) fun n75 =>
       ol (IntKind.i64.wrap (n73.tdiv 1000000000)) fun n76 =>
       ol (n76.tmod 1000000000) fun n77 =>
       oif (decide (n77 < 0) = true) (
        ol (IntKind.i64.wrap (0 - n77)) fun n78 =>
        ol (IntKind.i64.wrap (n76.tdiv 1000000000)) fun n79 =>
        some (decide (a0 < 0), n2, n4, n69, n72, n75, n78)) (
        ol (IntKind.i64.wrap (n76.tdiv 1000000000)) fun n80 =>
        some (decide (a0 < 0), n2, n4, n69, n72, n75, n77))) (
       ol (IntKind.i64.wrap (n73.tdiv 1000000000)) fun n81 =>
       ol (n81.tmod 1000000000) fun n82 =>
       oif (decide (n82 < 0) = true) (
        ol (IntKind.i64.wrap (0 - n82)) fun n83 =>
        ol (IntKind.i64.wrap (n81.tdiv 1000000000)) fun n84 =>
        some (decide (a0 < 0), n2, n4, n69, n72, n74, n83)) (
        ol (IntKind.i64.wrap (n81.tdiv 1000000000)) fun n85 =>
        some (decide (a0 < 0), n2, n4, n69, n72, n74, n82)))) (
      ol (IntKind.i64.wrap (n70.tdiv 1000000000)) fun n86 =>
      ol (n86.tmod 1000000000) fun n87 =>
      oif (decide (n87 < 0) = true) (
       ol (IntKind.i64.wrap (0 - n87)) fun n88 =>
       ol (IntKind.i64.wrap (n86.tdiv 1000000000)) fun n89 =>
       ol (n89.tmod 1000000000) fun n90 =>
       oif (decide (n90 < 0) = true) (
        ol (IntKind.i64.wrap (0 - n90)) fun n91 =>
        ol (IntKind.i64.wrap (n89.tdiv 1000000000)) fun n92 =>
        some (decide (a0 < 0), n2, n4, n69, n71, n88, n91)) (
        ol (IntKind.i64.wrap (n89.tdiv 1000000000)) fun n93 =>
        some (decide (a0 < 0), n2, n4, n69, n71, n88, n90))) (
       ol (IntKind.i64.wrap (n86.tdiv 1000000000)) fun n94 =>
       ol (n94.tmod 1000000000) fun n95 =>
       oif (decide (n95 < 0) = true) (
        ol (IntKind.i64.wrap (0 - n95)) fun n96 =>
        ol (IntKind.i64.wrap (n94.tdiv 1000000000)) fun n97 =>
        some (decide (a0 < 0), n2, n4, n69, n71, n87, n96)) (
        ol (IntKind.i64.wrap (n94.tdiv 1000000000)) fun n98 =>
        some (decide (a0 < 0), n2, n4, n69, n71, n87, n95))))) (
     ol (IntKind.i64.wrap (n67.tdiv 1000000000)) fun n99 =>
     ol (n99.tmod 1000000000) fun n100 =>
     oif (decide (n100 < 0) = true) (
      ol (IntKind.i64.wrap (0 - n100)) fun n101 =>
      ol (IntKind.i64.wrap (n99.tdiv 1000000000)) fun n102 =>
      ol (n102.tmod 1000000000) fun n103 =>
      oif (decide (n103 < 0) = true) (
       ol (IntKind.i64.wrap (0 - n103)) fun n104 =>
       ol (IntKind.i64.wrap (n102.tdiv 1000000000)) fun n105 =>
       ol (n105.tmod 1000000000) fun n106 =>
       oif (decide (n106 < 0) = true) (
        ol (IntKind.i64.wrap (0 - n106)) fun n107 =>
        ol (IntKind.i64.wrap (n105.tdiv 1000000000)) fun n108 =>
        some (decide (a0 < 0), n2, n4, n68, n101, n104, n107)) (
        ol (IntKind.i64.wrap (n105.tdiv 1000000000)) fun n109 =>
        some (decide (a0 < 0), n2, n4, n68, n101, n104, n106))) (
       ol (IntKind.i64.wrap (n102.tdiv 1000000000)) fun n110 =>
       ol (n110.tmod 1000000000) fun n111 =>
       oif (decide (n111 < 0) = true) (
        ol (IntKind.i64.wrap (0 - n111)) fun n112 =>
        ol (IntKind.i64.wrap (n110.tdiv 1000000000)) fun n113 =>
        some (decide (a0 < 0), n2, n4, n68, n101, n103, n112)) (
        ol (IntKind.i64.wrap (n110.tdiv 1000000000)) fun n114 =>
        some (decide (a0 < 0), n2, n4, n68, n101, n103, n111)))) (
      ol (IntKind.i64.wrap (n99.tdiv 1000000000)) fun n115 =>
      ol (n115.tmod 1000000000) fun n116 =>
      oif (decide (n116 < 0) = true) (
       ol (IntKind.i64.wrap (0 - n116)) fun n117 =>
       ol (IntKind.i64.wrap (n115.tdiv 1000000000)) fun n118 =>
       ol (n118.tmod 1000000000) fun n119 =>
       oif (decide (n119 < 0) = true) (
        ol (IntKind.i64.wrap (0 - n119)) fun n120 =>
        ol (IntKind.i64.wrap (n118.tdiv 1000000000)) fun n121 =>
        some (decide (a0 < 0), n2, n4, n68, n100, n117, n120)) (
        ol (IntKind.i64.wrap (n118.tdiv 1000000000)) fun n122 =>
        some (decide (a0 < 0), n2, n4, n68, n100, n117, n119))) (
       ol (IntKind.i64.wrap (n115.tdiv 1000000000)) fun n123 =>
       ol (n123.tmod 1000000000) fun n124 =>
       oif (decide (n124 < 0) = true) (
        ol (IntKind.i64.wrap (0 - n124)) fun n125 =>
        ol (IntKind.i64.wrap (n123.tdiv 1000000000)) fun n126 =>
        some (decide (a0 < 0), n2, n4, n68, n100, n116, n125)) (
        ol (IntKind.i64.wrap (n123.tdiv 1000000000)) fun n127 =>
        some (decide (a0 < 0), n2, n4, n68, n100, n116, n124))))))) (
   ol (IntKind.i64.wrap (a0.tdiv 1000000000)) fun n128 =>
   ol (n128.tmod 1000000000) fun n129 =>
   oif (decide (n129 < 0) = true) (
    ol (IntKind.i64.wrap (0 - n129)) fun n130 =>
    ol (IntKind.i64.wrap (n128.tdiv 1000000000)) fun n131 =>
    ol (n131.tmod 1000000000) fun n132 =>
    oif (decide (n132 < 0) = true) (
     ol (IntKind.i64.wrap (0 - n132)) fun n133 =>
     ol (IntKind.i64.wrap (n131.tdiv 1000000000)) fun n134 =>
     ol (n134.tmod 1000000000) fun n135 =>
     oif (decide (n135 < 0) = true) (
      ol (IntKind.i64.wrap (0 - n135)) fun n136 =>
      ol (IntKind.i64.wrap (n134.tdiv 1000000000)) fun n137 =>
      ol (n137.tmod 1000000000) fun n138 =>
      oif (decide (n138 < 0) = true) (
       ol (IntKind.i64.wrap (0 - n138)) fun n139 =>
       ol (IntKind.i64.wrap (n137.tdiv 1000000000)) fun n140 =>
       ol (n140.tmod 1000000000) fun n141 =>
       oif (decide (n141 < 0) = true) (
        ol (IntKind.i64.wrap (0 - n141)) fun n142 =>
        ol (IntKind.i64.wrap (n140.tdiv 1000000000)) fun n143 =>
        some (decide (a0 < 0), n1, n130, n133, n136, n139, n142)) (
        ol (IntKind.i64.wrap (n140.tdiv 1000000000)) fun n144 =>
        some (decide (a0 < 0), n1, n130, n133, n136, n139, n141))) (
       ol (IntKind.i64.wrap (n137.tdiv 1000000000)) fun n145 =>
       ol (n145.tmod 1000000000) fun n146 =>
       oif (decide (n146 < 0) = true) (
        ol (IntKind.i64.wrap (0 - n146)) fun n147 =>
        ol (IntKind.i64.wrap (n145.tdiv 1000000000)) fun n148 =>
        some (decide (a0 < 0), n1, n130, n133, n136, n138, n147)) (
        ol (IntKind.i64.wrap (n145.tdiv 1000000000)) fun n149 =>
        some (decide (a0 < 0), n1, n130, n133, n136, n138, n146)))) (
      ol (IntKind.i64.wrap (n134.tdiv 1000000000)) fun n150 =>
      ol (n150.tmod 1000000000) fun n151 =>
      oif (decide (n151 < 0) = true) (
       ol (IntKind.i64.wrap (0 - n151)) fun n152 =>
       ol (IntKind.i64.wrap (n150.tdiv 1000000000)) fun n153 =>
       ol (n153.tmod 1000000000) fun n154 =>
       oif (decide (n154 < 0) = true) (
        ol (IntKind.i64.wrap (0 - n154)) fun n155 =>
        ol (IntKind.i64.wrap (n153.tdiv 1000000000)) fun n156 =>
        some (decide (a0 < 0), n1, n130, n133, n135, n152, n155)) (
        ol (IntKind.i64.wrap (n153.tdiv 1000000000)) fun n157 =>
        some (decide (a0 < 0), n1, n130, n133, n135, n152, n154))) (
       ol (IntKind.i64.wrap (n150.tdiv 1000000000)) fun n158 =>
       ol (n158.tmod 1000000000) fun n159 =>
       oif (decide (n159 < 0) = true) (
        ol (IntKind.i64.wrap (0 - n159)) fun n160 =>
        ol (IntKind.i64.wrap (n158.tdiv 1000000000)) fun n161 =>
        some (decide (a0 < 0), n1, n130, n133, n135, n151, n160)) (
        ol (IntKind.i64.wrap (n158.tdiv 1000000000)) fun n162 =>
        some (decide (a0 < 0), n1, n130, n133, n135, n151, n159))))) (
     ol (IntKind.i64.wrap (n131.tdiv 1000000000)) fun n163 =>
     ol (n163.tmod 1000000000) fun n164 =>
     oif (decide (n164 < 0) = true) (
      ol (IntKind.i64.wrap (0 - n164)) fun n165 =>
      ol (IntKind.i64.wrap (n163.tdiv 1000000000)) fun n166 =>
      ol (n166.tmod 1000000000) fun n167 =>
      oif (decide (n167 < 0) = true) (
       ol (IntKind.i64.wrap (0 - n167)) fun n168 =>
       ol (IntKind.i64.wrap (n166.tdiv 1000000000)) fun n169 =>
       ol (n169.tmod 1000000000) fun n170 =>
       oif (decide (n170 < 0) = true) (
        ol (IntKind.i64.wrap (0 - n170)) fun n171 =>
        ol (IntKind.i64.wrap (n169.tdiv 1000000000)) fun n172 =>
        some (decide (a0 < 0), n1, n130, n132, n165, n168, n171)) (
        ol (IntKind.i64.wrap (n169.tdiv 1000000000)) fun n173 =>
        some (decide (a0 < 0), n1, n130, n132, n165, n168, n170))) (
       ol (IntKind.i64.wrap (n166.tdiv 1000000000)) fun n174 =>
       ol (n174.tmod 1000000000) fun n175 =>
       oif (decide (n175 < 0) = true) (
        ol (IntKind.i64.wrap (0 - n175)) fun n176 =>
        ol (IntKind.i64.wrap (n174.tdiv 1000000000)) fun n177 =>
        some (decide (a0 < 0), n1, n130, n132, n165, n167, n176)) (
        ol (IntKind.i64.wrap (n174.tdiv 1000000000)) fun n178 =>
        some (decide (a0 < 0), n1, n130, n132, n165, n167, n175)))) (
      ol (IntKind.i64.wrap (n163.tdiv 1000000000)) fun n179 =>
      ol (n179.tmod 1000000000) fun n180 =>
      oif (decide (n180 < 0) = true) (
       ol (IntKind.i64.wrap (0 - n180)) fun n181 =>
       ol (IntKind.i64.wrap (n179.tdiv 1000000000)) fun n182 =>
       ol (n182.tmod 1000000000) fun n183 =>
       oif (decide (n183 < 0) = true) (
        ol (IntKind.i64.wrap (0 - n183)) fun n184 =>
        ol (IntKind.i64.wrap (n182.tdiv 1000000000)) fun n185 =>
        some (decide (a0 < 0), n1, n130, n132, n164, n181, n184)) (
        ol (IntKind.i64.wrap (n182.tdiv 1000000000)) fun n186 =>
        some (decide (a0 < 0), n1, n130, n132, n164, n181, n183))) (
       ol (IntKind.i64.wrap (n179.tdiv 1000000000)) fun n187 =>
       ol (n187.tmod 1000000000) fun n188 =>
       oif (decide (n188 < 0) = true) (
        ol (IntKind.i64.wrap (0 - n188)) fun n189 =>
        ol (IntKind.i64.wrap (n187.tdiv 1000000000)) fun n190 =>
        some (decide (a0 < 0), n1, n130, n132, n164, n180, n189)) (
        ol (IntKind.i64.wrap (n187.tdiv 1000000000)) fun n191 =>
        some (decide (a0 < 0), n1, n130, n132, n164, n180, n188)))))) (
    ol (IntKind.i64.wrap (n128.tdiv 1000000000)) fun n192 =>
    ol (n192.tmod 1000000000) fun n193 =>
    oif (decide (n193 < 0) = true) (
     ol (IntKind.i64.wrap (0 - n193)) fun n194 =>
     ol (IntKind.i64.wrap (n192.tdiv 1000000000)) fun n195 =>
     ol (n195.tmod 1000000000) fun n196 =>
     oif (decide (n196 < 0) = true) (
      ol (IntKind.i64.wrap (0 - n196)) fun n197 =>
      ol (IntKind.i64.wrap (n195.tdiv 1000000000)) fun n198 =>
      ol (n198.tmod 1000000000) fun n199 =>
      oif (decide (n199 < 0) = true) (
       ol (IntKind.i64.wrap (0 - n199)) fun n200 =>
       ol (IntKind.i64.wrap (n198.tdiv 1000000000)) fun n201 =>
       ol (n201.tmod 1000000000) fun n202 =>
       oif (decide (n202 < 0) = true) (
        ol (IntKind.i64.wrap (0 - n202)) fun n203 =>
        ol (IntKind.i64.wrap (n201.tdiv 1000000000)) fun n204 =>
        some (decide (a0 < 0), n1, n129, n194, n197, n200, n203)) (
        ol (IntKind.i64.wrap (n201.tdiv 1000000000)) fun n205 =>
        some (decide (a0 < 0), n1, n129, n194, n197, n200, n202))) (
       ol (IntKind.i64.wrap (n198.tdiv 1000000000)) fun n206 =>
       ol (n206.tmod 1000000000) fun n207 =>
       oif (decide (n207 < 0) = true) (
        ol (IntKind.i64.wrap (0 - n207)) fun n208 =>
        ol (IntKind.i64.wrap (n206.tdiv 1000000000)) fun n209 =>
        some (decide (a0 < 0), n1, n129, n194, n197, n199, n208)) (
        ol (IntKind.i64.wrap (n206.tdiv 1000000000)) fun n210 =>
        some (decide (a0 < 0), n1, n129, n194, n197, n199, n207)))) (
      ol (IntKind.i64.wrap (n195.tdiv 1000000000)) fun n211 =>
      ol (n211.tmod 1000000000) fun n212 =>
      oif (decide (n212 < 0) = true) (
       ol (IntKind.i64.wrap (0 - n212)) fun n213 =>
       ol (IntKind.i64.wrap (n211.tdiv 1000000000)) fun n214 =>
       ol (n214.tmod 1000000000) fun n215 =>
       oif (decide (n215 < 0) = true) (
        ol (IntKind.i64.wrap (0 - n215)) fun n216 =>
        ol (IntKind.i64.wrap (n214.tdiv 1000000000)) fun n217 =>
        some (decide (a0 < 0), n1, n129, n194, n196, n213, n216)) (
        ol (IntKind.i64.wrap (n214.tdiv 1000000000)) fun n218 =>
        some (decide (a0 < 0), n1, n129, n194, n196, n213, n215))) (
       ol (IntKind.i64.wrap (n211.tdiv 1000000000)) fun n219 =>
       ol (n219.tmod 1000000000) fun n220 =>
       oif (decide (n220 < 0) = true) (
        ol (IntKind.i64.wrap (0 - n220)) fun n221 =>
        ol (IntKind.i64.wrap (n219.tdiv 1000000000)) fun n222 =>
        some (decide (a0 < 0), n1, n129, n194, n196, n212, n221)) (
        ol (IntKind.i64.wrap (n219.tdiv 1000000000)) fun n223 =>
        some (decide (a0 < 0), n1, n129, n194, n196, n212, n220))))) (
     ol (IntKind.i64.wrap (n192.tdiv 1000000000)) fun n224 =>
     ol (n224.tmod 1000000000) fun n225 =>
     oif (decide (n225 < 0) = true) (
      ol (IntKind.i64.wrap (0 - n225)) fun n226 =>
      ol (IntKind.i64.wrap (n224.tdiv 1000000000)) fun n227 =>
      ol (n227.tmod 1000000000) fun n228 =>
      oif (decide (n228 < 0) = true) (
       ol (IntKind.i64.wrap (0 - n228)) fun n229 =>
       ol (IntKind.i64.wrap (n227.tdiv 1000000000)) fun n230 =>
       ol (n230.tmod 1000000000) fun n231 =>
       oif (decide (n231 < 0) = true) (
        ol (IntKind.i64.wrap (0 - n231)) fun n232 =>
        ol (IntKind.i64.wrap (n230.tdiv 1000000000)) fun n233 =>
        some (decide (a0 < 0), n1, n129, n193, n226, n229, n232)) (
        ol (IntKind.i64.wrap (n230.tdiv 1000000000)) fun n234 =>
        some (decide (a0 < 0), n1, n129, n193, n226, n229, n231))) (
       ol (IntKind.i64.wrap (n227.tdiv 1000000000)) fun n235 =>
       ol (n235.tmod 1000000000) fun n236 =>
       oif (decide (n236 < 0) = true) (
        ol (IntKind.i64.wrap (0 - n236)) fun n237 =>
        ol (IntKind.i64.wrap (n235.tdiv 1000000000)) fun n238 =>
        some (decide (a0 < 0), n1, n129, n193, n226, n228, n237)) (
        ol (IntKind.i64.wrap (n235.tdiv 1000000000)) fun n239 =>
        some (decide (a0 < 0), n1, n129, n193, n226, n228, n236)))) (
      ol (IntKind.i64.wrap (n224.tdiv 1000000000)) fun n240 =>
      ol (n240.tmod 1000000000) fun n241 =>
      oif (decide (n241 < 0) = true) (
       ol (IntKind.i64.wrap (0 - n241)) fun n242 =>
       ol (IntKind.i64.wrap (n240.tdiv 1000000000)) fun n243 =>
       ol (n243.tmod 1000000000) fun n244 =>
       oif (decide (n244 < 0) = true) (
        ol (IntKind.i64.wrap (0 - n244)) fun n245 =>
        ol (IntKind.i64.wrap (n243.tdiv 1000000000)) fun n246 =>
        some (decide (a0 < 0), n1, n129, n193, n225, n242, n245)) (
        ol (IntKind.i64.wrap (n243.tdiv 1000000000)) fun n247 =>
        some (decide (a0 < 0), n1, n129, n193, n225, n242, n244))) (
       ol (IntKind.i64.wrap (n240.tdiv 1000000000)) fun n248 =>
       ol (n248.tmod 1000000000) fun n249 =>
       oif (decide (n249 < 0) = true) (
        ol (IntKind.i64.wrap (0 - n249)) fun n250 =>
        ol (IntKind.i64.wrap (n248.tdiv 1000000000)) fun n251 =>
        some (decide (a0 < 0), n1, n129, n193, n225, n241, n250)) (
        ol (IntKind.i64.wrap (n248.tdiv 1000000000)) fun n252 =>
        some (decide (a0 < 0), n1, n129, n193, n225, n241, n249)))))))
def ephemerisref2_ToWide.OQ {R : Type} (k : Nat) : OraQ R := fun g args K => match g with
  | _ => none
theorem ephemerisref2_ToWide.OQ_ok (k : Nat) (Φ : World → Prop) (base : Nat) {R : Type} : OraQOk Try.prog (fun _ => undef) Φ base (ephemerisref2_ToWide.OQ (R := R) k) := by
  intro g args K r h
  unfold ephemerisref2_ToWide.OQ at h
  split at h
  · cases h
def ephemerisref2_ToWide.F (v : Value) (_ : Mem) : Option (Bool × Int × Int × Int × Int × Int × Int) := match v with | .agg ⟨[.bool r1, .int .i64 r2, .int .i64 r3, .int .i64 r4, .int .i64 r5, .int .i64 r6, .int .i64 r7]⟩ => some (r1, r2, r3, r4, r5, r6, r7) | _ => none
theorem ephemerisref2_ToWide.run (k : Nat) (a0 : Int) : runNm Try.prog (liftQ (ephemerisref2_ToWide.OQ k)) (drawQ Try.prog (ephemerisref2_ToWide.OQ k)) (fun _ => none) (hook ol [(6, [5], []), (8, [5], []), (10, [0], [])]) (atEnd Try.prog Try.f31 ephemerisref2_ToWide.F) 5000 [.code (Try.f31.body.getD .skip)] ([.int .i64 a0] ++ List.replicate (Try.f31.ntmps - ([.int .i64 a0] : List Value).length) undef) [] = ephemerisref2_ToWide.f k a0 := by kernel_rfl
theorem ephemerisref2_ToWide.calls (k : Nat) (a0 : Int) (r1 : Bool) (r2 : Int) (r3 : Int) (r4 : Int) (r5 : Int) (r6 : Int) (r7 : Int) (w : World) (h : ephemerisref2_ToWide.f k a0 = some (r1, r2, r3, r4, r5, r6, r7)) :
    Calls Try.prog 31 #[.int .i64 a0] w fun e w' => e = .returned (.agg #[.bool r1, .int .i64 r2, .int .i64 r3, .int .i64 r4, .int .i64 r5, .int .i64 r6, .int .i64 r7]) ∧ Below w.heap.size w w' := by
  refine calls_closed (OQ := ephemerisref2_ToWide.OQ k) (LF := fun _ => none) (F := ephemerisref2_ToWide.F) (r := (r1, r2, r3, r4, r5, r6, r7)) (Checked.mixed Try.checked) (fun Φ base _ => ephemerisref2_ToWide.OQ_ok k Φ base) (LS := fun _ => True) (fun Φ base _ c _ live len f e => by cases e) Try.func31 rfl (fun _ _ => trivial) rfl (fun u m hu => ?_) rfl ((runNm_eq (hook_eq _) _ _ _ _).symm.trans ((ephemerisref2_ToWide.run k a0).trans h)) w
  unfold ephemerisref2_ToWide.F at hu
  split at hu
  · cases hu; rfl
  · cases hu
end Go.Proofs.Ytflnkfppkcjegaa.PAll
end
