/- Written by a program of this session out of the translation; packed for one law. -/
import Derived.Test.YtelcegpaakbppaaPAllx0
import Derived.Test.YtelcegpaakbppaaPAllx1
import Derived.Test.YtelcegpaakbppaaPSeriesChecksy3
import Derived.Test.YtelcegpaakbppaaPSeriesChecksy7
import Derived.Test.YtelcegpaakbppaaPSeriesChecksy8
namespace Go.Proofs.Ytelcegpaakbppaa.PAll
open Go.RowKit Go.Proofs.YtelcegpaakbppaaW.PrintWords Go.Proofs.YtelcegpaakbppaaW.PrintLast Go.Proofs.YtelcegpaakbppaaW.PrintMore Go.Proofs.Ytelcegpaakbppaa.More2
attribute [local go_sem] max2_int min2_int max_two min_two max_three min_three max_four min_four tdiv2e18_ tdiv1e18_ cellSS_  -- for this text's walks alone
set_option linter.unusedVariables false
set_option linter.unusedSimpArgs false

/-! ### ephemerislaw2_SeriesChecks: function 11 -/
mutual
def ephemerislaw2_SeriesChecks.j0 : Nat → Int → Int → Bool → Int → Int → List (S53) → Int → Option (Bool)
  | 0, _, _, _, _, _, _, _ => none
  | k + 1, x3, x4, x26, x595000, x595001, x595002, x595003 => if x26 = true then (some false) else (if x3 = 0 then (ephemerislaw2_SeriesChecks.l0 k x4 (wrap64 (2 * x595003)) x595002 (x595002.length : Int) 0) else (some (x4 == 0)))
def ephemerislaw2_SeriesChecks.l0 : Nat → Int → Int → List (S53) → Int → Int → Option (Bool)
  | 0, _, _, _, _, _ => none
  | k + 1, x4, x6, x35, x36, x37 => if x37 < x36 then (if 0 ≤ x37 then (if x37 < (x35.length : Int) then (ephemerislaw2_SeriesChecks.l0 k x4 (wrap64 (x6 + (wrap64 (2 + (wrap64 (Int.tdiv (mx ((rd_T53 x35 x37).f0) (wrap64 (-((rd_T53 x35 x37).f0)))) 100000000)))))) x35 x36 (wrap64 (x37 + 1))) else (none)) else (none)) else (some (x4 == x6))
end
def ephemerislaw2_SeriesChecks.f (k : Nat) (a0_0 : Int) (a0_1 : Int) (l0_2 : List (S53)) (a0_3 : Int) : Option (Bool) := (ephemerislaw2_seriesWorks.f k).bind fun t595 => (if t595 = true then ((ephemerisref2_SumErr.f k a0_0 a0_1 l0_2 a0_3).bind fun t596 => ((series_Bound.f k a0_0 a0_1 l0_2 a0_3).bind fun bt597 => ((series_Check.f k a0_0 a0_1 l0_2 a0_3).bind fun t599 => (if t599 = t596 then (ephemerislaw2_SeriesChecks.j0 k t596 bt597.1 (bt597.2 != t596) a0_0 a0_1 l0_2 a0_3) else (ephemerislaw2_SeriesChecks.j0 k t596 bt597.1 true a0_0 a0_1 l0_2 a0_3))))) else (some false))
theorem ephemerislaw2_SeriesChecks.mono_l : ∀ k, (∀ y0 y1 y2 y3 y4 y5 y6, LeO (ephemerislaw2_SeriesChecks.j0 k y0 y1 y2 y3 y4 y5 y6) (ephemerislaw2_SeriesChecks.j0 (k + 1) y0 y1 y2 y3 y4 y5 y6)) ∧ (∀ y0 y1 y2 y3 y4, LeO (ephemerislaw2_SeriesChecks.l0 k y0 y1 y2 y3 y4) (ephemerislaw2_SeriesChecks.l0 (k + 1) y0 y1 y2 y3 y4))
  | 0 => ⟨fun _ _ _ _ _ _ _ r h => by simp [ephemerislaw2_SeriesChecks.j0] at h, fun _ _ _ _ _ r h => by simp [ephemerislaw2_SeriesChecks.l0] at h⟩
  | k + 1 => by
    obtain ⟨ih0, ih1⟩ := ephemerislaw2_SeriesChecks.mono_l k
    refine ⟨?_, ?_⟩
    · intro y0 y1 y2 y3 y4 y5 y6
      unfold ephemerislaw2_SeriesChecks.j0
      repeat' first
      | (with_reducible exact ih0 _ _ _ _ _ _ _)
      | (with_reducible exact ih1 _ _ _ _ _)
      | (with_reducible exact ephemerislaw2_seriesWorks.mono _)
      | (with_reducible exact ephemerisref2_SumErr.mono _ _ _ _ _)
      | (with_reducible exact series_Bound.mono _ _ _ _ _)
      | (with_reducible exact series_Check.mono _ _ _ _ _)
      | (with_reducible exact LeO.refl _)
      | (with_reducible exact LeO.none _)
      | (with_reducible refine LeO.ite ?_ ?_)
      | (with_reducible refine LeO.bind ?_ (fun _ => ?_))
      | exact ih0 _ _ _ _ _ _ _
      | exact ih1 _ _ _ _ _
      | exact ephemerislaw2_seriesWorks.mono _
      | exact ephemerisref2_SumErr.mono _ _ _ _ _
      | exact series_Bound.mono _ _ _ _ _
      | exact series_Check.mono _ _ _ _ _
      | exact LeO.none _
      | refine LeO.ite ?_ ?_
      | refine LeO.bind ?_ (fun _ => ?_)
    · intro y0 y1 y2 y3 y4
      unfold ephemerislaw2_SeriesChecks.l0
      repeat' first
      | (with_reducible exact ih0 _ _ _ _ _ _ _)
      | (with_reducible exact ih1 _ _ _ _ _)
      | (with_reducible exact ephemerislaw2_seriesWorks.mono _)
      | (with_reducible exact ephemerisref2_SumErr.mono _ _ _ _ _)
      | (with_reducible exact series_Bound.mono _ _ _ _ _)
      | (with_reducible exact series_Check.mono _ _ _ _ _)
      | (with_reducible exact LeO.refl _)
      | (with_reducible exact LeO.none _)
      | (with_reducible refine LeO.ite ?_ ?_)
      | (with_reducible refine LeO.bind ?_ (fun _ => ?_))
      | exact ih0 _ _ _ _ _ _ _
      | exact ih1 _ _ _ _ _
      | exact ephemerislaw2_seriesWorks.mono _
      | exact ephemerisref2_SumErr.mono _ _ _ _ _
      | exact series_Bound.mono _ _ _ _ _
      | exact series_Check.mono _ _ _ _ _
      | exact LeO.none _
      | refine LeO.ite ?_ ?_
      | refine LeO.bind ?_ (fun _ => ?_)
theorem ephemerislaw2_SeriesChecks.mono : ∀ a0 a1 a2 a3 k, LeO (ephemerislaw2_SeriesChecks.f k a0 a1 a2 a3) (ephemerislaw2_SeriesChecks.f (k + 1) a0 a1 a2 a3) := by
  intro a0 a1 a2 a3 k
  obtain ⟨ih0, ih1⟩ := ephemerislaw2_SeriesChecks.mono_l k
  unfold ephemerislaw2_SeriesChecks.f
  repeat' first
      | (with_reducible exact ih0 _ _ _ _ _ _ _)
      | (with_reducible exact ih1 _ _ _ _ _)
      | (with_reducible exact ephemerislaw2_seriesWorks.mono _)
      | (with_reducible exact ephemerisref2_SumErr.mono _ _ _ _ _)
      | (with_reducible exact series_Bound.mono _ _ _ _ _)
      | (with_reducible exact series_Check.mono _ _ _ _ _)
      | (with_reducible exact LeO.refl _)
      | (with_reducible exact LeO.none _)
      | (with_reducible refine LeO.ite ?_ ?_)
      | (with_reducible refine LeO.bind ?_ (fun _ => ?_))
      | exact ih0 _ _ _ _ _ _ _
      | exact ih1 _ _ _ _ _
      | exact ephemerislaw2_seriesWorks.mono _
      | exact ephemerisref2_SumErr.mono _ _ _ _ _
      | exact series_Bound.mono _ _ _ _ _
      | exact series_Check.mono _ _ _ _ _
      | exact LeO.none _
      | refine LeO.ite ?_ ?_
      | refine LeO.bind ?_ (fun _ => ?_)
set_option maxHeartbeats 8000000 in
set_option maxRecDepth 100000 in
theorem ephemerislaw2_SeriesChecks.calls (k : Nat) (a0_0 : Int) (a0_1 : Int) (A0_2 : Option Addr) (c0_2 : Nat) (l0_2 : List (S53)) (a0_3 : Int) (r : Bool) (w : World) (hr0_2 : Kd.C k53 w A0_2 l0_2.length l0_2) (hc0_2 : l0_2.length ≤ c0_2) (h : ephemerislaw2_SeriesChecks.f k a0_0 a0_1 l0_2 a0_3 = some r) :
    Calls Try.prog 11 #[.agg #[.int .i64 a0_0, .int .i64 a0_1, .slice A0_2 l0_2.length c0_2, .int .i64 a0_3]] w fun e w' => e = .returned (.bool r) ∧ Below w.heap.size w w' := by
  have hu48 := Try.underlying48
  have hu53 := Try.underlying53
  have HR0_2 := Aside0.mk hr0_2
  have HC0_2 := Aside0.mk hc0_2
  clear hr0_2 hc0_2
  have HB := Aside0.mk (Below.refl w.heap.size w)
  have H : ((ephemerislaw2_seriesWorks.f k).bind fun t595 => (if t595 = true then ((ephemerisref2_SumErr.f k a0_0 a0_1 l0_2 a0_3).bind fun t596 => ((series_Bound.f k a0_0 a0_1 l0_2 a0_3).bind fun bt597 => ((series_Check.f k a0_0 a0_1 l0_2 a0_3).bind fun t599 => (if t599 = t596 then (ephemerislaw2_SeriesChecks.j0 k t596 bt597.1 (bt597.2 != t596) a0_0 a0_1 l0_2 a0_3) else (ephemerislaw2_SeriesChecks.j0 k t596 bt597.1 true a0_0 a0_1 l0_2 a0_3))))) else (some false))) = some r := h
  clear h
  replace H := Option.bind_eq_some_iff.mp H
  obtain ⟨t595, A20, H⟩ := H
  replace H : (if t595 = true then ((ephemerisref2_SumErr.f k a0_0 a0_1 l0_2 a0_3).bind fun t596 => ((series_Bound.f k a0_0 a0_1 l0_2 a0_3).bind fun bt597 => ((series_Check.f k a0_0 a0_1 l0_2 a0_3).bind fun t599 => (if t599 = t596 then (ephemerislaw2_SeriesChecks.j0 k t596 bt597.1 (bt597.2 != t596) a0_0 a0_1 l0_2 a0_3) else (ephemerislaw2_SeriesChecks.j0 k t596 bt597.1 true a0_0 a0_1 l0_2 a0_3))))) else (some false)) = some r := H
  have A2 := Aside0.mk A20
  clear A20
  by_cases c3 : t595 = true
  · subst c3
    have H1 : ((ephemerisref2_SumErr.f k a0_0 a0_1 l0_2 a0_3).bind fun t596 => ((series_Bound.f k a0_0 a0_1 l0_2 a0_3).bind fun bt597 => ((series_Check.f k a0_0 a0_1 l0_2 a0_3).bind fun t599 => (if t599 = t596 then (ephemerislaw2_SeriesChecks.j0 k t596 bt597.1 (bt597.2 != t596) a0_0 a0_1 l0_2 a0_3) else (ephemerislaw2_SeriesChecks.j0 k t596 bt597.1 true a0_0 a0_1 l0_2 a0_3))))) = some r := by rw [if_pos rfl] at H; exact H
    clear H
    have H := H1
    clear H1
    replace H := Option.bind_eq_some_iff.mp H
    obtain ⟨t596, A40, H⟩ := H
    replace H : ((series_Bound.f k a0_0 a0_1 l0_2 a0_3).bind fun bt597 => ((series_Check.f k a0_0 a0_1 l0_2 a0_3).bind fun t599 => (if t599 = t596 then (ephemerislaw2_SeriesChecks.j0 k t596 bt597.1 (bt597.2 != t596) a0_0 a0_1 l0_2 a0_3) else (ephemerislaw2_SeriesChecks.j0 k t596 bt597.1 true a0_0 a0_1 l0_2 a0_3)))) = some r := H
    have A4 := Aside0.mk A40
    clear A40
    replace H := Option.bind_eq_some_iff.mp H
    obtain ⟨⟨t597, t598⟩, A50, H⟩ := H
    replace H : ((series_Check.f k a0_0 a0_1 l0_2 a0_3).bind fun t599 => (if t599 = t596 then (ephemerislaw2_SeriesChecks.j0 k t596 t597 (t598 != t596) a0_0 a0_1 l0_2 a0_3) else (ephemerislaw2_SeriesChecks.j0 k t596 t597 true a0_0 a0_1 l0_2 a0_3))) = some r := H
    have A5 := Aside0.mk A50
    clear A50
    have HC6 := Aside0.mk H
    clear H
    go_enter Try.func11, Try.ntmps11
    go_upto_region 5 with (first | ((with_reducible refine gate_dst (N := 1) rfl ?_); refine box_event ?hg (N := 1) ?hd (cs := #[.int .i64 a0_0, .int .i64 a0_1, .slice A0_2 l0_2.length c0_2, .int .i64 a0_3]) (t := 48) ?hr ?_; (case hd => rfl); (case hg => rfl); (case hr => first | (go_simp; done) | (go_simp; rfl)); intro gb594 hg w7 hbox hb; have n0_ := Aside0.mk (below_step (by repeat (first | (with_reducible first | exact HB.out | apply below_alloc | apply pw_below_drewN | apply below_drew1) | exact HB.out)) hb); have n1_ := Aside0.mk (hbox); have n2_ := Aside0.mk ((by rw [hg]; exact (below_size (by repeat (first | (with_reducible first | exact HB.out | apply below_alloc | apply pw_below_drewN | apply below_drew1) | exact HB.out))) : w.heap.size ≤ gb594)); have n3_ := Aside0.mk ((by rw [hg]; exact (below_size (by repeat (first | (with_reducible first | exact HB.out | apply below_alloc | apply pw_below_drewN | apply below_drew1) | exact HB.out))) : w.heap.size ≤ gb594)); clear HB; have HB := n0_; have BK594 := n1_; have GW594 := n2_; have GE594 := n3_; clear n0_ n1_ n2_ n3_; clear hb hbox hg) | ((with_reducible refine gate_callee (f := 41) rfl ?_); refine goesL_ (some 9) rfl rfl Try.func41 (by kernel_rfl) rfl #[] rfl (by (try simp only [List.map_toArray, List.map_cons, List.map_nil]); first | done | rfl | (simp only [List.length_drop, List.length_take]; rfl)) ?_; (with_reducible refine (ephemerislaw2_seriesWorks.calls k  true _ A2.out).mono ?_); rintro e w8 ⟨rfl, hb⟩; refine ⟨_, rfl, ?_⟩; have n0_ := Aside0.mk (blk_below (g := gb594) (o := .cells #[.int .i64 a0_0, .int .i64 a0_1, .slice A0_2 l0_2.length c0_2, .int .i64 a0_3] 48 (0, 0)) (by (with_reducible repeat (first | refine blk_drewN ?_ _ | refine blk_drew ?_ | refine blk_alloc ?_ _)); exact BK594.out) hb); have n1_ := Aside0.mk (below_step (by repeat (first | (with_reducible first | exact HB.out | apply below_alloc | apply pw_below_drewN | apply below_drew1 | refine below_set ?_ GE594.out) | exact HB.out)) hb); clear BK594; clear HB; have BK594 := n0_; have HB := n1_; clear n0_ n1_; (try clear hb); (try clear hb2); (try clear hk); (try clear hi); have hcz9_0 : w8.cell? ⟨gb594, 0, none⟩ = some (.int .i64 a0_0) := (blk_cell BK594.out 0).trans rfl; have hcz9_1 : w8.cell? ⟨gb594, 1, none⟩ = some (.int .i64 a0_1) := (blk_cell BK594.out 1).trans rfl; have hcz9_2 : w8.cell? ⟨gb594, 2, none⟩ = some (.slice A0_2 l0_2.length c0_2) := (blk_cell BK594.out 2).trans rfl; have hcz9_3 : w8.cell? ⟨gb594, 3, none⟩ = some (.int .i64 a0_3) := (blk_cell BK594.out 3).trans rfl; have hfz9_0 := blk_frozen BK594.out 0; have hfz9_1 := blk_frozen BK594.out 1; have hfz9_2 := blk_frozen BK594.out 2; have hfz9_3 := blk_frozen BK594.out 3) | ((with_reducible refine gate_callee (f := 42) rfl ?_); refine goesL_ (some 12) rfl rfl Try.func42 (by kernel_rfl) rfl #[.agg #[.int .i64 a0_0, .int .i64 a0_1, .slice A0_2 l0_2.length c0_2, .int .i64 a0_3]] rfl (by (try simp only [List.map_toArray, List.map_cons, List.map_nil]); first | done | rfl | (simp only [List.length_drop, List.length_take]; rfl)) ?_; (with_reducible refine (ephemerisref2_SumErr.calls k a0_0 a0_1 _ _ l0_2 a0_3 t596 _ ?side1 ?side2 A4.out).mono ?_); (case side1 => repeat (first | exact (Kd.C_below HR0_2.out HB.out) | (with_reducible refine Kd.C_alloc ?_ _) | (with_reducible refine Kd.C_drewN ?_ _) | (with_reducible refine Kd.C_drew ?_))); (case side2 => exact HC0_2.out); rintro e w10 ⟨rfl, hb⟩; refine ⟨_, rfl, ?_⟩; have n0_ := Aside0.mk (blk_below (g := gb594) (o := .cells #[.int .i64 a0_0, .int .i64 a0_1, .slice A0_2 l0_2.length c0_2, .int .i64 a0_3] 48 (0, 0)) (by (with_reducible repeat (first | refine blk_drewN ?_ _ | refine blk_drew ?_ | refine blk_alloc ?_ _)); exact BK594.out) hb); have n1_ := Aside0.mk (below_step (by repeat (first | (with_reducible first | exact HB.out | apply below_alloc | apply pw_below_drewN | apply below_drew1 | refine below_set ?_ GE594.out) | exact HB.out)) hb); clear BK594; clear HB; have BK594 := n0_; have HB := n1_; clear n0_ n1_; (try clear hb); (try clear hb2); (try clear hk); (try clear hi); have hcz11_0 : w10.cell? ⟨gb594, 0, none⟩ = some (.int .i64 a0_0) := (blk_cell BK594.out 0).trans rfl; have hcz11_1 : w10.cell? ⟨gb594, 1, none⟩ = some (.int .i64 a0_1) := (blk_cell BK594.out 1).trans rfl; have hcz11_2 : w10.cell? ⟨gb594, 2, none⟩ = some (.slice A0_2 l0_2.length c0_2) := (blk_cell BK594.out 2).trans rfl; have hcz11_3 : w10.cell? ⟨gb594, 3, none⟩ = some (.int .i64 a0_3) := (blk_cell BK594.out 3).trans rfl; have hfz11_0 := blk_frozen BK594.out 0; have hfz11_1 := blk_frozen BK594.out 1; have hfz11_2 := blk_frozen BK594.out 2; have hfz11_3 := blk_frozen BK594.out 3) | ((with_reducible refine gate_callee (f := 43) rfl ?_); refine goesL_ (some 15) rfl rfl Try.func43 (by kernel_rfl) rfl #[.agg #[.int .i64 a0_0, .int .i64 a0_1, .slice A0_2 l0_2.length c0_2, .int .i64 a0_3]] rfl (by (try simp only [List.map_toArray, List.map_cons, List.map_nil]); first | done | rfl | (simp only [List.length_drop, List.length_take]; rfl)) ?_; (with_reducible refine (series_Bound.calls k a0_0 a0_1 _ _ l0_2 a0_3 t597 t598 _ ?side1 ?side2 A5.out).mono ?_); (case side1 => repeat (first | exact (Kd.C_below HR0_2.out HB.out) | (with_reducible refine Kd.C_alloc ?_ _) | (with_reducible refine Kd.C_drewN ?_ _) | (with_reducible refine Kd.C_drew ?_))); (case side2 => exact HC0_2.out); rintro e w12 ⟨rfl, hb⟩; refine ⟨_, rfl, ?_⟩; have n0_ := Aside0.mk (blk_below (g := gb594) (o := .cells #[.int .i64 a0_0, .int .i64 a0_1, .slice A0_2 l0_2.length c0_2, .int .i64 a0_3] 48 (0, 0)) (by (with_reducible repeat (first | refine blk_drewN ?_ _ | refine blk_drew ?_ | refine blk_alloc ?_ _)); exact BK594.out) hb); have n1_ := Aside0.mk (below_step (by repeat (first | (with_reducible first | exact HB.out | apply below_alloc | apply pw_below_drewN | apply below_drew1 | refine below_set ?_ GE594.out) | exact HB.out)) hb); clear BK594; clear HB; have BK594 := n0_; have HB := n1_; clear n0_ n1_; (try clear hb); (try clear hb2); (try clear hk); (try clear hi)))
    (try simp only [Act.put, List.setIfInBounds_toArray, List.set_cons_zero, List.set_cons_succ])
    go_cut [26] (fun v26 wc => ∃ (kq : Nat) (x26_5 : Bool), v26 = .bool x26_5 ∧ Aside0 (ephemerislaw2_SeriesChecks.j0 kq t596 t597 x26_5 a0_0 a0_1 l0_2 a0_3 = some r) ∧ Aside0 (kq ≤ k) ∧ Aside0 (wc.heap[gb594]? = some (.cells #[.int .i64 a0_0, .int .i64 a0_1, (.slice A0_2 l0_2.length c0_2), .int .i64 a0_3] 48 (0, 0))) ∧ Aside0 (Below w.heap.size w wc))
    case first =>
      have H := HC6.out
      clear HC6
      replace H := Option.bind_eq_some_iff.mp H
      obtain ⟨t599, A130, H⟩ := H
      replace H : (if t599 = t596 then (ephemerislaw2_SeriesChecks.j0 k t596 t597 (t598 != t596) a0_0 a0_1 l0_2 a0_3) else (ephemerislaw2_SeriesChecks.j0 k t596 t597 true a0_0 a0_1 l0_2 a0_3)) = some r := H
      have A13 := Aside0.mk A130
      clear A130
      by_cases c14 : t599 = t596
      · rw [if_pos c14] at H
        have c14b0 : (t599 == t596) = true := beq_iff_eq.mpr c14
        have c14b1 : (t599 != t596) = false := bne_eq_false_iff_eq.mpr c14
        clear c14
        (first | rw [c14b0] | (simp only [i64_w, i32_w]; rw [c14b0]) | skip)
        have H' := Aside0.mk H
        clear H
        have hcz15_0 : w12.cell? ⟨gb594, 0, none⟩ = some (.int .i64 a0_0) := (blk_cell BK594.out 0).trans rfl
        have hcz15_1 : w12.cell? ⟨gb594, 1, none⟩ = some (.int .i64 a0_1) := (blk_cell BK594.out 1).trans rfl
        have hcz15_2 : w12.cell? ⟨gb594, 2, none⟩ = some (.slice A0_2 l0_2.length c0_2) := (blk_cell BK594.out 2).trans rfl
        have hcz15_3 : w12.cell? ⟨gb594, 3, none⟩ = some (.int .i64 a0_3) := (blk_cell BK594.out 3).trans rfl
        have hfz15_0 := blk_frozen BK594.out 0
        have hfz15_1 := blk_frozen BK594.out 1
        have hfz15_2 := blk_frozen BK594.out 2
        have hfz15_3 := blk_frozen BK594.out 3
        go_wp2_with (first | ((with_reducible refine gate_callee (f := 44) rfl ?_); refine goesL_ (some 19) rfl rfl Try.func44 (by kernel_rfl) rfl #[.agg #[.int .i64 a0_0, .int .i64 a0_1, .slice A0_2 l0_2.length c0_2, .int .i64 a0_3]] rfl (by (try simp only [List.map_toArray, List.map_cons, List.map_nil]); first | done | rfl | (simp only [List.length_drop, List.length_take]; rfl)) ?_; (with_reducible refine (series_Check.calls k a0_0 a0_1 _ _ l0_2 a0_3 t599 _ ?side1 ?side2 A13.out).mono ?_); (case side1 => repeat (first | exact (Kd.C_below HR0_2.out HB.out) | (with_reducible refine Kd.C_alloc ?_ _) | (with_reducible refine Kd.C_drewN ?_ _) | (with_reducible refine Kd.C_drew ?_))); (case side2 => exact HC0_2.out); rintro e w16 ⟨rfl, hb⟩; refine ⟨_, rfl, ?_⟩; have n0_ := Aside0.mk (blk_below (g := gb594) (o := .cells #[.int .i64 a0_0, .int .i64 a0_1, .slice A0_2 l0_2.length c0_2, .int .i64 a0_3] 48 (0, 0)) (by (with_reducible repeat (first | refine blk_drewN ?_ _ | refine blk_drew ?_ | refine blk_alloc ?_ _)); exact BK594.out) hb); have n1_ := Aside0.mk (below_step (by repeat (first | (with_reducible first | exact HB.out | apply below_alloc | apply pw_below_drewN | apply below_drew1 | refine below_set ?_ GE594.out) | exact HB.out)) hb); clear BK594; clear HB; have BK594 := n0_; have HB := n1_; clear n0_ n1_; (try clear hb); (try clear hb2); (try clear hk); (try clear hi)))
        go_meet
        case rel => exact ⟨_, ((t598 != t596)), (by first | rfl | (simp; done) | (simp [*]; done)), H', ⟨by first | omega | exact Nat.le_refl _⟩, ⟨by (with_reducible repeat (first | refine blk_drewN ?_ _ | refine blk_drew ?_ | refine blk_alloc ?_ _)); exact BK594.out⟩, ⟨by repeat (first | (with_reducible first | exact HB.out | apply below_alloc | apply pw_below_drewN | apply below_drew1 | refine below_set ?_ GE594.out) | exact HB.out)⟩⟩
      · rw [if_neg c14] at H
        have c14b0 : (t599 == t596) = false := beq_eq_false_iff_ne.mpr c14
        have c14b1 : (t599 != t596) = true := bne_iff_ne.mpr c14
        (first | rw [c14b0] | (simp only [i64_w, i32_w]; rw [c14b0]) | skip)
        have H' := Aside0.mk H
        clear H
        have hcz17_0 : w12.cell? ⟨gb594, 0, none⟩ = some (.int .i64 a0_0) := (blk_cell BK594.out 0).trans rfl
        have hcz17_1 : w12.cell? ⟨gb594, 1, none⟩ = some (.int .i64 a0_1) := (blk_cell BK594.out 1).trans rfl
        have hcz17_2 : w12.cell? ⟨gb594, 2, none⟩ = some (.slice A0_2 l0_2.length c0_2) := (blk_cell BK594.out 2).trans rfl
        have hcz17_3 : w12.cell? ⟨gb594, 3, none⟩ = some (.int .i64 a0_3) := (blk_cell BK594.out 3).trans rfl
        have hfz17_0 := blk_frozen BK594.out 0
        have hfz17_1 := blk_frozen BK594.out 1
        have hfz17_2 := blk_frozen BK594.out 2
        have hfz17_3 := blk_frozen BK594.out 3
        go_wp2_with (first | ((with_reducible refine gate_callee (f := 44) rfl ?_); refine goesL_ (some 19) rfl rfl Try.func44 (by kernel_rfl) rfl #[.agg #[.int .i64 a0_0, .int .i64 a0_1, .slice A0_2 l0_2.length c0_2, .int .i64 a0_3]] rfl (by (try simp only [List.map_toArray, List.map_cons, List.map_nil]); first | done | rfl | (simp only [List.length_drop, List.length_take]; rfl)) ?_; (with_reducible refine (series_Check.calls k a0_0 a0_1 _ _ l0_2 a0_3 t599 _ ?side1 ?side2 A13.out).mono ?_); (case side1 => repeat (first | exact (Kd.C_below HR0_2.out HB.out) | (with_reducible refine Kd.C_alloc ?_ _) | (with_reducible refine Kd.C_drewN ?_ _) | (with_reducible refine Kd.C_drew ?_))); (case side2 => exact HC0_2.out); rintro e w18 ⟨rfl, hb⟩; refine ⟨_, rfl, ?_⟩; have n0_ := Aside0.mk (blk_below (g := gb594) (o := .cells #[.int .i64 a0_0, .int .i64 a0_1, .slice A0_2 l0_2.length c0_2, .int .i64 a0_3] 48 (0, 0)) (by (with_reducible repeat (first | refine blk_drewN ?_ _ | refine blk_drew ?_ | refine blk_alloc ?_ _)); exact BK594.out) hb); have n1_ := Aside0.mk (below_step (by repeat (first | (with_reducible first | exact HB.out | apply below_alloc | apply pw_below_drewN | apply below_drew1 | refine below_set ?_ GE594.out) | exact HB.out)) hb); clear BK594; clear HB; have BK594 := n0_; have HB := n1_; clear n0_ n1_; (try clear hb); (try clear hb2); (try clear hk); (try clear hi)))
        go_meet
        case rel => exact ⟨_, (true), (by first | rfl | (simp; done) | (simp [*]; done)), H', ⟨by first | omega | exact Nat.le_refl _⟩, ⟨by (with_reducible repeat (first | refine blk_drewN ?_ _ | refine blk_drew ?_ | refine blk_alloc ?_ _)); exact BK594.out⟩, ⟨by repeat (first | (with_reducible first | exact HB.out | apply below_alloc | apply pw_below_drewN | apply below_drew1 | refine below_set ?_ GE594.out) | exact HB.out)⟩⟩
    case rest =>
      clear HC6
      try clear c1
      try clear p2
      try clear c3
      try clear c4
      try clear c11
      try clear c14
      try clear c14b0
      try clear c14b1
      try clear hcz11_0
      try clear hcz11_1
      try clear hcz11_2
      try clear hcz11_3
      try clear hcz15_0
      try clear hcz15_1
      try clear hcz15_2
      try clear hcz15_3
      try clear hcz17_0
      try clear hcz17_1
      try clear hcz17_2
      try clear hcz17_3
      try clear hcz9_0
      try clear hcz9_1
      try clear hcz9_2
      try clear hcz9_3
      try clear hfz11_0
      try clear hfz11_1
      try clear hfz11_2
      try clear hfz11_3
      try clear hfz15_0
      try clear hfz15_1
      try clear hfz15_2
      try clear hfz15_3
      try clear hfz17_0
      try clear hfz17_1
      try clear hfz17_2
      try clear hfz17_3
      try clear hfz9_0
      try clear hfz9_1
      try clear hfz9_2
      try clear hfz9_3
      obtain ⟨kq, x26_5, rfl, HA, HJ5, BK594, HB⟩ := hcut
      cases kq with
      | zero => exact absurd HA.out (by simp [ephemerislaw2_SeriesChecks.j0])
      | succ kj5 =>
        have H := HA.out
        clear HA
        simp only [ephemerislaw2_SeriesChecks.j0] at H
        by_cases c19 : x26_5 = true
        · subst c19
          have H1 : (some false) = some r := by rw [if_pos rfl] at H; exact H
          clear H
          have H := H1
          clear H1
          obtain rfl := Option.some.inj H
          go_wp2
          go_ret
          exact ⟨by first | rfl | (simp [errW_none, errW_some] <;> rfl) | (simp [*, errW_none, errW_some] <;> rfl), by repeat (first | (with_reducible first | exact HB.out | apply below_alloc | apply pw_below_drewN | apply below_drew1 | refine below_set ?_ GE594.out) | exact HB.out)⟩
        · replace c19 := Bool.eq_false_iff.mpr c19
          subst c19
          have H1 : (if t596 = 0 then (ephemerislaw2_SeriesChecks.l0 kj5 t597 (wrap64 (2 * a0_3)) l0_2 (l0_2.length : Int) 0) else (some (t597 == 0))) = some r := by rw [if_neg (show ¬ (false = true) by decide)] at H; exact H
          clear H
          have H := H1
          clear H1
          by_cases c20 : t596 = 0
          · rw [if_pos c20] at H
            have c20b0 : (t596 == 0) = true := beq_iff_eq.mpr c20
            have c20b1 : (t596 != 0) = false := bne_eq_false_iff_eq.mpr c20
            clear c20
            have H' := Aside0.mk H
            clear H
            have hcz21_0 : wc.cell? ⟨gb594, 0, none⟩ = some (.int .i64 a0_0) := (blk_cell BK594.out 0).trans rfl
            have hcz21_1 : wc.cell? ⟨gb594, 1, none⟩ = some (.int .i64 a0_1) := (blk_cell BK594.out 1).trans rfl
            have hcz21_2 : wc.cell? ⟨gb594, 2, none⟩ = some (.slice A0_2 l0_2.length c0_2) := (blk_cell BK594.out 2).trans rfl
            have hcz21_3 : wc.cell? ⟨gb594, 3, none⟩ = some (.int .i64 a0_3) := (blk_cell BK594.out 3).trans rfl
            have hfz21_0 := blk_frozen BK594.out 0
            have hfz21_1 := blk_frozen BK594.out 1
            have hfz21_2 := blk_frozen BK594.out 2
            have hfz21_3 := blk_frozen BK594.out 3
            go_wp2
            go_loopg [6, 37] kj5 (fun kq v6 v37 w' => ∃ (x6_2 : Int) (x37_2 : Int), v6 = .int .i64 x6_2 ∧ v37 = .int .i64 x37_2 ∧ Aside0 (ephemerislaw2_SeriesChecks.l0 kq t597 x6_2 l0_2 (l0_2.length : Int) x37_2 = some r) ∧ Aside0 (kq ≤ kj5) ∧ Aside0 (w'.heap[gb594]? = some (.cells #[.int .i64 a0_0, .int .i64 a0_1, (.slice A0_2 l0_2.length c0_2), .int .i64 a0_3] 48 (0, 0))) ∧ Aside0 (Below w.heap.size w w'))
            case atStart => exact ⟨(wrap64 (2 * a0_3)), (0), (by first | rfl | (simp; done) | (simp [*]; done)), (by first | rfl | (simp; done) | (simp [*]; done)), H', ⟨Nat.le_refl _⟩, ⟨by (with_reducible repeat (first | refine blk_drewN ?_ _ | refine blk_drew ?_ | refine blk_alloc ?_ _)); exact BK594.out⟩, ⟨by repeat (first | (with_reducible first | exact HB.out | apply below_alloc | apply pw_below_drewN | apply below_drew1 | refine below_set ?_ GE594.out) | exact HB.out)⟩⟩
            case round =>
              clear H'
              try clear c1
              try clear c2
              try clear p2
              try clear c3
              try clear c4
              try clear p6
              try clear c11
              try clear c14
              try clear c14b0
              try clear c14b1
              try clear c19
              try clear c20
              try clear c20b0
              try clear c20b1
              try clear hcz11_0
              try clear hcz11_1
              try clear hcz11_2
              try clear hcz11_3
              try clear hcz15_0
              try clear hcz15_1
              try clear hcz15_2
              try clear hcz15_3
              try clear hcz17_0
              try clear hcz17_1
              try clear hcz17_2
              try clear hcz17_3
              try clear hcz21_0
              try clear hcz21_1
              try clear hcz21_2
              try clear hcz21_3
              try clear hcz9_0
              try clear hcz9_1
              try clear hcz9_2
              try clear hcz9_3
              try clear hfz11_0
              try clear hfz11_1
              try clear hfz11_2
              try clear hfz11_3
              try clear hfz15_0
              try clear hfz15_1
              try clear hfz15_2
              try clear hfz15_3
              try clear hfz17_0
              try clear hfz17_1
              try clear hfz17_2
              try clear hfz17_3
              try clear hfz21_0
              try clear hfz21_1
              try clear hfz21_2
              try clear hfz21_3
              try clear hfz9_0
              try clear hfz9_1
              try clear hfz9_2
              try clear hfz9_3
              try clear p2
              obtain ⟨x6_2, x37_2, rfl, rfl, HA, HK2, BK594, HB⟩ := hrel
              cases gk with
              | zero => exact absurd HA.out (by simp [ephemerislaw2_SeriesChecks.l0])
              | succ k2 =>
                have H := HA.out
                clear HA
                simp only [ephemerislaw2_SeriesChecks.l0] at H
                by_cases c22 : x37_2 < (l0_2.length : Int)
                · rw [if_pos c22] at H
                  have c22b0 : decide (x37_2 < (l0_2.length : Int)) = true := decide_eq_true c22
                  clear c22
                  by_cases c23 : 0 ≤ x37_2
                  · rw [if_pos c23] at H
                    have c23b0 : decide (0 ≤ x37_2) = true := decide_eq_true c23
                    clear c23
                    by_cases c24 : x37_2 < (l0_2.length : Int)
                    · rw [if_pos c24] at H
                      have c24b0 : decide (x37_2 < (l0_2.length : Int)) = true := decide_eq_true c24
                      clear c24
                      obtain ⟨ji25, hji25⟩ : ∃ j_ : Int, (mx ((rd_T53 l0_2 x37_2).f0) (wrap64 (-((rd_T53 l0_2 x37_2).f0)))) = j_ := ⟨_, rfl⟩
                      replace H : (ephemerislaw2_SeriesChecks.l0 k2 t597 (wrap64 (x6_2 + (wrap64 (2 + (wrap64 (Int.tdiv (ji25) 100000000)))))) l0_2 (l0_2.length : Int) (wrap64 (x37_2 + 1))) = some r := by first | (rw [hji25] at H; exact H) | (simp only [hji25] at H ⊢; exact H)
                      have hji25_ : (if ((rd_T53 l0_2 x37_2).f0) < (wrap64 (-((rd_T53 l0_2 x37_2).f0))) then (wrap64 (-((rd_T53 l0_2 x37_2).f0))) else ((rd_T53 l0_2 x37_2).f0)) = ji25 := hji25
                      have H' := Aside0.mk H
                      clear H
                      have p600 : 0 ≤ (x37_2 : Int) := of_decide_eq_true (by first | (with_reducible assumption) | assumption)
                      have q600 : x37_2 < (l0_2.length : Int) := of_decide_eq_true (by first | (with_reducible assumption) | assumption)
                      obtain ⟨ad600, e600, hx600_0, hx600_1, hx600_2⟩ := at_T53 HR0_2.out x37_2 p600 q600
                      cases e600
                      replace hx600_0 := (HB.out.cell (World.block_lt_of_cell? w _ hx600_0)).trans hx600_0
                      replace hx600_1 := (HB.out.cell (World.block_lt_of_cell? w _ hx600_1)).trans hx600_1
                      replace hx600_2 := (HB.out.cell (World.block_lt_of_cell? w _ hx600_2)).trans hx600_2
                      replace p600 := eq_true p600
                      replace q600 := eq_true q600
                      go_wp2_with (first | ((with_reducible refine gate_dst (N := 8) rfl ?_); refine box_event ?hg (N := 8) ?hd (cs := #[.int .i64 0, .int .i64 0, .int .i64 0]) (t := 53) ?hr ?_; (case hd => rfl); (case hg => rfl); (case hr => first | (go_simp; done) | (go_simp; rfl)); intro gb601 hg w26 hbox hb; have n0_ := Aside0.mk (blk_below (g := gb594) (o := .cells #[.int .i64 a0_0, .int .i64 a0_1, .slice (some ad600) l0_2.length c0_2, .int .i64 a0_3] 48 (0, 0)) (by (with_reducible repeat (first | refine blk_drewN ?_ _ | refine blk_drew ?_ | refine blk_alloc ?_ _)); exact BK594.out) hb); have n1_ := Aside0.mk (below_step (by repeat (first | (with_reducible first | exact HB.out | apply below_alloc | apply pw_below_drewN | apply below_drew1 | refine below_set ?_ GE594.out) | exact HB.out)) hb); have n2_ := Aside0.mk (hbox); have n3_ := Aside0.mk ((by rw [hg]; exact (below_size (by repeat (first | (with_reducible first | exact HB.out | apply below_alloc | apply pw_below_drewN | apply below_drew1 | refine below_set ?_ GE594.out) | exact HB.out))) : w.heap.size ≤ gb601)); have n4_ := Aside0.mk ((by rw [hg]; exact (below_size (by repeat (first | (with_reducible first | exact HB.out | apply below_alloc | apply pw_below_drewN | apply below_drew1 | refine below_set ?_ GE594.out) | exact HB.out))) : w.heap.size ≤ gb601)); have n5_ := Aside0.mk ((by rw [hg]; exact Nat.ne_of_lt (blk_lt (g := gb594) (o := .cells #[.int .i64 a0_0, .int .i64 a0_1, .slice (some ad600) l0_2.length c0_2, .int .i64 a0_3] 48 (0, 0)) (by (with_reducible repeat (first | refine blk_drewN ?_ _ | refine blk_drew ?_ | refine blk_alloc ?_ _)); exact BK594.out)) : gb594 ≠ gb601)); have n6_ := Aside0.mk ((by rw [hg]; exact Nat.ne_of_gt (blk_lt (g := gb594) (o := .cells #[.int .i64 a0_0, .int .i64 a0_1, .slice (some ad600) l0_2.length c0_2, .int .i64 a0_3] 48 (0, 0)) (by (with_reducible repeat (first | refine blk_drewN ?_ _ | refine blk_drew ?_ | refine blk_alloc ?_ _)); exact BK594.out)) : gb601 ≠ gb594)); clear BK594; clear HB; have BK594 := n0_; have HB := n1_; have BK601 := n2_; have GW601 := n3_; have GE601 := n4_; have NB594_601 := n5_; have NB601_594 := n6_; clear n0_ n1_ n2_ n3_ n4_ n5_ n6_; clear hb hbox hg; have hnb27 := NB601_594.out; have hnc27 := NB594_601.out; have hcz28_0 : w26.cell? ⟨gb601, 0, none⟩ = some (.int .i64 0) := (blk_cell BK601.out 0).trans rfl; have hcz28_1 : w26.cell? ⟨gb601, 1, none⟩ = some (.int .i64 0) := (blk_cell BK601.out 1).trans rfl; have hcz28_2 : w26.cell? ⟨gb601, 2, none⟩ = some (.int .i64 0) := (blk_cell BK601.out 2).trans rfl; have hfz28_0 := blk_frozen BK601.out 0; have hfz28_1 := blk_frozen BK601.out 1; have hfz28_2 := blk_frozen BK601.out 2))
                      go_roundg k2
                      case measure => have := HJ5.out; have := HK2.out; omega
                      case rel => exact ⟨(wrap64 (x6_2 + (wrap64 (2 + (wrap64 (Int.tdiv (ji25) 100000000)))))), (wrap64 (x37_2 + 1)), (by first | rfl | (simp; done) | (simp only [← hji25] <;> (first | rfl | simp)) | (simp [*]; done)), (by first | rfl | (simp; done) | (simp [*]; done)), H', ⟨by have := HJ5.out; have := HK2.out; omega⟩, ⟨by (with_reducible repeat (first | refine blk_drewN ?_ _ | refine blk_drew ?_ | refine blk_alloc ?_ _)); refine blk_far ?_ NB594_601.out _; (with_reducible repeat (first | refine blk_drewN ?_ _ | refine blk_drew ?_ | refine blk_alloc ?_ _)); refine blk_far ?_ NB594_601.out _; (with_reducible repeat (first | refine blk_drewN ?_ _ | refine blk_drew ?_ | refine blk_alloc ?_ _)); refine blk_far ?_ NB594_601.out _; (with_reducible repeat (first | refine blk_drewN ?_ _ | refine blk_drew ?_ | refine blk_alloc ?_ _)); exact BK594.out⟩, ⟨by repeat (first | (with_reducible first | exact HB.out | apply below_alloc | apply pw_below_drewN | apply below_drew1 | refine below_set ?_ GE594.out | refine below_set ?_ GE601.out) | exact HB.out)⟩⟩
                    · rw [if_neg c24] at H
                      exact absurd H (by simp)
                  · rw [if_neg c23] at H
                    exact absurd H (by simp)
                · rw [if_neg c22] at H
                  have c22b0 : decide (x37_2 < (l0_2.length : Int)) = false := decide_eq_false c22
                  clear c22
                  obtain rfl := Option.some.inj H
                  go_wp2
                  go_ret
                  exact ⟨by first | rfl | (simp [errW_none, errW_some] <;> rfl) | (simp [*, errW_none, errW_some] <;> rfl), by repeat (first | (with_reducible first | exact HB.out | apply below_alloc | apply pw_below_drewN | apply below_drew1 | refine below_set ?_ GE594.out) | exact HB.out)⟩
          · rw [if_neg c20] at H
            have c20b0 : (t596 == 0) = false := beq_eq_false_iff_ne.mpr c20
            have c20b1 : (t596 != 0) = true := bne_iff_ne.mpr c20
            obtain rfl := Option.some.inj H
            go_wp2
            go_ret
            exact ⟨by first | rfl | (simp [errW_none, errW_some] <;> rfl) | (simp [*, errW_none, errW_some] <;> rfl), by repeat (first | (with_reducible first | exact HB.out | apply below_alloc | apply pw_below_drewN | apply below_drew1 | refine below_set ?_ GE594.out) | exact HB.out)⟩
  · replace c3 := Bool.eq_false_iff.mpr c3
    subst c3
    have H1 : (some false) = some r := by rw [if_neg (show ¬ (false = true) by decide)] at H; exact H
    clear H
    have H := H1
    clear H1
    obtain rfl := Option.some.inj H
    go_enter Try.func11, Try.ntmps11
    go_wp2_with (first | ((with_reducible refine gate_dst (N := 1) rfl ?_); refine box_event ?hg (N := 1) ?hd (cs := #[.int .i64 a0_0, .int .i64 a0_1, .slice A0_2 l0_2.length c0_2, .int .i64 a0_3]) (t := 48) ?hr ?_; (case hd => rfl); (case hg => rfl); (case hr => first | (go_simp; done) | (go_simp; rfl)); intro gb594 hg w29 hbox hb; have n0_ := Aside0.mk (below_step (by repeat (first | (with_reducible first | exact HB.out | apply below_alloc | apply pw_below_drewN | apply below_drew1) | exact HB.out)) hb); have n1_ := Aside0.mk (hbox); have n2_ := Aside0.mk ((by rw [hg]; exact (below_size (by repeat (first | (with_reducible first | exact HB.out | apply below_alloc | apply pw_below_drewN | apply below_drew1) | exact HB.out))) : w.heap.size ≤ gb594)); have n3_ := Aside0.mk ((by rw [hg]; exact (below_size (by repeat (first | (with_reducible first | exact HB.out | apply below_alloc | apply pw_below_drewN | apply below_drew1) | exact HB.out))) : w.heap.size ≤ gb594)); clear HB; have HB := n0_; have BK594 := n1_; have GW594 := n2_; have GE594 := n3_; clear n0_ n1_ n2_ n3_; clear hb hbox hg) | ((with_reducible refine gate_callee (f := 41) rfl ?_); refine goesL_ (some 9) rfl rfl Try.func41 (by kernel_rfl) rfl #[] rfl (by (try simp only [List.map_toArray, List.map_cons, List.map_nil]); first | done | rfl | (simp only [List.length_drop, List.length_take]; rfl)) ?_; (with_reducible refine (ephemerislaw2_seriesWorks.calls k  false _ A2.out).mono ?_); rintro e w30 ⟨rfl, hb⟩; refine ⟨_, rfl, ?_⟩; have n0_ := Aside0.mk (blk_below (g := gb594) (o := .cells #[.int .i64 a0_0, .int .i64 a0_1, .slice A0_2 l0_2.length c0_2, .int .i64 a0_3] 48 (0, 0)) (by (with_reducible repeat (first | refine blk_drewN ?_ _ | refine blk_drew ?_ | refine blk_alloc ?_ _)); exact BK594.out) hb); have n1_ := Aside0.mk (below_step (by repeat (first | (with_reducible first | exact HB.out | apply below_alloc | apply pw_below_drewN | apply below_drew1 | refine below_set ?_ GE594.out) | exact HB.out)) hb); clear BK594; clear HB; have BK594 := n0_; have HB := n1_; clear n0_ n1_; (try clear hb); (try clear hb2); (try clear hk); (try clear hi)))
    go_ret
    exact ⟨by first | rfl | (simp [errW_none, errW_some] <;> rfl) | (simp [*, errW_none, errW_some] <;> rfl), by repeat (first | (with_reducible first | exact HB.out | apply below_alloc | apply pw_below_drewN | apply below_drew1 | refine below_set ?_ GE594.out) | exact HB.out)⟩


end Go.Proofs.Ytelcegpaakbppaa.PAll
