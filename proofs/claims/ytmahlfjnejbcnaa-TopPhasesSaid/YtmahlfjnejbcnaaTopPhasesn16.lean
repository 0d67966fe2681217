/- Written by a program of this session: what one law needs. -/
import Derived.Test.YtmahlfjnejbcnaaTopPhasesn14
import Derived.Test.YtmahlfjnejbcnaaTopPhasesn15
set_option maxRecDepth 100000
set_option linter.unusedSimpArgs false
set_option linter.unusedVariables false
section
namespace Go.Proofs.Ytmahlfjnejbcnaa.PAll
open Go.RowKit YtmahlfjnejbcnaaW.PrintWords YtmahlfjnejbcnaaW.PrintLast YtmahlfjnejbcnaaW.PrintMore More2
attribute [local go_sem] max2_int min2_int max_two min_two max_three min_three max_four min_four tdiv2e18_ tdiv1e18_ cellSS_  -- for this text's walks alone
mutual
def series_Slope.l0 : Nat → Int → List (S71) → Int → Int → Int → Int → List (S71) → Int → Option (Int × Int × Int)
  | 0, _, _, _, _, _, _, _, _ => none
  | k + 1, x5, x17, x18, x19, x248000, x248001, x248002, x248003 => if x19 < x18 then (if 0 ≤ x19 then (if x19 < (x17.length : Int) then (if ((rd_T71 x17 x19).f0) < 0 then (series_Slope.j1 k x5 (wrap64 (-((rd_T71 x17 x19).f0))) ((rd_T71 x17 x19).f2) x17 x18 x19 x248000 x248001 x248002 x248003) else (series_Slope.j1 k x5 ((rd_T71 x17 x19).f0) ((rd_T71 x17 x19).f2) x17 x18 x19 x248000 x248001 x248002 x248003)) else (none)) else (none)) else ((interval_Floor.f x248001 1000000).bind fun t250 => ((interval_Ceil.f x248001 1000000).bind fun t251 => (some (wrap64 (t250 - x5), wrap64 (t251 + x5), 0))))
def series_Slope.j1 : Nat → Int → Int → Int → List (S71) → Int → Int → Int → Int → List (S71) → Int → Option (Int × Int × Int)
  | 0, _, _, _, _, _, _, _, _, _, _ => none
  | k + 1, x5, x8, x9, x17, x18, x19, x248000, x248001, x248002, x248003 => if x9 < 0 then ((interval_Ceil.f (wrap64 (-x9)) 1000000).bind fun t254 => ((interval_Ceil.f (wrap64 (x8 * t254)) 1000000000).bind fun t255 => ((interval_Ceil.f (wrap64 (t255 * 44)) 7).bind fun t256 => (series_Slope.l0 k (wrap64 (x5 + t256)) x17 x18 (wrap64 (x19 + 1)) x248000 x248001 x248002 x248003)))) else ((interval_Ceil.f x9 1000000).bind fun t257 => ((interval_Ceil.f (wrap64 (x8 * t257)) 1000000000).bind fun t258 => ((interval_Ceil.f (wrap64 (t258 * 44)) 7).bind fun t259 => (series_Slope.l0 k (wrap64 (x5 + t259)) x17 x18 (wrap64 (x19 + 1)) x248000 x248001 x248002 x248003))))
end
def series_Slope.f (k : Nat) (a0_0 : Int) (a0_1 : Int) (l0_2 : List (S71)) (a0_3 : Int) : Option (Int × Int × Int) := (series_Check.f k a0_0 a0_1 l0_2 a0_3).bind fun t249 => (if t249 = 0 then (series_Slope.l0 k 0 l0_2 (l0_2.length : Int) 0 a0_0 a0_1 l0_2 a0_3) else (some (0, 0, t249)))
theorem series_Slope.mono_l : ∀ k, (∀ y0 y1 y2 y3 y4 y5 y6 y7, LeO (series_Slope.l0 k y0 y1 y2 y3 y4 y5 y6 y7) (series_Slope.l0 (k + 1) y0 y1 y2 y3 y4 y5 y6 y7)) ∧ (∀ y0 y1 y2 y3 y4 y5 y6 y7 y8 y9, LeO (series_Slope.j1 k y0 y1 y2 y3 y4 y5 y6 y7 y8 y9) (series_Slope.j1 (k + 1) y0 y1 y2 y3 y4 y5 y6 y7 y8 y9))
  | 0 => ⟨fun _ _ _ _ _ _ _ _ r h => by simp [series_Slope.l0] at h, fun _ _ _ _ _ _ _ _ _ _ r h => by simp [series_Slope.j1] at h⟩
  | k + 1 => by
    obtain ⟨ih0, ih1⟩ := series_Slope.mono_l k
    refine ⟨?_, ?_⟩
    · intro y0 y1 y2 y3 y4 y5 y6 y7
      unfold series_Slope.l0
      repeat' first
      | (with_reducible exact ih0 _ _ _ _ _ _ _ _)
      | (with_reducible exact ih1 _ _ _ _ _ _ _ _ _ _)
      | (with_reducible exact series_Check.mono _ _ _ _ _)
      | (with_reducible exact LeO.refl _)
      | (with_reducible exact LeO.none _)
      | (with_reducible refine LeO.ite ?_ ?_)
      | (with_reducible refine LeO.bind ?_ (fun _ => ?_))
      | exact ih0 _ _ _ _ _ _ _ _
      | exact ih1 _ _ _ _ _ _ _ _ _ _
      | exact series_Check.mono _ _ _ _ _
      | exact LeO.none _
      | refine LeO.ite ?_ ?_
      | refine LeO.bind ?_ (fun _ => ?_)
    · intro y0 y1 y2 y3 y4 y5 y6 y7 y8 y9
      unfold series_Slope.j1
      repeat' first
      | (with_reducible exact ih0 _ _ _ _ _ _ _ _)
      | (with_reducible exact ih1 _ _ _ _ _ _ _ _ _ _)
      | (with_reducible exact series_Check.mono _ _ _ _ _)
      | (with_reducible exact LeO.refl _)
      | (with_reducible exact LeO.none _)
      | (with_reducible refine LeO.ite ?_ ?_)
      | (with_reducible refine LeO.bind ?_ (fun _ => ?_))
      | exact ih0 _ _ _ _ _ _ _ _
      | exact ih1 _ _ _ _ _ _ _ _ _ _
      | exact series_Check.mono _ _ _ _ _
      | exact LeO.none _
      | refine LeO.ite ?_ ?_
      | refine LeO.bind ?_ (fun _ => ?_)
theorem series_Slope.mono : ∀ a0 a1 a2 a3 k, LeO (series_Slope.f k a0 a1 a2 a3) (series_Slope.f (k + 1) a0 a1 a2 a3) := by
  intro a0 a1 a2 a3 k
  obtain ⟨ih0, ih1⟩ := series_Slope.mono_l k
  unfold series_Slope.f
  repeat' first
      | (with_reducible exact ih0 _ _ _ _ _ _ _ _)
      | (with_reducible exact ih1 _ _ _ _ _ _ _ _ _ _)
      | (with_reducible exact series_Check.mono _ _ _ _ _)
      | (with_reducible exact LeO.refl _)
      | (with_reducible exact LeO.none _)
      | (with_reducible refine LeO.ite ?_ ?_)
      | (with_reducible refine LeO.bind ?_ (fun _ => ?_))
      | exact ih0 _ _ _ _ _ _ _ _
      | exact ih1 _ _ _ _ _ _ _ _ _ _
      | exact series_Check.mono _ _ _ _ _
      | exact LeO.none _
      | refine LeO.ite ?_ ?_
      | refine LeO.bind ?_ (fun _ => ?_)
def series_Slope.T15 : Bool × List (List Nat × List Nat) := (true, [([], []), ([0], [0]), ([1], [1]), ([], []), ([2, 3], [2, 3]), ([], []), ([5], [5]), ([6, 2], [6]), ([], []), ([7, 8], [7, 8]), ([4, 9], [4, 9]), ([10, 7, 0, 1, 2, 3, 4, 5, 6, 7, 8, 9, 10], [10]), ([11, 0, 1, 2, 3, 4, 5, 6, 7, 8, 9, 10, 11], [])])
def series_Slope.B15 : List Nat := [0, 1, 3, 0, 15, 0, 32, 103, 0, 487, 1023, 2047, 4095]
theorem series_Slope.tab15 : rtab .any (opsOf Try.f48 15) = series_Slope.T15 := by kernel_rfl
theorem series_Slope.bits15 : waitsOk series_Slope.T15.2 series_Slope.B15 = true := by kernel_rfl
set_option maxHeartbeats 8000000 in
theorem series_Slope.calls (k : Nat) (a0_0 : Int) (a0_1 : Int) (A0_2 : Option Addr) (c0_2 : Nat) (l0_2 : List (S71)) (a0_3 : Int) (r1 : Int) (r2 : Int) (r3 : Int) (w : World) (hr0_2 : Kd.C k71 w A0_2 l0_2.length l0_2) (hc0_2 : l0_2.length ≤ c0_2) (h : series_Slope.f k a0_0 a0_1 l0_2 a0_3 = some (r1, r2, r3)) :
    Calls Try.prog 48 #[.agg #[.int .i64 a0_0, .int .i64 a0_1, .slice A0_2 l0_2.length c0_2, .int .i64 a0_3]] w fun e w' => e = .returned (.tuple #[.agg #[.int .i64 r1, .int .i64 r2], .int .i64 r3]) ∧ Below w.heap.size w w' := by
  have hu57 := Try.underlying57
  have hu24 := Try.underlying24
  have hu71 := Try.underlying71
  have HR0_2 := Aside0.mk hr0_2
  have HC0_2 := Aside0.mk hc0_2
  clear hr0_2 hc0_2
  have HB := Aside0.mk (Below.refl w.heap.size w)
  have H : ((series_Check.f k a0_0 a0_1 l0_2 a0_3).bind fun t249 => (if t249 = 0 then (series_Slope.l0 k 0 l0_2 (l0_2.length : Int) 0 a0_0 a0_1 l0_2 a0_3) else (some (0, 0, t249)))) = some (r1, r2, r3) := h
  clear h
  replace H := Option.bind_eq_some_iff.mp H
  obtain ⟨t249, A20, H⟩ := H
  replace H : (if t249 = 0 then (series_Slope.l0 k 0 l0_2 (l0_2.length : Int) 0 a0_0 a0_1 l0_2 a0_3) else (some (0, 0, t249))) = some (r1, r2, r3) := H
  have A2 := Aside0.mk A20
  clear A20
  by_cases c3 : t249 = 0
  · rw [if_pos c3] at H
    have c3b0 : (t249 == 0) = true := beq_iff_eq.mpr c3
    have c3b1 : (t249 != 0) = false := bne_eq_false_iff_eq.mpr c3
    clear c3
    have H' := Aside0.mk H
    clear H
    go_enter Try.func48, Try.ntmps48
    go_wp2_with (first | ((with_reducible refine gate_dst (N := 1) rfl ?_); refine box_event ?hg (N := 1) ?hd (cs := #[.int .i64 a0_0, .int .i64 a0_1, .slice A0_2 l0_2.length c0_2, .int .i64 a0_3]) (t := 57) ?hr ?_; (case hd => rfl); (case hg => rfl); (case hr => first | (go_simp; done) | (go_simp; rfl)); intro gb247 hg w4 hbox hb; have n0_ := Aside0.mk (below_step (by repeat (first | (with_reducible first | exact HB.out | apply below_alloc | apply pw_below_drewN | apply below_drew1) | exact HB.out)) hb); have n1_ := Aside0.mk (hbox); have n2_ := Aside0.mk ((by rw [hg]; exact (below_size (by repeat (first | (with_reducible first | exact HB.out | apply below_alloc | apply pw_below_drewN | apply below_drew1) | exact HB.out))) : w.heap.size ≤ gb247)); have n3_ := Aside0.mk ((by rw [hg]; exact (below_size (by repeat (first | (with_reducible first | exact HB.out | apply below_alloc | apply pw_below_drewN | apply below_drew1) | exact HB.out))) : w.heap.size ≤ gb247)); clear HB; have HB := n0_; have BK247 := n1_; have GW247 := n2_; have GE247 := n3_; clear n0_ n1_ n2_ n3_; clear hb hbox hg) | ((with_reducible refine gate_dst (N := 2) rfl ?_); refine box_event ?hg (N := 2) ?hd (cs := #[.int .i64 0, .int .i64 0]) (t := 24) ?hr ?_; (case hd => rfl); (case hg => rfl); (case hr => first | (go_simp; done) | (go_simp; rfl)); intro gb248 hg w5 hbox hb; have n0_ := Aside0.mk (blk_below (g := gb247) (o := .cells #[.int .i64 a0_0, .int .i64 a0_1, .slice A0_2 l0_2.length c0_2, .int .i64 a0_3] 57 (0, 0)) (by (with_reducible repeat (first | refine blk_drewN ?_ _ | refine blk_drew ?_ | refine blk_alloc ?_ _)); exact BK247.out) hb); have n1_ := Aside0.mk (below_step (by repeat (first | (with_reducible first | exact HB.out | apply below_alloc | apply pw_below_drewN | apply below_drew1 | refine below_set ?_ GE247.out) | exact HB.out)) hb); have n2_ := Aside0.mk (hbox); have n3_ := Aside0.mk ((by rw [hg]; exact (below_size (by repeat (first | (with_reducible first | exact HB.out | apply below_alloc | apply pw_below_drewN | apply below_drew1 | refine below_set ?_ GE247.out) | exact HB.out))) : w.heap.size ≤ gb248)); have n4_ := Aside0.mk ((by rw [hg]; exact (below_size (by repeat (first | (with_reducible first | exact HB.out | apply below_alloc | apply pw_below_drewN | apply below_drew1 | refine below_set ?_ GE247.out) | exact HB.out))) : w.heap.size ≤ gb248)); have n5_ := Aside0.mk ((by rw [hg]; exact Nat.ne_of_lt (blk_lt (g := gb247) (o := .cells #[.int .i64 a0_0, .int .i64 a0_1, .slice A0_2 l0_2.length c0_2, .int .i64 a0_3] 57 (0, 0)) (by (with_reducible repeat (first | refine blk_drewN ?_ _ | refine blk_drew ?_ | refine blk_alloc ?_ _)); exact BK247.out)) : gb247 ≠ gb248)); have n6_ := Aside0.mk ((by rw [hg]; exact Nat.ne_of_gt (blk_lt (g := gb247) (o := .cells #[.int .i64 a0_0, .int .i64 a0_1, .slice A0_2 l0_2.length c0_2, .int .i64 a0_3] 57 (0, 0)) (by (with_reducible repeat (first | refine blk_drewN ?_ _ | refine blk_drew ?_ | refine blk_alloc ?_ _)); exact BK247.out)) : gb248 ≠ gb247)); clear BK247; clear HB; have BK247 := n0_; have HB := n1_; have BK248 := n2_; have GW248 := n3_; have GE248 := n4_; have NB247_248 := n5_; have NB248_247 := n6_; clear n0_ n1_ n2_ n3_ n4_ n5_ n6_; clear hb hbox hg; have hnb6 := NB247_248.out; have hnc6 := NB248_247.out; have hcz7_0 : w5.cell? ⟨gb247, 0, none⟩ = some (.int .i64 a0_0) := (blk_cell BK247.out 0).trans rfl; have hcz7_1 : w5.cell? ⟨gb247, 1, none⟩ = some (.int .i64 a0_1) := (blk_cell BK247.out 1).trans rfl; have hcz7_2 : w5.cell? ⟨gb247, 2, none⟩ = some (.slice A0_2 l0_2.length c0_2) := (blk_cell BK247.out 2).trans rfl; have hcz7_3 : w5.cell? ⟨gb247, 3, none⟩ = some (.int .i64 a0_3) := (blk_cell BK247.out 3).trans rfl; have hfz7_0 := blk_frozen BK247.out 0; have hfz7_1 := blk_frozen BK247.out 1; have hfz7_2 := blk_frozen BK247.out 2; have hfz7_3 := blk_frozen BK247.out 3) | ((with_reducible refine gate_callee (f := 70) rfl ?_); refine goesL_ (some 11) rfl rfl Try.func70 (by kernel_rfl) rfl #[.agg #[.int .i64 a0_0, .int .i64 a0_1, .slice A0_2 l0_2.length c0_2, .int .i64 a0_3]] rfl (by (try simp only [List.map_toArray, List.map_cons, List.map_nil]); first | done | rfl | (simp only [List.length_drop, List.length_take]; rfl)) ?_; (with_reducible refine (series_Check.calls k a0_0 a0_1 _ _ l0_2 a0_3 t249 _ ?side1 ?side2 A2.out).mono ?_); (case side1 => repeat (first | exact (Kd.C_below HR0_2.out HB.out) | (with_reducible refine Kd.C_alloc ?_ _) | (with_reducible refine Kd.C_drewN ?_ _) | (with_reducible refine Kd.C_drew ?_))); (case side2 => exact HC0_2.out); rintro e w8 ⟨rfl, hb⟩; refine ⟨_, rfl, ?_⟩; have n0_ := Aside0.mk (blk_below (g := gb247) (o := .cells #[.int .i64 a0_0, .int .i64 a0_1, .slice A0_2 l0_2.length c0_2, .int .i64 a0_3] 57 (0, 0)) (by (with_reducible repeat (first | refine blk_drewN ?_ _ | refine blk_drew ?_ | refine blk_alloc ?_ _)); exact BK247.out) hb); have n1_ := Aside0.mk (blk_below (g := gb248) (o := .cells #[.int .i64 0, .int .i64 0] 24 (0, 0)) (by (with_reducible repeat (first | refine blk_drewN ?_ _ | refine blk_drew ?_ | refine blk_alloc ?_ _)); exact BK248.out) hb); have n2_ := Aside0.mk (below_step (by repeat (first | (with_reducible first | exact HB.out | apply below_alloc | apply pw_below_drewN | apply below_drew1 | refine below_set ?_ GE247.out | refine below_set ?_ GE248.out) | exact HB.out)) hb); clear BK247; clear BK248; clear HB; have BK247 := n0_; have BK248 := n1_; have HB := n2_; clear n0_ n1_ n2_; (try clear hb); (try clear hb2); (try clear hk); (try clear hi); have hcz9_0 : w8.cell? ⟨gb247, 0, none⟩ = some (.int .i64 a0_0) := (blk_cell BK247.out 0).trans rfl; have hcz9_1 : w8.cell? ⟨gb247, 1, none⟩ = some (.int .i64 a0_1) := (blk_cell BK247.out 1).trans rfl; have hcz9_2 : w8.cell? ⟨gb247, 2, none⟩ = some (.slice A0_2 l0_2.length c0_2) := (blk_cell BK247.out 2).trans rfl; have hcz9_3 : w8.cell? ⟨gb247, 3, none⟩ = some (.int .i64 a0_3) := (blk_cell BK247.out 3).trans rfl; have hfz9_0 := blk_frozen BK247.out 0; have hfz9_1 := blk_frozen BK247.out 1; have hfz9_2 := blk_frozen BK247.out 2; have hfz9_3 := blk_frozen BK247.out 3))
    go_loopg [5, 19] k (fun kq v5 v19 w' => ∃ (x5_1 : Int) (x19_1 : Int), v5 = .int .i64 x5_1 ∧ v19 = .int .i64 x19_1 ∧ Aside0 (series_Slope.l0 kq x5_1 l0_2 (l0_2.length : Int) x19_1 a0_0 a0_1 l0_2 a0_3 = some (r1, r2, r3)) ∧ Aside0 (kq ≤ k) ∧ Aside0 (w'.heap[gb247]? = some (.cells #[.int .i64 a0_0, .int .i64 a0_1, (.slice A0_2 l0_2.length c0_2), .int .i64 a0_3] 57 (0, 0))) ∧ Aside0 (w'.heap[gb248]? = some (.cells #[.int .i64 0, .int .i64 0] 24 (0, 0))) ∧ Aside0 (Below w.heap.size w w'))
    case atStart => exact ⟨(0), (0), (by first | rfl | (simp; done) | (simp [*]; done)), (by first | rfl | (simp; done) | (simp [*]; done)), H', ⟨Nat.le_refl _⟩, ⟨by (with_reducible repeat (first | refine blk_drewN ?_ _ | refine blk_drew ?_ | refine blk_alloc ?_ _)); exact BK247.out⟩, ⟨by (with_reducible repeat (first | refine blk_drewN ?_ _ | refine blk_drew ?_ | refine blk_alloc ?_ _)); exact BK248.out⟩, ⟨by repeat (first | (with_reducible first | exact HB.out | apply below_alloc | apply pw_below_drewN | apply below_drew1 | refine below_set ?_ GE247.out | refine below_set ?_ GE248.out) | exact HB.out)⟩⟩
    case round =>
      clear H'
      try clear p2
      try clear c3
      try clear c3b0
      try clear c3b1
      try clear c4
      try clear c6
      try clear c7
      try clear hcz7_0
      try clear hcz7_1
      try clear hcz7_2
      try clear hcz7_3
      try clear hcz9_0
      try clear hcz9_1
      try clear hcz9_2
      try clear hcz9_3
      try clear hfz7_0
      try clear hfz7_1
      try clear hfz7_2
      try clear hfz7_3
      try clear hfz9_0
      try clear hfz9_1
      try clear hfz9_2
      try clear hfz9_3
      obtain ⟨x5_1, x19_1, rfl, rfl, HA, HK1, BK247, BK248, HB⟩ := hrel
      cases gk with
      | zero => exact absurd HA.out (by simp [series_Slope.l0])
      | succ k1 =>
        have H := HA.out
        clear HA
        simp only [series_Slope.l0] at H
        by_cases c10 : x19_1 < (l0_2.length : Int)
        · rw [if_pos c10] at H
          have c10b0 : decide (x19_1 < (l0_2.length : Int)) = true := decide_eq_true c10
          clear c10
          by_cases c11 : 0 ≤ x19_1
          · rw [if_pos c11] at H
            have c11b0 : decide (0 ≤ x19_1) = true := decide_eq_true c11
            clear c11
            by_cases c12 : x19_1 < (l0_2.length : Int)
            · rw [if_pos c12] at H
              have c12b0 : decide (x19_1 < (l0_2.length : Int)) = true := decide_eq_true c12
              clear c12
              have HC13 := Aside0.mk H
              clear H
              have p252 : 0 ≤ (x19_1 : Int) := of_decide_eq_true (by first | (with_reducible assumption) | assumption)
              have q252 : x19_1 < (l0_2.length : Int) := of_decide_eq_true (by first | (with_reducible assumption) | assumption)
              obtain ⟨ad252, e252, hx252_0, hx252_1, hx252_2⟩ := at_T71 HR0_2.out x19_1 p252 q252
              cases e252
              replace hx252_0 := (HB.out.cell (World.block_lt_of_cell? w _ hx252_0)).trans hx252_0
              replace hx252_1 := (HB.out.cell (World.block_lt_of_cell? w _ hx252_1)).trans hx252_1
              replace hx252_2 := (HB.out.cell (World.block_lt_of_cell? w _ hx252_2)).trans hx252_2
              replace p252 := eq_true p252
              replace q252 := eq_true q252
              try go_wp2_with (first | ((with_reducible refine gate_dst (N := 7) rfl ?_); refine box_event ?hg (N := 7) ?hd (cs := #[.int .i64 0, .int .i64 0, .int .i64 0]) (t := 71) ?hr ?_; (case hd => rfl); (case hg => rfl); (case hr => first | (go_simp; done) | (go_simp; rfl)); intro gb253 hg w14 hbox hb; have n0_ := Aside0.mk (blk_below (g := gb247) (o := .cells #[.int .i64 a0_0, .int .i64 a0_1, .slice (some ad252) l0_2.length c0_2, .int .i64 a0_3] 57 (0, 0)) (by (with_reducible repeat (first | refine blk_drewN ?_ _ | refine blk_drew ?_ | refine blk_alloc ?_ _)); exact BK247.out) hb); have n1_ := Aside0.mk (blk_below (g := gb248) (o := .cells #[.int .i64 0, .int .i64 0] 24 (0, 0)) (by (with_reducible repeat (first | refine blk_drewN ?_ _ | refine blk_drew ?_ | refine blk_alloc ?_ _)); exact BK248.out) hb); have n2_ := Aside0.mk (below_step (by repeat (first | (with_reducible first | exact HB.out | apply below_alloc | apply pw_below_drewN | apply below_drew1 | refine below_set ?_ GE247.out | refine below_set ?_ GE248.out) | exact HB.out)) hb); have n3_ := Aside0.mk (hbox); have n4_ := Aside0.mk ((by rw [hg]; exact (below_size (by repeat (first | (with_reducible first | exact HB.out | apply below_alloc | apply pw_below_drewN | apply below_drew1 | refine below_set ?_ GE247.out | refine below_set ?_ GE248.out) | exact HB.out))) : w.heap.size ≤ gb253)); have n5_ := Aside0.mk ((by rw [hg]; exact (below_size (by repeat (first | (with_reducible first | exact HB.out | apply below_alloc | apply pw_below_drewN | apply below_drew1 | refine below_set ?_ GE247.out | refine below_set ?_ GE248.out) | exact HB.out))) : w.heap.size ≤ gb253)); have n6_ := Aside0.mk ((by rw [hg]; exact Nat.ne_of_lt (blk_lt (g := gb247) (o := .cells #[.int .i64 a0_0, .int .i64 a0_1, .slice (some ad252) l0_2.length c0_2, .int .i64 a0_3] 57 (0, 0)) (by (with_reducible repeat (first | refine blk_drewN ?_ _ | refine blk_drew ?_ | refine blk_alloc ?_ _)); exact BK247.out)) : gb247 ≠ gb253)); have n7_ := Aside0.mk ((by rw [hg]; exact Nat.ne_of_gt (blk_lt (g := gb247) (o := .cells #[.int .i64 a0_0, .int .i64 a0_1, .slice (some ad252) l0_2.length c0_2, .int .i64 a0_3] 57 (0, 0)) (by (with_reducible repeat (first | refine blk_drewN ?_ _ | refine blk_drew ?_ | refine blk_alloc ?_ _)); exact BK247.out)) : gb253 ≠ gb247)); have n8_ := Aside0.mk ((by rw [hg]; exact Nat.ne_of_lt (blk_lt (g := gb248) (o := .cells #[.int .i64 0, .int .i64 0] 24 (0, 0)) (by (with_reducible repeat (first | refine blk_drewN ?_ _ | refine blk_drew ?_ | refine blk_alloc ?_ _)); exact BK248.out)) : gb248 ≠ gb253)); have n9_ := Aside0.mk ((by rw [hg]; exact Nat.ne_of_gt (blk_lt (g := gb248) (o := .cells #[.int .i64 0, .int .i64 0] 24 (0, 0)) (by (with_reducible repeat (first | refine blk_drewN ?_ _ | refine blk_drew ?_ | refine blk_alloc ?_ _)); exact BK248.out)) : gb253 ≠ gb248)); clear BK247; clear BK248; clear HB; have BK247 := n0_; have BK248 := n1_; have HB := n2_; have BK253 := n3_; have GW253 := n4_; have GE253 := n5_; have NB247_253 := n6_; have NB253_247 := n7_; have NB248_253 := n8_; have NB253_248 := n9_; clear n0_ n1_ n2_ n3_ n4_ n5_ n6_ n7_ n8_ n9_; clear hb hbox hg; have hnb15 := NB253_247.out; have hnc15 := NB247_253.out; have hnb16 := NB253_248.out; have hnc16 := NB248_253.out; have hcz17_0 : w14.cell? ⟨gb253, 0, none⟩ = some (.int .i64 0) := (blk_cell BK253.out 0).trans rfl; have hcz17_1 : w14.cell? ⟨gb253, 1, none⟩ = some (.int .i64 0) := (blk_cell BK253.out 1).trans rfl; have hcz17_2 : w14.cell? ⟨gb253, 2, none⟩ = some (.int .i64 0) := (blk_cell BK253.out 2).trans rfl; have hfz17_0 := blk_frozen BK253.out 0; have hfz17_1 := blk_frozen BK253.out 1; have hfz17_2 := blk_frozen BK253.out 2))
              have n0_ : Aside0 ((((w14.setCell ⟨gb253, 0, none⟩ (.int .i64 ((rd_T71 l0_2 x19_1).f0))).setCell ⟨gb253, 1, none⟩ (.int .i64 ((rd_T71 l0_2 x19_1).f1))).setCell ⟨gb253, 2, none⟩ (.int .i64 ((rd_T71 l0_2 x19_1).f2))).heap[gb247]? = some (.cells #[.int .i64 a0_0, .int .i64 a0_1, .slice (some ad252) l0_2.length c0_2, .int .i64 a0_3] 57 (0, 0))) := ⟨by (with_reducible repeat (first | refine blk_drewN ?_ _ | refine blk_drew ?_ | refine blk_alloc ?_ _)); refine blk_far ?_ NB247_253.out _; (with_reducible repeat (first | refine blk_drewN ?_ _ | refine blk_drew ?_ | refine blk_alloc ?_ _)); refine blk_far ?_ NB247_253.out _; (with_reducible repeat (first | refine blk_drewN ?_ _ | refine blk_drew ?_ | refine blk_alloc ?_ _)); refine blk_far ?_ NB247_253.out _; (with_reducible repeat (first | refine blk_drewN ?_ _ | refine blk_drew ?_ | refine blk_alloc ?_ _)); exact BK247.out⟩
              have n1_ : Aside0 ((((w14.setCell ⟨gb253, 0, none⟩ (.int .i64 ((rd_T71 l0_2 x19_1).f0))).setCell ⟨gb253, 1, none⟩ (.int .i64 ((rd_T71 l0_2 x19_1).f1))).setCell ⟨gb253, 2, none⟩ (.int .i64 ((rd_T71 l0_2 x19_1).f2))).heap[gb248]? = some (.cells #[.int .i64 0, .int .i64 0] 24 (0, 0))) := ⟨by (with_reducible repeat (first | refine blk_drewN ?_ _ | refine blk_drew ?_ | refine blk_alloc ?_ _)); refine blk_far ?_ NB248_253.out _; (with_reducible repeat (first | refine blk_drewN ?_ _ | refine blk_drew ?_ | refine blk_alloc ?_ _)); refine blk_far ?_ NB248_253.out _; (with_reducible repeat (first | refine blk_drewN ?_ _ | refine blk_drew ?_ | refine blk_alloc ?_ _)); refine blk_far ?_ NB248_253.out _; (with_reducible repeat (first | refine blk_drewN ?_ _ | refine blk_drew ?_ | refine blk_alloc ?_ _)); exact BK248.out⟩
              have n2_ : Aside0 ((((w14.setCell ⟨gb253, 0, none⟩ (.int .i64 ((rd_T71 l0_2 x19_1).f0))).setCell ⟨gb253, 1, none⟩ (.int .i64 ((rd_T71 l0_2 x19_1).f1))).setCell ⟨gb253, 2, none⟩ (.int .i64 ((rd_T71 l0_2 x19_1).f2))).heap[gb253]? = some (.cells #[.int .i64 ((rd_T71 l0_2 x19_1).f0), .int .i64 ((rd_T71 l0_2 x19_1).f1), .int .i64 ((rd_T71 l0_2 x19_1).f2)] 71 (0, 0))) := ⟨by (with_reducible repeat (first | refine blk_drewN ?_ _ | refine blk_drew ?_ | refine blk_alloc ?_ _)); refine blk_put (cs := #[.int .i64 ((rd_T71 l0_2 x19_1).f0), .int .i64 ((rd_T71 l0_2 x19_1).f1), .int .i64 0]) ?_ 2 _ rfl; (with_reducible repeat (first | refine blk_drewN ?_ _ | refine blk_drew ?_ | refine blk_alloc ?_ _)); refine blk_put (cs := #[.int .i64 ((rd_T71 l0_2 x19_1).f0), .int .i64 0, .int .i64 0]) ?_ 1 _ rfl; (with_reducible repeat (first | refine blk_drewN ?_ _ | refine blk_drew ?_ | refine blk_alloc ?_ _)); refine blk_put (cs := #[.int .i64 0, .int .i64 0, .int .i64 0]) ?_ 0 _ rfl; (with_reducible repeat (first | refine blk_drewN ?_ _ | refine blk_drew ?_ | refine blk_alloc ?_ _)); exact BK253.out⟩
              have n3_ : Aside0 (Below w.heap.size w (((w14.setCell ⟨gb253, 0, none⟩ (.int .i64 ((rd_T71 l0_2 x19_1).f0))).setCell ⟨gb253, 1, none⟩ (.int .i64 ((rd_T71 l0_2 x19_1).f1))).setCell ⟨gb253, 2, none⟩ (.int .i64 ((rd_T71 l0_2 x19_1).f2)))) := ⟨by repeat (first | (with_reducible first | exact HB.out | apply below_alloc | apply pw_below_drewN | apply below_drew1 | refine below_set ?_ GE247.out | refine below_set ?_ GE248.out | refine below_set ?_ GE253.out) | exact HB.out)⟩
              (try clear BK247)
              (try clear BK248)
              (try clear BK253)
              (try clear HB)
              generalize (((w14.setCell ⟨gb253, 0, none⟩ (.int .i64 ((rd_T71 l0_2 x19_1).f0))).setCell ⟨gb253, 1, none⟩ (.int .i64 ((rd_T71 l0_2 x19_1).f1))).setCell ⟨gb253, 2, none⟩ (.int .i64 ((rd_T71 l0_2 x19_1).f2))) = w18 at n0_ n1_ n2_ n3_ ⊢
              have BK247 := n0_
              have BK248 := n1_
              have BK253 := n2_
              have HB := n3_
              clear n0_ n1_ n2_ n3_
              have n0_ := Aside0.mk (blk_drew BK247.out)
              have n1_ := Aside0.mk (blk_drew BK248.out)
              have n2_ := Aside0.mk (blk_drew BK253.out)
              have n3_ := Aside0.mk (below_drew1 HB.out)
              clear BK247
              clear BK248
              clear BK253
              clear HB
              have BK247 := n0_
              have BK248 := n1_
              have BK253 := n2_
              have HB := n3_
              clear n0_ n1_ n2_ n3_
              refine start_ (n := 6) (S := fun w' => w'.cell? ⟨gb253, 0, none⟩ = some (.int .i64 ((rd_T71 l0_2 x19_1).f0)) ∧ w'.cell? ⟨gb253, 1, none⟩ = some (.int .i64 ((rd_T71 l0_2 x19_1).f1)) ∧ w'.cell? ⟨gb253, 2, none⟩ = some (.int .i64 ((rd_T71 l0_2 x19_1).f2))) (ds := []) #[false, false, false, false, false, false] (by kernel_rfl) rfl rfl ⟨(blk_cell BK253.out 0).trans rfl, (blk_cell BK253.out 1).trans rfl, (blk_cell BK253.out 2).trans rfl⟩ (fun hHeld => ?_)
              generalize w18.drew = w19 at BK247 BK248 BK253 HB hHeld ⊢
              refine pure_ (i := 0) (N := some 23) (v := ?_) (a' := ?_) #[true, false, false, false, false, false] rfl rfl (by kernel_rfl) (fun _ _ _ h => h) (Or.inl ⟨by rfl, ?_⟩) ?_ ?_
              rotate_left
              · intro w'
                go_simp
                with_reducible rfl
              rotate_left
              · simp only [Act.put, List.setIfInBounds_toArray, List.set_cons_zero, List.set_cons_succ, i64_w, i32_w]
                rfl
              refine pure_ (i := 2) (N := some 25) (v := ?_) (a' := ?_) #[true, false, true, false, false, false] rfl rfl (by kernel_rfl) (fun _ _ _ h => h) (Or.inl ⟨by rfl, ?_⟩) ?_ ?_
              rotate_left
              · intro w'
                go_simp
                with_reducible rfl
              rotate_left
              · simp only [Act.put, List.setIfInBounds_toArray, List.set_cons_zero, List.set_cons_succ, i64_w, i32_w]
                rfl
              refine take_ (i := 1) (N := some 24) (v := ?_) (a' := ?_) #[true, true, true, false, false, false] rfl rfl (by kernel_rfl) (fun _ _ _ h => h) (Or.inl ⟨by rfl, ?_⟩) hHeld ?_ ?_
              rotate_left
              · rintro w' ⟨s0, s1, s2⟩
                go_simp
                with_reducible rfl
              rotate_left
              · simp only [Act.put, List.setIfInBounds_toArray, List.set_cons_zero, List.set_cons_succ, i64_w, i32_w]
                rfl
              refine pure_ (i := 4) (N := some 8) (v := ?_) (a' := ?_) #[true, true, true, false, true, false] rfl rfl (by kernel_rfl) (fun _ _ _ h => h) (Or.inl ⟨by rfl, ?_⟩) ?_ ?_
              rotate_left
              · intro w'
                go_simp
                with_reducible rfl
              rotate_left
              · simp only [Act.put, List.setIfInBounds_toArray, List.set_cons_zero, List.set_cons_succ, i64_w, i32_w]
                rfl
              refine take_ (i := 3) (N := some 26) (v := ?_) (a' := ?_) #[true, true, true, true, true, false] rfl rfl (by kernel_rfl) (fun _ _ _ h => h) (Or.inl ⟨by rfl, ?_⟩) hHeld ?_ ?_
              rotate_left
              · rintro w' ⟨s0, s1, s2⟩
                go_simp
                with_reducible rfl
              rotate_left
              · simp only [Act.put, List.setIfInBounds_toArray, List.set_cons_zero, List.set_cons_succ, i64_w, i32_w]
                rfl
              refine pure_ (i := 5) (N := some 9) (v := ?_) (a' := ?_) #[true, true, true, true, true, true] rfl rfl (by kernel_rfl) (fun _ _ _ h => h) (Or.inl ⟨by rfl, ?_⟩) ?_ ?_
              rotate_left
              · intro w'
                go_simp
                with_reducible rfl
              rotate_left
              · simp only [Act.put, List.setIfInBounds_toArray, List.set_cons_zero, List.set_cons_succ, i64_w, i32_w]
                rfl
              refine done_ (by kernel_rfl) ?_
              go_upto_if 28 with (fail)
              go_cut [8] (fun v8 wc => ∃ (kq : Nat) (x8_12 : Int), v8 = .int .i64 x8_12 ∧ Aside0 (series_Slope.j1 kq x5_1 x8_12 ((rd_T71 l0_2 x19_1).f2) l0_2 (l0_2.length : Int) x19_1 a0_0 a0_1 l0_2 a0_3 = some (r1, r2, r3)) ∧ Aside0 (kq ≤ k1) ∧ Aside0 (wc.heap[gb247]? = some (.cells #[.int .i64 a0_0, .int .i64 a0_1, (.slice (some ad252) l0_2.length c0_2), .int .i64 a0_3] 57 (0, 0))) ∧ Aside0 (wc.heap[gb248]? = some (.cells #[.int .i64 0, .int .i64 0] 24 (0, 0))) ∧ Aside0 (wc.heap[gb253]? = some (.cells #[.int .i64 ((rd_T71 l0_2 x19_1).f0), .int .i64 ((rd_T71 l0_2 x19_1).f1), .int .i64 ((rd_T71 l0_2 x19_1).f2)] 71 (0, 0))) ∧ Aside0 (Below w.heap.size w wc))
              case first =>
                have H := HC13.out
                clear HC13
                by_cases c20 : ((rd_T71 l0_2 x19_1).f0) < 0
                · rw [if_pos c20] at H
                  have c20b0 : decide (((rd_T71 l0_2 x19_1).f0) < 0) = true := decide_eq_true c20
                  clear c20
                  (first | rw [c20b0] | (simp only [i64_w, i32_w]; rw [c20b0]) | skip)
                  have H' := Aside0.mk H
                  clear H
                  go_wp2
                  go_meet
                  case rel => exact ⟨_, (wrap64 (-((rd_T71 l0_2 x19_1).f0))), (by first | rfl | (simp; done) | (simp [*]; done)), H', ⟨by have := HK1.out; first | omega | exact Nat.le_refl _⟩, ⟨by (with_reducible repeat (first | refine blk_drewN ?_ _ | refine blk_drew ?_ | refine blk_alloc ?_ _)); exact BK247.out⟩, ⟨by (with_reducible repeat (first | refine blk_drewN ?_ _ | refine blk_drew ?_ | refine blk_alloc ?_ _)); exact BK248.out⟩, ⟨by (with_reducible repeat (first | refine blk_drewN ?_ _ | refine blk_drew ?_ | refine blk_alloc ?_ _)); exact BK253.out⟩, ⟨by repeat (first | (with_reducible first | exact HB.out | apply below_alloc | apply pw_below_drewN | apply below_drew1 | refine below_set ?_ GE247.out | refine below_set ?_ GE248.out | refine below_set ?_ GE253.out) | exact HB.out)⟩⟩
                · rw [if_neg c20] at H
                  have c20b0 : decide (((rd_T71 l0_2 x19_1).f0) < 0) = false := decide_eq_false c20
                  clear c20
                  (first | rw [c20b0] | (simp only [i64_w, i32_w]; rw [c20b0]) | skip)
                  have H' := Aside0.mk H
                  clear H
                  go_wp2
                  go_meet
                  case rel => exact ⟨_, ((rd_T71 l0_2 x19_1).f0), (by first | rfl | (simp; done) | (simp [*]; done)), H', ⟨by have := HK1.out; first | omega | exact Nat.le_refl _⟩, ⟨by (with_reducible repeat (first | refine blk_drewN ?_ _ | refine blk_drew ?_ | refine blk_alloc ?_ _)); exact BK247.out⟩, ⟨by (with_reducible repeat (first | refine blk_drewN ?_ _ | refine blk_drew ?_ | refine blk_alloc ?_ _)); exact BK248.out⟩, ⟨by (with_reducible repeat (first | refine blk_drewN ?_ _ | refine blk_drew ?_ | refine blk_alloc ?_ _)); exact BK253.out⟩, ⟨by repeat (first | (with_reducible first | exact HB.out | apply below_alloc | apply pw_below_drewN | apply below_drew1 | refine below_set ?_ GE247.out | refine below_set ?_ GE248.out | refine below_set ?_ GE253.out) | exact HB.out)⟩⟩
              case rest =>
                clear HC13
                try clear c1
                try clear c2
                try clear p2
                try clear q2
                try clear hx2
                try clear c3
                try clear c3b0
                try clear c3b1
                try clear c4
                try clear c6
                try clear p6
                try clear c7
                try clear c10
                try clear c10b0
                try clear c11
                try clear c11b0
                try clear c12
                try clear c12b0
                try clear c15
                try clear c16
                try clear c20
                try clear c20b0
                try clear hcz17_0
                try clear hcz17_1
                try clear hcz17_2
                try clear hcz7_0
                try clear hcz7_1
                try clear hcz7_2
                try clear hcz7_3
                try clear hcz9_0
                try clear hcz9_1
                try clear hcz9_2
                try clear hcz9_3
                try clear hfz17_0
                try clear hfz17_1
                try clear hfz17_2
                try clear hfz7_0
                try clear hfz7_1
                try clear hfz7_2
                try clear hfz7_3
                try clear hfz9_0
                try clear hfz9_1
                try clear hfz9_2
                try clear hfz9_3
                try clear hx252_0
                try clear hx252_1
                try clear hx252_2
                try clear p2
                try clear p252
                try clear q252
                obtain ⟨kq, x8_12, rfl, HA, HJ12, BK247, BK248, BK253, HB⟩ := hcut
                cases kq with
                | zero => exact absurd HA.out (by simp [series_Slope.j1])
                | succ kj12 =>
                  have H := HA.out
                  clear HA
                  simp only [series_Slope.j1] at H
                  by_cases c21 : ((rd_T71 l0_2 x19_1).f2) < 0
                  · rw [if_pos c21] at H
                    have c21b0 : decide (((rd_T71 l0_2 x19_1).f2) < 0) = true := decide_eq_true c21
                    clear c21
                    replace H := Option.bind_eq_some_iff.mp H
                    obtain ⟨t254, A220, H⟩ := H
                    replace H : ((interval_Ceil.f (wrap64 (x8_12 * t254)) 1000000000).bind fun t255 => ((interval_Ceil.f (wrap64 (t255 * 44)) 7).bind fun t256 => (series_Slope.l0 kj12 (wrap64 (x5_1 + t256)) l0_2 (l0_2.length : Int) (wrap64 (x19_1 + 1)) a0_0 a0_1 l0_2 a0_3))) = some (r1, r2, r3) := H
                    have A22 := Aside0.mk A220
                    clear A220
                    replace H := Option.bind_eq_some_iff.mp H
                    obtain ⟨t255, A230, H⟩ := H
                    replace H : ((interval_Ceil.f (wrap64 (t255 * 44)) 7).bind fun t256 => (series_Slope.l0 kj12 (wrap64 (x5_1 + t256)) l0_2 (l0_2.length : Int) (wrap64 (x19_1 + 1)) a0_0 a0_1 l0_2 a0_3)) = some (r1, r2, r3) := H
                    have A23 := Aside0.mk A230
                    clear A230
                    replace H := Option.bind_eq_some_iff.mp H
                    obtain ⟨t256, A240, H⟩ := H
                    replace H : (series_Slope.l0 kj12 (wrap64 (x5_1 + t256)) l0_2 (l0_2.length : Int) (wrap64 (x19_1 + 1)) a0_0 a0_1 l0_2 a0_3) = some (r1, r2, r3) := H
                    have A24 := Aside0.mk A240
                    clear A240
                    have H' := Aside0.mk H
                    clear H
                    go_wp2_with (first | ((with_reducible refine gate_callee (f := 50) rfl ?_); refine goesL_ (some 38) rfl rfl Try.func50 (by kernel_rfl) rfl #[.int .i64 (wrap64 (-((rd_T71 l0_2 x19_1).f2))), .int .i64 1000000] rfl (by (try simp only [List.map_toArray, List.map_cons, List.map_nil]); first | done | rfl | (simp only [List.length_drop, List.length_take]; rfl)) ?_; (with_reducible refine (interval_Ceil.calls (wrap64 (-((rd_T71 l0_2 x19_1).f2))) 1000000 t254 _ A22.out).mono ?_); rintro e w' ⟨rfl, ⟨nd, rfl⟩⟩; refine ⟨_, rfl, ?_⟩) | ((with_reducible refine gate_callee (f := 50) rfl ?_); refine goesL_ (some 40) rfl rfl Try.func50 (by kernel_rfl) rfl #[.int .i64 (wrap64 (x8_12 * t254)), .int .i64 1000000000] rfl (by (try simp only [List.map_toArray, List.map_cons, List.map_nil]); first | done | rfl | (simp only [List.length_drop, List.length_take]; rfl)) ?_; (with_reducible refine (interval_Ceil.calls (wrap64 (x8_12 * t254)) 1000000000 t255 _ A23.out).mono ?_); rintro e w' ⟨rfl, ⟨nd, rfl⟩⟩; refine ⟨_, rfl, ?_⟩) | ((with_reducible refine gate_callee (f := 50) rfl ?_); refine goesL_ (some 42) rfl rfl Try.func50 (by kernel_rfl) rfl #[.int .i64 (wrap64 (t255 * 44)), .int .i64 7] rfl (by (try simp only [List.map_toArray, List.map_cons, List.map_nil]); first | done | rfl | (simp only [List.length_drop, List.length_take]; rfl)) ?_; (with_reducible refine (interval_Ceil.calls (wrap64 (t255 * 44)) 7 t256 _ A24.out).mono ?_); rintro e w' ⟨rfl, ⟨nd, rfl⟩⟩; refine ⟨_, rfl, ?_⟩))
                    go_roundg kj12
                    case measure => have := HK1.out; have := HJ12.out; omega
                    case rel => exact ⟨(wrap64 (x5_1 + t256)), (wrap64 (x19_1 + 1)), (by first | rfl | (simp; done) | (simp [*]; done)), (by first | rfl | (simp; done) | (simp [*]; done)), H', ⟨by have := HK1.out; have := HJ12.out; omega⟩, ⟨by (with_reducible repeat (first | refine blk_drewN ?_ _ | refine blk_drew ?_ | refine blk_alloc ?_ _)); exact BK247.out⟩, ⟨by (with_reducible repeat (first | refine blk_drewN ?_ _ | refine blk_drew ?_ | refine blk_alloc ?_ _)); exact BK248.out⟩, ⟨by repeat (first | (with_reducible first | exact HB.out | apply below_alloc | apply pw_below_drewN | apply below_drew1 | refine below_set ?_ GE247.out | refine below_set ?_ GE248.out | refine below_set ?_ GE253.out) | exact HB.out)⟩⟩
                  · rw [if_neg c21] at H
                    have c21b0 : decide (((rd_T71 l0_2 x19_1).f2) < 0) = false := decide_eq_false c21
                    clear c21
                    replace H := Option.bind_eq_some_iff.mp H
                    obtain ⟨t257, A250, H⟩ := H
                    replace H : ((interval_Ceil.f (wrap64 (x8_12 * t257)) 1000000000).bind fun t258 => ((interval_Ceil.f (wrap64 (t258 * 44)) 7).bind fun t259 => (series_Slope.l0 kj12 (wrap64 (x5_1 + t259)) l0_2 (l0_2.length : Int) (wrap64 (x19_1 + 1)) a0_0 a0_1 l0_2 a0_3))) = some (r1, r2, r3) := H
                    have A25 := Aside0.mk A250
                    clear A250
                    replace H := Option.bind_eq_some_iff.mp H
                    obtain ⟨t258, A260, H⟩ := H
                    replace H : ((interval_Ceil.f (wrap64 (t258 * 44)) 7).bind fun t259 => (series_Slope.l0 kj12 (wrap64 (x5_1 + t259)) l0_2 (l0_2.length : Int) (wrap64 (x19_1 + 1)) a0_0 a0_1 l0_2 a0_3)) = some (r1, r2, r3) := H
                    have A26 := Aside0.mk A260
                    clear A260
                    replace H := Option.bind_eq_some_iff.mp H
                    obtain ⟨t259, A270, H⟩ := H
                    replace H : (series_Slope.l0 kj12 (wrap64 (x5_1 + t259)) l0_2 (l0_2.length : Int) (wrap64 (x19_1 + 1)) a0_0 a0_1 l0_2 a0_3) = some (r1, r2, r3) := H
                    have A27 := Aside0.mk A270
                    clear A270
                    have H' := Aside0.mk H
                    clear H
                    go_wp2_with (first | ((with_reducible refine gate_callee (f := 50) rfl ?_); refine goesL_ (some 38) rfl rfl Try.func50 (by kernel_rfl) rfl #[.int .i64 ((rd_T71 l0_2 x19_1).f2), .int .i64 1000000] rfl (by (try simp only [List.map_toArray, List.map_cons, List.map_nil]); first | done | rfl | (simp only [List.length_drop, List.length_take]; rfl)) ?_; (with_reducible refine (interval_Ceil.calls ((rd_T71 l0_2 x19_1).f2) 1000000 t257 _ A25.out).mono ?_); rintro e w' ⟨rfl, ⟨nd, rfl⟩⟩; refine ⟨_, rfl, ?_⟩) | ((with_reducible refine gate_callee (f := 50) rfl ?_); refine goesL_ (some 40) rfl rfl Try.func50 (by kernel_rfl) rfl #[.int .i64 (wrap64 (x8_12 * t257)), .int .i64 1000000000] rfl (by (try simp only [List.map_toArray, List.map_cons, List.map_nil]); first | done | rfl | (simp only [List.length_drop, List.length_take]; rfl)) ?_; (with_reducible refine (interval_Ceil.calls (wrap64 (x8_12 * t257)) 1000000000 t258 _ A26.out).mono ?_); rintro e w' ⟨rfl, ⟨nd, rfl⟩⟩; refine ⟨_, rfl, ?_⟩) | ((with_reducible refine gate_callee (f := 50) rfl ?_); refine goesL_ (some 42) rfl rfl Try.func50 (by kernel_rfl) rfl #[.int .i64 (wrap64 (t258 * 44)), .int .i64 7] rfl (by (try simp only [List.map_toArray, List.map_cons, List.map_nil]); first | done | rfl | (simp only [List.length_drop, List.length_take]; rfl)) ?_; (with_reducible refine (interval_Ceil.calls (wrap64 (t258 * 44)) 7 t259 _ A27.out).mono ?_); rintro e w' ⟨rfl, ⟨nd, rfl⟩⟩; refine ⟨_, rfl, ?_⟩))
                    go_roundg kj12
                    case measure => have := HK1.out; have := HJ12.out; omega
                    case rel => exact ⟨(wrap64 (x5_1 + t259)), (wrap64 (x19_1 + 1)), (by first | rfl | (simp; done) | (simp [*]; done)), (by first | rfl | (simp; done) | (simp [*]; done)), H', ⟨by have := HK1.out; have := HJ12.out; omega⟩, ⟨by (with_reducible repeat (first | refine blk_drewN ?_ _ | refine blk_drew ?_ | refine blk_alloc ?_ _)); exact BK247.out⟩, ⟨by (with_reducible repeat (first | refine blk_drewN ?_ _ | refine blk_drew ?_ | refine blk_alloc ?_ _)); exact BK248.out⟩, ⟨by repeat (first | (with_reducible first | exact HB.out | apply below_alloc | apply pw_below_drewN | apply below_drew1 | refine below_set ?_ GE247.out | refine below_set ?_ GE248.out | refine below_set ?_ GE253.out) | exact HB.out)⟩⟩
            · rw [if_neg c12] at H
              exact absurd H (by simp)
          · rw [if_neg c11] at H
            exact absurd H (by simp)
        · rw [if_neg c10] at H
          have c10b0 : decide (x19_1 < (l0_2.length : Int)) = false := decide_eq_false c10
          clear c10
          replace H := Option.bind_eq_some_iff.mp H
          obtain ⟨t250, A280, H⟩ := H
          replace H : ((interval_Ceil.f a0_1 1000000).bind fun t251 => (some (wrap64 (t250 - x5_1), wrap64 (t251 + x5_1), 0))) = some (r1, r2, r3) := H
          have A28 := Aside0.mk A280
          clear A280
          replace H := Option.bind_eq_some_iff.mp H
          obtain ⟨t251, A290, H⟩ := H
          replace H : (some (wrap64 (t250 - x5_1), wrap64 (t251 + x5_1), 0)) = some (r1, r2, r3) := H
          have A29 := Aside0.mk A290
          clear A290
          simp only [Option.some.injEq, Prod.mk.injEq] at H
          obtain ⟨rfl, rfl, rfl⟩ := H
          try go_wp2
          have n0_ := Aside0.mk (blk_drew BK247.out)
          have n1_ := Aside0.mk (blk_drew BK248.out)
          have n2_ := Aside0.mk (below_drew1 HB.out)
          clear BK247
          clear BK248
          clear HB
          have BK247 := n0_
          have BK248 := n1_
          have HB := n2_
          clear n0_ n1_ n2_
          refine start_ (n := 13) (S := fun w' => w'.cell? ⟨gb247, 0, none⟩ = some (.int .i64 a0_0) ∧ w'.cell? ⟨gb247, 1, none⟩ = some (.int .i64 a0_1) ∧ w'.cell? ⟨gb247, 2, none⟩ = some (.slice A0_2 l0_2.length c0_2) ∧ w'.cell? ⟨gb247, 3, none⟩ = some (.int .i64 a0_3)) (ds := []) #[false, false, false, false, false, false, false, false, false, false, false, false, false] (by kernel_rfl) rfl rfl ⟨(blk_cell BK247.out 0).trans rfl, (blk_cell BK247.out 1).trans rfl, (blk_cell BK247.out 2).trans rfl, (blk_cell BK247.out 3).trans rfl⟩ (fun hHeld => ?_); refine with_tabW series_Slope.tab15 series_Slope.bits15 (fun HT_ HW_ => ?_)
          generalize wr.drew = w30 at BK247 BK248 HB hHeld ⊢
          refine pure_ (i := 0) (N := some 45) (v := ?_) (a' := ?_) #[true, false, false, false, false, false, false, false, false, false, false, false, false] rfl rfl (any_of HT_.out (by kernel_rfl)) (fun _ _ _ h => h) (Or.inl ⟨by rfl, ?_⟩) ?_ ?_
          rotate_left
          · intro w'
            go_simp
            with_reducible rfl
          rotate_left
          · simp only [Act.put, List.setIfInBounds_toArray, List.set_cons_zero, List.set_cons_succ, i64_w, i32_w]
            rfl
          refine pure_ (i := 3) (N := some 48) (v := ?_) (a' := ?_) #[true, false, false, true, false, false, false, false, false, false, false, false, false] rfl rfl (any_of HT_.out (by kernel_rfl)) (fun _ _ _ h => h) (Or.inl ⟨by rfl, ?_⟩) ?_ ?_
          rotate_left
          · intro w'
            go_simp
            with_reducible rfl
          rotate_left
          · simp only [Act.put, List.setIfInBounds_toArray, List.set_cons_zero, List.set_cons_succ, i64_w, i32_w]
            rfl
          refine pure_ (i := 5) (N := some 50) (v := ?_) (a' := ?_) #[true, false, false, true, false, true, false, false, false, false, false, false, false] rfl rfl (any_of HT_.out (by kernel_rfl)) (fun _ _ _ h => h) (Or.inl ⟨by rfl, ?_⟩) ?_ ?_
          rotate_left
          · intro w'
            go_simp
            with_reducible rfl
          rotate_left
          · simp only [Act.put, List.setIfInBounds_toArray, List.set_cons_zero, List.set_cons_succ, i64_w, i32_w]
            rfl
          refine pure_ (i := 8) (N := some 53) (v := ?_) (a' := ?_) #[true, false, false, true, false, true, false, false, true, false, false, false, false] rfl rfl (any_of HT_.out (by kernel_rfl)) (fun _ _ _ h => h) (Or.inl ⟨by rfl, ?_⟩) ?_ ?_
          rotate_left
          · intro w'
            go_simp
            with_reducible rfl
          rotate_left
          · simp only [Act.put, List.setIfInBounds_toArray, List.set_cons_zero, List.set_cons_succ, i64_w, i32_w]
            rfl
          refine take_ (i := 1) (N := some 46) (v := ?_) (a' := ?_) #[true, true, false, true, false, true, false, false, true, false, false, false, false] rfl rfl (take_ofW HT_.out HW_.out (by kernel_rfl)) (fun _ _ _ h => h) (Or.inl ⟨by rfl, ?_⟩) hHeld ?_ ?_
          rotate_left
          · rintro w' ⟨s0, s1, s2, s3⟩
            go_simp
            with_reducible rfl
          rotate_left
          · simp only [Act.put, List.setIfInBounds_toArray, List.set_cons_zero, List.set_cons_succ, i64_w, i32_w]
            rfl
          refine take_ (i := 6) (N := some 51) (v := ?_) (a' := ?_) #[true, true, false, true, false, true, true, false, true, false, false, false, false] rfl rfl (take_ofW HT_.out HW_.out (by kernel_rfl)) (fun _ _ _ h => h) (Or.inl ⟨by rfl, ?_⟩) hHeld ?_ ?_
          rotate_left
          · rintro w' ⟨s0, s1, s2, s3⟩
            go_simp
            with_reducible rfl
          rotate_left
          · simp only [Act.put, List.setIfInBounds_toArray, List.set_cons_zero, List.set_cons_succ, i64_w, i32_w]
            rfl
          refine one_ (i := 2) (N := some 47) #[true, true, true, true, false, true, true, false, true, false, false, false, false] rfl rfl (one_of HT_.out (by kernel_rfl)) (by decide) (fun K hK => ?_)
          refine goes_ Try.func57 (by kernel_rfl) rfl #[.int .i64 a0_1, .int .i64 1000000] (by rfl) rfl rfl (by (try simp only [List.map_toArray, List.map_cons, List.map_nil]); first | done | rfl | (simp only [List.length_drop, List.length_take]; rfl)) ?_
          with_reducible refine (interval_Floor.calls a0_1 1000000 t250 _ A28.out).mono ?_
          rintro e w' ⟨rfl, ⟨nd, rfl⟩⟩
          refine ⟨_, rfl, ?_⟩
          refine hK.out _ _ ⟨(blk_cell BK247.out 0).trans rfl, (blk_cell BK247.out 1).trans rfl, (blk_cell BK247.out 2).trans rfl, (blk_cell BK247.out 3).trans rfl⟩ (fun hHeld => ?_)
          clear hK K
          refine norm_ (a' := ?_) ?_ ?_
          rotate_left
          · show Act.put _ (some 47) _ = _
            simp only [Act.put, List.setIfInBounds_toArray, List.set_cons_zero, List.set_cons_succ, i64_w, i32_w]
            rfl
          refine pure_ (i := 4) (N := some 49) (v := ?_) (a' := ?_) #[true, true, true, true, true, true, true, false, true, false, false, false, false] rfl rfl (any_of HT_.out (by kernel_rfl)) (fun _ _ _ h => h) (Or.inl ⟨by rfl, ?_⟩) ?_ ?_
          rotate_left
          · intro w'
            go_simp
            with_reducible rfl
          rotate_left
          · simp only [Act.put, List.setIfInBounds_toArray, List.set_cons_zero, List.set_cons_succ, i64_w, i32_w]
            rfl
          refine one_ (i := 7) (N := some 52) #[true, true, true, true, true, true, true, true, true, false, false, false, false] rfl rfl (one_of HT_.out (by kernel_rfl)) (by decide) (fun K hK => ?_)
          refine goes_ Try.func50 (by kernel_rfl) rfl #[.int .i64 a0_1, .int .i64 1000000] (by rfl) rfl rfl (by (try simp only [List.map_toArray, List.map_cons, List.map_nil]); first | done | rfl | (simp only [List.length_drop, List.length_take]; rfl)) ?_
          with_reducible refine (interval_Ceil.calls a0_1 1000000 t251 _ A29.out).mono ?_
          rintro e w' ⟨rfl, ⟨nd, rfl⟩⟩
          refine ⟨_, rfl, ?_⟩
          refine hK.out _ _ ⟨(blk_cell BK247.out 0).trans rfl, (blk_cell BK247.out 1).trans rfl, (blk_cell BK247.out 2).trans rfl, (blk_cell BK247.out 3).trans rfl⟩ (fun hHeld => ?_)
          clear hK K
          refine norm_ (a' := ?_) ?_ ?_
          rotate_left
          · show Act.put _ (some 52) _ = _
            simp only [Act.put, List.setIfInBounds_toArray, List.set_cons_zero, List.set_cons_succ, i64_w, i32_w]
            rfl
          refine pure_ (i := 9) (N := some 54) (v := ?_) (a' := ?_) #[true, true, true, true, true, true, true, true, true, true, false, false, false] rfl rfl (any_of HT_.out (by kernel_rfl)) (fun _ _ _ h => h) (Or.inl ⟨by rfl, ?_⟩) ?_ ?_
          rotate_left
          · intro w'
            go_simp
            with_reducible rfl
          rotate_left
          · simp only [Act.put, List.setIfInBounds_toArray, List.set_cons_zero, List.set_cons_succ, i64_w, i32_w]
            rfl
          refine pure_ (i := 10) (N := some 55) (v := ?_) (a' := ?_) #[true, true, true, true, true, true, true, true, true, true, true, false, false] rfl rfl (any_of HT_.out (by kernel_rfl)) (fun _ _ _ h => h) (Or.inl ⟨by rfl, ?_⟩) ?_ ?_
          rotate_left
          · intro w'
            go_simp
            with_reducible rfl
          rotate_left
          · simp only [Act.put, List.setIfInBounds_toArray, List.set_cons_zero, List.set_cons_succ, i64_w, i32_w]
            rfl
          refine one_ (i := 11) (N := none) #[true, true, true, true, true, true, true, true, true, true, true, true, false] rfl rfl (one_of HT_.out (by kernel_rfl)) (by decide) (fun K hK => ?_)
          have hs31 : w30.cell? ⟨gb248, 0, none⟩ = some (.int .i64 0) := (blk_cell BK248.out 0).trans rfl
          have hfs31 := blk_frozen BK248.out 0
          have hns31_0 := NB247_248.out
          have hms31_0 := NB248_247.out
          have hs32 : w30.cell? ⟨gb248, 1, none⟩ = some (.int .i64 0) := (blk_cell BK248.out 1).trans rfl
          have hfs32 := blk_frozen BK248.out 1
          have hns32_0 := NB247_248.out
          have hms32_0 := NB248_247.out
          refine skip_ (w1 := ?_) (by rfl) rfl ?_ ?_
          rotate_left
          · go_simp
            rfl
          refine hK.out _ _ ⟨((cell_far (p := ⟨gb248, _, none⟩) NB247_248.out _).trans (((cell_far (p := ⟨gb248, _, none⟩) NB247_248.out _).trans (hHeld.1)))), ((cell_far (p := ⟨gb248, _, none⟩) NB247_248.out _).trans (((cell_far (p := ⟨gb248, _, none⟩) NB247_248.out _).trans (hHeld.2.1)))), ((cell_far (p := ⟨gb248, _, none⟩) NB247_248.out _).trans (((cell_far (p := ⟨gb248, _, none⟩) NB247_248.out _).trans (hHeld.2.2.1)))), ((cell_far (p := ⟨gb248, _, none⟩) NB247_248.out _).trans (((cell_far (p := ⟨gb248, _, none⟩) NB247_248.out _).trans (hHeld.2.2.2))))⟩ (fun hHeld => ?_)
          clear hK K
          refine pure_ (i := 12) (N := some 3) (v := ?_) (a' := ?_) #[true, true, true, true, true, true, true, true, true, true, true, true, true] rfl rfl (any_of HT_.out (by kernel_rfl)) (fun _ _ _ h => h) (Or.inl ⟨by rfl, ?_⟩) ?_ ?_
          rotate_left
          · intro w'
            go_simp
            with_reducible rfl
          rotate_left
          · simp only [Act.put, List.setIfInBounds_toArray, List.set_cons_zero, List.set_cons_succ, i64_w, i32_w]
            rfl
          refine done_ (done_of HT_.out (by kernel_rfl)) ?_
          try go_wp2
          refine bodyPost_ret (results_ct rfl _ _ gb248 24 #[.int .i64 (wrap64 (t250 - x5_1)), .int .i64 (wrap64 (t251 + x5_1))] (0, 0) _ rfl (by (with_reducible repeat (first | refine blk_drewN ?_ _ | refine blk_drew ?_ | refine blk_alloc ?_ _)); refine blk_put (cs := #[.int .i64 (wrap64 (t250 - x5_1)), .int .i64 0]) ?_ 1 _ rfl; (with_reducible repeat (first | refine blk_drewN ?_ _ | refine blk_drew ?_ | refine blk_alloc ?_ _)); refine blk_put (cs := #[.int .i64 0, .int .i64 0]) ?_ 0 _ rfl; (with_reducible repeat (first | refine blk_drewN ?_ _ | refine blk_drew ?_ | refine blk_alloc ?_ _)); exact BK248.out) Try.underlying24 rfl (by kernel_rfl)) rfl ?_
          exact ⟨by first | rfl | (simp [errW_none, errW_some] <;> rfl) | (simp [*, errW_none, errW_some] <;> rfl), by repeat (first | (with_reducible first | exact HB.out | apply below_alloc | apply pw_below_drewN | apply below_drew1 | refine below_set ?_ GE247.out | refine below_set ?_ GE248.out) | exact HB.out)⟩
  · rw [if_neg c3] at H
    have c3b0 : (t249 == 0) = false := beq_eq_false_iff_ne.mpr c3
    have c3b1 : (t249 != 0) = true := bne_iff_ne.mpr c3
    simp only [Option.some.injEq, Prod.mk.injEq] at H
    obtain ⟨rfl, rfl, rfl⟩ := H
    go_enter Try.func48, Try.ntmps48
    go_wp2_with (first | ((with_reducible refine gate_dst (N := 1) rfl ?_); refine box_event ?hg (N := 1) ?hd (cs := #[.int .i64 a0_0, .int .i64 a0_1, .slice A0_2 l0_2.length c0_2, .int .i64 a0_3]) (t := 57) ?hr ?_; (case hd => rfl); (case hg => rfl); (case hr => first | (go_simp; done) | (go_simp; rfl)); intro gb247 hg w33 hbox hb; have n0_ := Aside0.mk (below_step (by repeat (first | (with_reducible first | exact HB.out | apply below_alloc | apply pw_below_drewN | apply below_drew1) | exact HB.out)) hb); have n1_ := Aside0.mk (hbox); have n2_ := Aside0.mk ((by rw [hg]; exact (below_size (by repeat (first | (with_reducible first | exact HB.out | apply below_alloc | apply pw_below_drewN | apply below_drew1) | exact HB.out))) : w.heap.size ≤ gb247)); have n3_ := Aside0.mk ((by rw [hg]; exact (below_size (by repeat (first | (with_reducible first | exact HB.out | apply below_alloc | apply pw_below_drewN | apply below_drew1) | exact HB.out))) : w.heap.size ≤ gb247)); clear HB; have HB := n0_; have BK247 := n1_; have GW247 := n2_; have GE247 := n3_; clear n0_ n1_ n2_ n3_; clear hb hbox hg) | ((with_reducible refine gate_dst (N := 2) rfl ?_); refine box_event ?hg (N := 2) ?hd (cs := #[.int .i64 0, .int .i64 0]) (t := 24) ?hr ?_; (case hd => rfl); (case hg => rfl); (case hr => first | (go_simp; done) | (go_simp; rfl)); intro gb248 hg w34 hbox hb; have n0_ := Aside0.mk (blk_below (g := gb247) (o := .cells #[.int .i64 a0_0, .int .i64 a0_1, .slice A0_2 l0_2.length c0_2, .int .i64 a0_3] 57 (0, 0)) (by (with_reducible repeat (first | refine blk_drewN ?_ _ | refine blk_drew ?_ | refine blk_alloc ?_ _)); exact BK247.out) hb); have n1_ := Aside0.mk (below_step (by repeat (first | (with_reducible first | exact HB.out | apply below_alloc | apply pw_below_drewN | apply below_drew1 | refine below_set ?_ GE247.out) | exact HB.out)) hb); have n2_ := Aside0.mk (hbox); have n3_ := Aside0.mk ((by rw [hg]; exact (below_size (by repeat (first | (with_reducible first | exact HB.out | apply below_alloc | apply pw_below_drewN | apply below_drew1 | refine below_set ?_ GE247.out) | exact HB.out))) : w.heap.size ≤ gb248)); have n4_ := Aside0.mk ((by rw [hg]; exact (below_size (by repeat (first | (with_reducible first | exact HB.out | apply below_alloc | apply pw_below_drewN | apply below_drew1 | refine below_set ?_ GE247.out) | exact HB.out))) : w.heap.size ≤ gb248)); have n5_ := Aside0.mk ((by rw [hg]; exact Nat.ne_of_lt (blk_lt (g := gb247) (o := .cells #[.int .i64 a0_0, .int .i64 a0_1, .slice A0_2 l0_2.length c0_2, .int .i64 a0_3] 57 (0, 0)) (by (with_reducible repeat (first | refine blk_drewN ?_ _ | refine blk_drew ?_ | refine blk_alloc ?_ _)); exact BK247.out)) : gb247 ≠ gb248)); have n6_ := Aside0.mk ((by rw [hg]; exact Nat.ne_of_gt (blk_lt (g := gb247) (o := .cells #[.int .i64 a0_0, .int .i64 a0_1, .slice A0_2 l0_2.length c0_2, .int .i64 a0_3] 57 (0, 0)) (by (with_reducible repeat (first | refine blk_drewN ?_ _ | refine blk_drew ?_ | refine blk_alloc ?_ _)); exact BK247.out)) : gb248 ≠ gb247)); clear BK247; clear HB; have BK247 := n0_; have HB := n1_; have BK248 := n2_; have GW248 := n3_; have GE248 := n4_; have NB247_248 := n5_; have NB248_247 := n6_; clear n0_ n1_ n2_ n3_ n4_ n5_ n6_; clear hb hbox hg; have hnb35 := NB247_248.out; have hnc35 := NB248_247.out; have hcz36_0 : w34.cell? ⟨gb247, 0, none⟩ = some (.int .i64 a0_0) := (blk_cell BK247.out 0).trans rfl; have hcz36_1 : w34.cell? ⟨gb247, 1, none⟩ = some (.int .i64 a0_1) := (blk_cell BK247.out 1).trans rfl; have hcz36_2 : w34.cell? ⟨gb247, 2, none⟩ = some (.slice A0_2 l0_2.length c0_2) := (blk_cell BK247.out 2).trans rfl; have hcz36_3 : w34.cell? ⟨gb247, 3, none⟩ = some (.int .i64 a0_3) := (blk_cell BK247.out 3).trans rfl; have hfz36_0 := blk_frozen BK247.out 0; have hfz36_1 := blk_frozen BK247.out 1; have hfz36_2 := blk_frozen BK247.out 2; have hfz36_3 := blk_frozen BK247.out 3) | ((with_reducible refine gate_callee (f := 70) rfl ?_); refine goesL_ (some 11) rfl rfl Try.func70 (by kernel_rfl) rfl #[.agg #[.int .i64 a0_0, .int .i64 a0_1, .slice A0_2 l0_2.length c0_2, .int .i64 a0_3]] rfl (by (try simp only [List.map_toArray, List.map_cons, List.map_nil]); first | done | rfl | (simp only [List.length_drop, List.length_take]; rfl)) ?_; (with_reducible refine (series_Check.calls k a0_0 a0_1 _ _ l0_2 a0_3 t249 _ ?side1 ?side2 A2.out).mono ?_); (case side1 => repeat (first | exact (Kd.C_below HR0_2.out HB.out) | (with_reducible refine Kd.C_alloc ?_ _) | (with_reducible refine Kd.C_drewN ?_ _) | (with_reducible refine Kd.C_drew ?_))); (case side2 => exact HC0_2.out); rintro e w37 ⟨rfl, hb⟩; refine ⟨_, rfl, ?_⟩; have n0_ := Aside0.mk (blk_below (g := gb247) (o := .cells #[.int .i64 a0_0, .int .i64 a0_1, .slice A0_2 l0_2.length c0_2, .int .i64 a0_3] 57 (0, 0)) (by (with_reducible repeat (first | refine blk_drewN ?_ _ | refine blk_drew ?_ | refine blk_alloc ?_ _)); exact BK247.out) hb); have n1_ := Aside0.mk (blk_below (g := gb248) (o := .cells #[.int .i64 0, .int .i64 0] 24 (0, 0)) (by (with_reducible repeat (first | refine blk_drewN ?_ _ | refine blk_drew ?_ | refine blk_alloc ?_ _)); exact BK248.out) hb); have n2_ := Aside0.mk (below_step (by repeat (first | (with_reducible first | exact HB.out | apply below_alloc | apply pw_below_drewN | apply below_drew1 | refine below_set ?_ GE247.out | refine below_set ?_ GE248.out) | exact HB.out)) hb); clear BK247; clear BK248; clear HB; have BK247 := n0_; have BK248 := n1_; have HB := n2_; clear n0_ n1_ n2_; (try clear hb); (try clear hb2); (try clear hk); (try clear hi); have hcz38_0 : w37.cell? ⟨gb248, 0, none⟩ = some (.int .i64 0) := (blk_cell BK248.out 0).trans rfl; have hcz38_1 : w37.cell? ⟨gb248, 1, none⟩ = some (.int .i64 0) := (blk_cell BK248.out 1).trans rfl; have hfz38_0 := blk_frozen BK248.out 0; have hfz38_1 := blk_frozen BK248.out 1))
    refine bodyPost_ret (results_ct rfl _ _ gb248 24 #[.int .i64 0, .int .i64 0] (0, 0) _ rfl (by (with_reducible repeat (first | refine blk_drewN ?_ _ | refine blk_drew ?_ | refine blk_alloc ?_ _)); refine blk_put (cs := #[.int .i64 0, .int .i64 0]) ?_ 1 _ rfl; (with_reducible repeat (first | refine blk_drewN ?_ _ | refine blk_drew ?_ | refine blk_alloc ?_ _)); refine blk_put (cs := #[.int .i64 0, .int .i64 0]) ?_ 0 _ rfl; (with_reducible repeat (first | refine blk_drewN ?_ _ | refine blk_drew ?_ | refine blk_alloc ?_ _)); exact BK248.out) Try.underlying24 rfl (by kernel_rfl)) rfl ?_
    exact ⟨by first | rfl | (simp [errW_none, errW_some] <;> rfl) | (simp [*, errW_none, errW_some] <;> rfl), by repeat (first | (with_reducible first | exact HB.out | apply below_alloc | apply pw_below_drewN | apply below_drew1 | refine below_set ?_ GE247.out | refine below_set ?_ GE248.out) | exact HB.out)⟩
end Go.Proofs.Ytmahlfjnejbcnaa.PAll
end
section
namespace Go.Proofs.Ytmahlfjnejbcnaa.PAll
open Go Go.RowKit YtmahlfjnejbcnaaW.PrintWords Sx Go.Proofs.Ytmahlfjnejbcnaa
def series_Cross.f (k : Nat) (a0_0 : Int) (a0_1 : Int) (l0_2 : List S71) (a0_3 : Int) (a1 : Int) (a2_0 : Int) (a2_1 : Int) (a3 : Int) : Option (Int × Int × Int) :=
  ob (series_Check.f k a0_0 a0_1 l0_2 a0_3) fun t1 =>
  oif ((t1 != 0) = true) (
   some (0, 0, t1)) (
   ob (series_Valid.f a2_0) fun t2 =>
   oif ((!t2) = true) (
    some (0, 0, 3)) (
    ob (series_Valid.f a2_1) fun t3 =>
    oif ((!t3) = true) (
     some (0, 0, 3)) (
     oif (decide (a1 < 0) = true) (
      some (0, 0, 1)) (
      oif (decide (a1 ≥ 1000000000) = true) (
       some (0, 0, 1)) (
       oif (decide (a3 < 1) = true) (
        some (0, 0, 1)) (
        oif (decide (a2_0 > a2_1) = true) (
         some (0, 0, 1)) (
         ob (series_Slope.f k a0_0 a0_1 l0_2 a0_3) fun t4 =>
         oif (decide (t4.fst ≤ 0) = true) (
          some (0, 0, 8)) (
          ob (series_Angle.f k a0_0 a0_1 l0_2 a0_3 a2_0) fun t5 =>
          ob (series_After.f k t5.fst t5.snd.fst a1) fun t6 =>
          oif (decide (t6 ≥ 0) = true) (
           some (0, 0, 6)) (
           ob (series_Angle.f k a0_0 a0_1 l0_2 a0_3 a2_1) fun t7 =>
           ob (series_After.f k t7.fst t7.snd.fst a1) fun t8 =>
           oif (decide (t8 ≤ 0) = true) (
            some (0, 0, 6)) (
            ob (Nar84.f (fun p9 =>
               ob (series_Angle.f k a0_0 a0_1 l0_2 a0_3 p9) fun t10 =>
               ob (series_After.f k t10.fst t10.snd.fst a1) fun t11 =>
               some (t11)) k a2_0 a2_1 a3) fun t10 =>
            some (t10.fst, t10.snd.fst, t10.snd.snd)))))))))))
theorem series_Cross.mono : ∀ a0_0 a0_1 l0_2 a0_3 a1 a2_0 a2_1 a3 k, LeO (series_Cross.f k a0_0 a0_1 l0_2 a0_3 a1 a2_0 a2_1 a3) (series_Cross.f (k + 1) a0_0 a0_1 l0_2 a0_3 a1 a2_0 a2_1 a3) := by
  intro a0_0 a0_1 l0_2 a0_3 a1 a2_0 a2_1 a3 k
  unfold series_Cross.f
  try simp only [ob_eq, oif_eq]
  repeat' first
    | (with_reducible refine Nar84.mono (fun _ => ?_) _ _ _ _)
    | (with_reducible exact series_After.mono _ _ _ _)
    | (with_reducible exact series_Slope.mono _ _ _ _ _)
    | (with_reducible exact series_Angle.mono _ _ _ _ _ _)
    | (with_reducible exact series_Check.mono _ _ _ _ _)
    | (with_reducible exact LeO.refl _)
    | (with_reducible exact LeO.none _)
    | (with_reducible refine LeO.ite ?_ ?_)
    | (with_reducible refine LeO.bind ?_ (fun _ => ?_))
def series_Cross.OQ {R : Type} (k : Nat) (L0 : List S71) : OraQ R := fun g args K => match g with
  | 38 => (match args with | [.agg ⟨[.int .i64 a0_0, .int .i64 a0_1]⟩, .int .i64 a1] => (series_After.f k a0_0 a0_1 a1).bind fun q => K (.int .i64 q) | _ => none)
  | 48 => (match args with | [.agg ⟨[.int .i64 a0_0, .int .i64 a0_1, .chan (some 1), .int .i64 a0_3]⟩] => (series_Slope.f k a0_0 a0_1 L0 a0_3).bind fun q => K (.tuple ⟨[.agg ⟨[.int .i64 q.1, .int .i64 q.2.1]⟩, .int .i64 q.2.2]⟩) | _ => none)
  | 58 => (match args with | [.int .i64 a0] => (series_Valid.f a0).bind fun q => K (.bool q) | _ => none)
  | 66 => (match args with | [.agg ⟨[.int .i64 a0_0, .int .i64 a0_1, .chan (some 1), .int .i64 a0_3]⟩, .int .i64 a1] => (series_Angle.f k a0_0 a0_1 L0 a0_3 a1).bind fun q => K (.tuple ⟨[.agg ⟨[.int .i64 q.1, .int .i64 q.2.1]⟩, .int .i64 q.2.2]⟩) | _ => none)
  | 70 => (match args with | [.agg ⟨[.int .i64 a0_0, .int .i64 a0_1, .chan (some 1), .int .i64 a0_3]⟩] => (series_Check.f k a0_0 a0_1 L0 a0_3).bind fun q => K (.int .i64 q) | _ => none)
  | _ => none
theorem series_Cross.OQ_ok (k : Nat) (A0 : Option Addr) (c0 : Nat) (L0 : List S71) (hc0 : L0.length ≤ c0) (Φ : World → Prop) (base : Nat) (hΦ : ∀ w, Φ w → Kd.C k71 w A0 L0.length L0) {R : Type} : OraQOk Try.prog (fun _ => .slice A0 L0.length c0) Φ base (series_Cross.OQ (R := R) k L0) := by
  intro g args K r h
  unfold series_Cross.OQ at h
  split at h
  · split at h
    · obtain ⟨q, hq, h⟩ := Option.bind_eq_some_iff.mp h
      exact ⟨_, h, callQ_of rfl rfl fun w => (series_After.calls k _ _ _ _ w hq).mono fun e w' he => ⟨he.1, he.2⟩⟩
    · cases h
  · split at h
    · obtain ⟨q, hq, h⟩ := Option.bind_eq_some_iff.mp h
      exact ⟨_, h, callQ_ofS rfl rfl fun w hw => (series_Slope.calls k _ _ _ _ _ _ _ _ _ w (hΦ w hw) hc0 hq).mono fun e w' he => ⟨he.1, he.2⟩⟩
    · cases h
  · split at h
    · obtain ⟨q, hq, h⟩ := Option.bind_eq_some_iff.mp h
      exact ⟨_, h, callQ_of rfl rfl fun w => (series_Valid.calls _ _ w hq).mono fun e w' he => ⟨he.1, he.2.below⟩⟩
    · cases h
  · split at h
    · obtain ⟨q, hq, h⟩ := Option.bind_eq_some_iff.mp h
      exact ⟨_, h, callQ_ofS rfl rfl fun w hw => (series_Angle.calls k _ _ _ _ _ _ _ _ _ _ w (hΦ w hw) hc0 hq).mono fun e w' he => ⟨he.1, he.2⟩⟩
    · cases h
  · split at h
    · obtain ⟨q, hq, h⟩ := Option.bind_eq_some_iff.mp h
      exact ⟨_, h, callQ_ofS rfl rfl fun w hw => (series_Check.calls k _ _ _ _ _ _ _ w (hΦ w hw) hc0 hq).mono fun e w' he => ⟨he.1, he.2⟩⟩
    · cases h
  · cases h
def series_Cross.F (v : Value) (_ : Mem) : Option (Int × Int × Int) := match v with | .tuple ⟨[.agg ⟨[.int .i64 r1, .int .i64 r2]⟩, .int .i64 r3]⟩ => some (r1, r2, r3) | _ => none
theorem series_Cross.run (k : Nat) (a0_0 : Int) (a0_1 : Int) (l0_2 : List S71) (a0_3 : Int) (a1 : Int) (a2_0 : Int) (a2_1 : Int) (a3 : Int) : runM Try.prog (inl Try.prog 84 Try.f84 (Try.f84.body.getD .skip) 5000 (liftQ (series_Cross.OQ k l0_2)) (drawQ Try.prog (series_Cross.OQ k l0_2)) (narO Try.prog 35 84 2 Try.f84 (Try.f84.body.getD .skip) 3000 (series_Cross.OQ k l0_2) (fun s a b wd => Nar84.f s k a b wd) (liftQ (series_Cross.OQ k l0_2)))) (drawO Try.prog (series_Cross.OQ k l0_2) (inl Try.prog 84 Try.f84 (Try.f84.body.getD .skip) 5000 (liftQ (series_Cross.OQ k l0_2)) (drawQ Try.prog (series_Cross.OQ k l0_2)) (narO Try.prog 35 84 2 Try.f84 (Try.f84.body.getD .skip) 3000 (series_Cross.OQ k l0_2) (fun s a b wd => Nar84.f s k a b wd) (liftQ (series_Cross.OQ k l0_2))))) (fun _ => none) (atEnd Try.prog Try.f63 series_Cross.F) 5000 [.code (Try.f63.body.getD .skip)] ([.agg ⟨[.int .i64 a0_0, .int .i64 a0_1, .chan (some 1), .int .i64 a0_3]⟩, .int .i64 a1, .agg ⟨[.int .i64 a2_0, .int .i64 a2_1]⟩, .int .i64 a3] ++ List.replicate (Try.f63.ntmps - ([.agg ⟨[.int .i64 a0_0, .int .i64 a0_1, .chan (some 1), .int .i64 a0_3]⟩, .int .i64 a1, .agg ⟨[.int .i64 a2_0, .int .i64 a2_1]⟩, .int .i64 a3] : List Value).length) undef) [] = series_Cross.f k a0_0 a0_1 l0_2 a0_3 a1 a2_0 a2_1 a3 := by kernel_rfl
theorem series_Cross.calls (k : Nat) (a0_0 : Int) (a0_1 : Int) (A0_2 : Option Addr) (c0_2 : Nat) (l0_2 : List S71) (a0_3 : Int) (a1 : Int) (a2_0 : Int) (a2_1 : Int) (a3 : Int) (r1 : Int) (r2 : Int) (r3 : Int) (w : World) (hr : Kd.C k71 w A0_2 l0_2.length l0_2) (hc : l0_2.length ≤ c0_2) (h : series_Cross.f k a0_0 a0_1 l0_2 a0_3 a1 a2_0 a2_1 a3 = some (r1, r2, r3)) :
    Calls Try.prog 63 #[.agg #[.int .i64 a0_0, .int .i64 a0_1, .slice A0_2 l0_2.length c0_2, .int .i64 a0_3], .int .i64 a1, .agg #[.int .i64 a2_0, .int .i64 a2_1], .int .i64 a3] w fun e w' => e = .returned (.tuple #[.agg #[.int .i64 r1, .int .i64 r2], .int .i64 r3]) ∧ Below w.heap.size w w' := by
  have hs : Stable (fun w' => Below w.heap.size w w') w.heap.size := fun w1 w2 h1 h2 => h1.trans h2
  have hq : ∀ {R : Type}, OraQOk Try.prog (fun _ => .slice A0_2 l0_2.length c0_2) (fun w' => Below w.heap.size w w') w.heap.size (series_Cross.OQ (R := R) k l0_2) := fun {R} => series_Cross.OQ_ok k A0_2 c0_2 l0_2 hc (fun w' => Below w.heap.size w w') w.heap.size (fun w' hb => Kd.C_below hr hb)
  have ho : OraOk Try.prog (fun _ => .slice A0_2 l0_2.length c0_2) (fun w' => Below w.heap.size w w') w.heap.size (inl Try.prog 84 Try.f84 (Try.f84.body.getD .skip) 5000 (liftQ (series_Cross.OQ (R := Int × Int × Int) k l0_2)) (drawQ Try.prog (series_Cross.OQ (R := Int × Int × Int) k l0_2)) (narO Try.prog 35 84 2 Try.f84 (Try.f84.body.getD .skip) 3000 (series_Cross.OQ k l0_2) (fun s a b wd => Nar84.f s k a b wd) (liftQ (series_Cross.OQ (R := Int × Int × Int) k l0_2)))) := (inl_ok hs (hq.lift hs) (drawQ_ok (Checked.mixed Try.checked) hs hq) (narO_ok (Ψ := fun w => Kd.C k71 w A0_2 l0_2.length l0_2) (fun w w' h hb => Kd.C_below h hb) (fun w' hb => Kd.C_below hr hb) (Checked.mixed Try.checked) hs (fun Φ base _ hΦ => series_Cross.OQ_ok k A0_2 c0_2 l0_2 hc Φ base hΦ) (hq.lift hs) Try.func84 rfl (fun {s a b wd x y z caps w} hl hc hf => by
      obtain ⟨c0, c1, rfl⟩ := len_two hl
      exact Nar84.calls hc hf)) Try.func84 rfl)
  refine calls_openO ho (drawO_ok (Checked.mixed Try.checked) hs hq ho) Try.func63 rfl (F := series_Cross.F) (r := (r1, r2, r3)) (args := [.agg ⟨[.int .i64 a0_0, .int .i64 a0_1, .chan (some 1), .int .i64 a0_3]⟩, .int .i64 a1, .agg ⟨[.int .i64 a2_0, .int .i64 a2_1]⟩, .int .i64 a3]) rfl (fun u m hu => ?_) rfl (((series_Cross.run k a0_0 a0_1 l0_2 a0_3 a1 a2_0 a2_1 a3).trans h))
  unfold series_Cross.F at hu
  split at hu
  · cases hu; rfl
  · cases hu
end Go.Proofs.Ytmahlfjnejbcnaa.PAll
end
