/- Written by a program of this session out of the translation. -/
import Derived.Test.YtedakilpogagiaaDialShadowsn9
namespace Go.Proofs.Ytedakilpogagiaa.PAll
open Go.RowKit YtedakilpogagiaaW.PrintWords YtedakilpogagiaaW.PrintLast YtedakilpogagiaaW.PrintMore More2 Sq
attribute [local go_sem] max2_int min2_int max_two min_two max_three min_three max_four min_four tdiv2e18_ tdiv1e18_ cellSS_  -- for this text's walks alone
set_option linter.unusedVariables false
set_option linter.unusedSimpArgs false
mutual
def trig_Arc.j0 : Nat → Bool → Int → Int → Int → Int → Option (Int × Int × Int)
 | 0, _, _, _, _, _ => none
 | k + 1, x44, x220000, x220001, x221000, x221001 => if x44 = true then (some (0, 0, 11)) else ((trig_direction.f k x220000 x221000).bind fun bt224 => (trig_Arc.l0 k 0 x221001 x220001 x221000 x220001 x221001 x220000 bt224.1 bt224.2 bt224.1 bt224.2))
def trig_Arc.l0 : Nat → Int → Int → Int → Int → Int → Int → Int → Int → Int → Int → Int → Option (Int × Int × Int)
 | 0, _, _, _, _, _, _, _, _, _, _, _ => none
 | k + 1, x68, x994, x995, x996, x997, x998, x999, x227000, x227001, x228000, x228001 => if x68 < 3 then (if 0 ≤ x68 then ((trig_direction.f k (rd [x999, x997, x995] x68) (rd [x998, x996, x994] x68)).bind fun bt229 => ((interval_Floor.f (wrap64 ((wrap64 (bt229.1 - x227000)) + 500000000)) 1000000000).bind fun t232 => (trig_Arc.l0 k (wrap64 (x68 + 1)) x994 x995 x996 x997 x998 x999 x227000 x227001 (mn x228000 (wrap64 (bt229.1 - (wrap64 (t232 * 1000000000))))) (mx x228001 (wrap64 (bt229.2 - (wrap64 (t232 * 1000000000)))))))) else (none)) else (if (wrap64 (x228001 - x228000)) > 400000000 then (some (0, 0, 11)) else ((interval_Floor.f x228000 1000000000).bind fun t233 => (some (wrap64 (x228000 - (wrap64 (t233 * 1000000000))), wrap64 (x228001 - (wrap64 (t233 * 1000000000))), 0))))
end
def trig_Arc.f (k : Nat) (a0_0 : Int) (a0_1 : Int) (a1_0 : Int) (a1_1 : Int) : Option (Int × Int × Int) := (interval_Check.f k a0_0 a0_1).bind fun t222 => (if t222 = 0 then ((interval_Check.f k a1_0 a1_1).bind fun t223 => (if t223 = 0 then (if a0_0 ≤ 0 then (if a0_1 ≥ 0 then (if a1_0 ≤ 0 then (trig_Arc.j0 k (decide (a1_1 ≥ 0)) a0_0 a0_1 a1_0 a1_1) else (trig_Arc.j0 k false a0_0 a0_1 a1_0 a1_1)) else (trig_Arc.j0 k false a0_0 a0_1 a1_0 a1_1)) else (trig_Arc.j0 k false a0_0 a0_1 a1_0 a1_1)) else (some (0, 0, t223)))) else (some (0, 0, t222)))
theorem trig_Arc.mono_l : ∀ k, (∀ y0 y1 y2 y3 y4, LeO (trig_Arc.j0 k y0 y1 y2 y3 y4) (trig_Arc.j0 (k + 1) y0 y1 y2 y3 y4)) ∧ (∀ y0 y1 y2 y3 y4 y5 y6 y7 y8 y9 y10, LeO (trig_Arc.l0 k y0 y1 y2 y3 y4 y5 y6 y7 y8 y9 y10) (trig_Arc.l0 (k + 1) y0 y1 y2 y3 y4 y5 y6 y7 y8 y9 y10))
 | 0 => ⟨fun _ _ _ _ _ r h => by simp [trig_Arc.j0] at h, fun _ _ _ _ _ _ _ _ _ _ _ r h => by simp [trig_Arc.l0] at h⟩
 | k + 1 => by
  obtain ⟨ih0, ih1⟩ := trig_Arc.mono_l k
  refine ⟨?_, ?_⟩
  ·intro y0 y1 y2 y3 y4
   unfold trig_Arc.j0
   repeat' first
   | (with_reducible exact ih0 _ _ _ _ _)
   | (with_reducible exact ih1 _ _ _ _ _ _ _ _ _ _ _)
   | (with_reducible exact interval_Check.mono _ _ _)
   | (with_reducible exact trig_direction.mono _ _ _)
   | (with_reducible exact LeO.refl _)
   | (with_reducible exact LeO.none _)
   | (with_reducible refine LeO.ite ?_ ?_)
   | (with_reducible refine LeO.bind ?_ (fun _ => ?_))
   | exact ih0 _ _ _ _ _
   | exact ih1 _ _ _ _ _ _ _ _ _ _ _
   | exact interval_Check.mono _ _ _
   | exact trig_direction.mono _ _ _
   | exact LeO.none _
   | refine LeO.ite ?_ ?_
   | refine LeO.bind ?_ (fun _ => ?_)
  ·intro y0 y1 y2 y3 y4 y5 y6 y7 y8 y9 y10
   unfold trig_Arc.l0
   repeat' first
   | (with_reducible exact ih0 _ _ _ _ _)
   | (with_reducible exact ih1 _ _ _ _ _ _ _ _ _ _ _)
   | (with_reducible exact interval_Check.mono _ _ _)
   | (with_reducible exact trig_direction.mono _ _ _)
   | (with_reducible exact LeO.refl _)
   | (with_reducible exact LeO.none _)
   | (with_reducible refine LeO.ite ?_ ?_)
   | (with_reducible refine LeO.bind ?_ (fun _ => ?_))
   | exact ih0 _ _ _ _ _
   | exact ih1 _ _ _ _ _ _ _ _ _ _ _
   | exact interval_Check.mono _ _ _
   | exact trig_direction.mono _ _ _
   | exact LeO.none _
   | refine LeO.ite ?_ ?_
   | refine LeO.bind ?_ (fun _ => ?_)
theorem trig_Arc.mono : ∀ a0 a1 a2 a3 k, LeO (trig_Arc.f k a0 a1 a2 a3) (trig_Arc.f (k + 1) a0 a1 a2 a3) := by
 intro a0 a1 a2 a3 k
 obtain ⟨ih0, ih1⟩ := trig_Arc.mono_l k
 unfold trig_Arc.f
 repeat' first
   | (with_reducible exact ih0 _ _ _ _ _)
   | (with_reducible exact ih1 _ _ _ _ _ _ _ _ _ _ _)
   | (with_reducible exact interval_Check.mono _ _ _)
   | (with_reducible exact trig_direction.mono _ _ _)
   | (with_reducible exact LeO.refl _)
   | (with_reducible exact LeO.none _)
   | (with_reducible refine LeO.ite ?_ ?_)
   | (with_reducible refine LeO.bind ?_ (fun _ => ?_))
   | exact ih0 _ _ _ _ _
   | exact ih1 _ _ _ _ _ _ _ _ _ _ _
   | exact interval_Check.mono _ _ _
   | exact trig_direction.mono _ _ _
   | exact LeO.none _
   | refine LeO.ite ?_ ?_
   | refine LeO.bind ?_ (fun _ => ?_)
def trig_Arc.T16 : Bool × List (List Nat × List Nat) := (true, [([], []), ([0], [0]), ([], []), ([2], [2]), ([], []), ([3, 4], [3, 4]), ([1, 5], [1, 5]), ([], []), ([7], [7]), ([], []), ([9], [9]), ([], []), ([10, 11], [10, 11]), ([8, 12], [8, 12]), ([0, 1, 2, 3, 4, 5, 6, 7, 8], []), ([14, 6, 0, 1, 2, 3, 4, 5, 6, 7, 8], [6, 14]), ([0, 1, 2, 3, 4, 5, 6, 7, 8, 9, 10, 11, 12, 13, 14, 15], []), ([16, 13, 15, 0, 1, 2, 3, 4, 5, 6, 7, 8, 9, 10, 11, 12, 13, 14, 15], [13, 16])])
def trig_Arc.B16 : List Nat := [0, 1, 0, 4, 0, 28, 63, 0, 128, 0, 512, 0, 3584, 8064, 511, 16895, 65535, 131071]
theorem trig_Arc.tab16 : rtab .any (opsOf Try.f68 16) = trig_Arc.T16 := by kernel_rfl
theorem trig_Arc.bits16 : waitsOk trig_Arc.T16.2 trig_Arc.B16 = true := by kernel_rfl
set_option maxHeartbeats 8000000 in
set_option maxRecDepth 100000 in
theorem trig_Arc.calls (k : Nat) (a0_0 : Int) (a0_1 : Int) (a1_0 : Int) (a1_1 : Int) (r1 : Int) (r2 : Int) (r3 : Int) (w : World) (h : trig_Arc.f k a0_0 a0_1 a1_0 a1_1 = some (r1, r2, r3)) :
  Calls Try.prog 68 #[.agg #[.int .i64 a0_0, .int .i64 a0_1], .agg #[.int .i64 a1_0, .int .i64 a1_1]] w fun e w' => e = .returned (.tuple #[.agg #[.int .i64 r1, .int .i64 r2], .int .i64 r3]) ∧ Below w.heap.size w w' := by
 have hu23 := Try.underlying23
 have hu90 := Try.underlying90
 have hu91 := Try.underlying91
 have HB := Aside0.mk (Below.refl w.heap.size w)
 have H : ((interval_Check.f k a0_0 a0_1).bind fun t222 => (if t222 = 0 then ((interval_Check.f k a1_0 a1_1).bind fun t223 => (if t223 = 0 then (if a0_0 ≤ 0 then (if a0_1 ≥ 0 then (if a1_0 ≤ 0 then (trig_Arc.j0 k (decide (a1_1 ≥ 0)) a0_0 a0_1 a1_0 a1_1) else (trig_Arc.j0 k false a0_0 a0_1 a1_0 a1_1)) else (trig_Arc.j0 k false a0_0 a0_1 a1_0 a1_1)) else (trig_Arc.j0 k false a0_0 a0_1 a1_0 a1_1)) else (some (0, 0, t223)))) else (some (0, 0, t222)))) = some (r1, r2, r3) := h
 clear h
 replace H := Option.bind_eq_some_iff.mp H
 obtain ⟨t222, A30, H⟩ := H
 replace H : (if t222 = 0 then ((interval_Check.f k a1_0 a1_1).bind fun t223 => (if t223 = 0 then (if a0_0 ≤ 0 then (if a0_1 ≥ 0 then (if a1_0 ≤ 0 then (trig_Arc.j0 k (decide (a1_1 ≥ 0)) a0_0 a0_1 a1_0 a1_1) else (trig_Arc.j0 k false a0_0 a0_1 a1_0 a1_1)) else (trig_Arc.j0 k false a0_0 a0_1 a1_0 a1_1)) else (trig_Arc.j0 k false a0_0 a0_1 a1_0 a1_1)) else (some (0, 0, t223)))) else (some (0, 0, t222))) = some (r1, r2, r3) := H
 have A3 := Aside0.mk A30
 clear A30
 have HC4 := Aside0.mk H
 clear H
 go_enter Try.func68, Try.ntmps68
 go_upto_if 18 with (first | ((with_reducible refine gate_dst (N := 2) rfl ?_); refine box_event ?hg (N := 2) ?hd (cs := #[.int .i64 a0_0, .int .i64 a0_1]) (t := 23) ?hr ?_; (case hd => rfl); (case hg => rfl); (case hr => first | (go_simp; done) | (go_simp; rfl)); intro gb219 hg w5 hbox hb; have BK219 := Aside0.mk (hbox); have GW219 := ge_ hg HB; have GE219 := ge_ hg HB; replace HB := bs_ HB hb; clear hb hbox hg) | ((with_reducible refine gate_dst (N := 3) rfl ?_); refine box_event ?hg (N := 3) ?hd (cs := #[.int .i64 a1_0, .int .i64 a1_1]) (t := 23) ?hr ?_; (case hd => rfl); (case hg => rfl); (case hr => first | (go_simp; done) | (go_simp; rfl)); intro gb220 hg w6 hbox hb; have BK220 := Aside0.mk (hbox); have GW220 := ge_ hg HB; have GE220 := ge_ hg HB; have NB219_220 := nl_ hg BK219; have NB220_219 := ng_ hg BK219; replace BK219 := kb_ BK219 hb; replace HB := bs_ HB hb; clear hb hbox hg) | ((with_reducible refine gate_dst (N := 4) rfl ?_); refine box_event ?hg (N := 4) ?hd (cs := #[.int .i64 0, .int .i64 0]) (t := 23) ?hr ?_; (case hd => rfl); (case hg => rfl); (case hr => first | (go_simp; done) | (go_simp; rfl)); intro gb221 hg w7 hbox hb; have BK221 := Aside0.mk (hbox); have GW221 := ge_ hg HB; have GE221 := ge_ hg HB; have NB219_221 := nl_ hg BK219; have NB221_219 := ng_ hg BK219; have NB220_221 := nl_ hg BK220; have NB221_220 := ng_ hg BK220; replace BK219 := kb_ BK219 hb; replace BK220 := kb_ BK220 hb; replace HB := bs_ HB hb; clear hb hbox hg; have hnb8 := NB219_220.out; have hnc8 := NB220_219.out; have hnb9 := NB219_221.out; have hnc9 := NB221_219.out; have hcz10_0 : w7.cell? ⟨gb219, 0, none⟩ = some (.int .i64 a0_0) := (blk_cell BK219.out 0).trans rfl; have hcz10_1 : w7.cell? ⟨gb219, 1, none⟩ = some (.int .i64 a0_1) := (blk_cell BK219.out 1).trans rfl; have hfz10_0 := blk_frozen BK219.out 0; have hfz10_1 := blk_frozen BK219.out 1) | ((with_reducible refine gate_callee (f := 61) rfl ?_); refine goesL_ (some 16) rfl rfl Try.func61 (by kernel_rfl) rfl #[.agg #[.int .i64 a0_0, .int .i64 a0_1]] rfl (by (try simp only [List.map_toArray, List.map_cons, List.map_nil]); first | done | rfl | (simp only [List.length_drop, List.length_take]; rfl)) ?_; (with_reducible refine (interval_Check.calls k a0_0 a0_1 t222 _ A3.out).mono ?_); rintro e w11 ⟨rfl, hb⟩; refine ⟨_, rfl, ?_⟩; replace BK219 := kb_ BK219 hb; replace BK220 := kb_ BK220 hb; replace BK221 := kb_ BK221 hb; replace HB := bs_ HB hb; (try clear hb); (try clear hb2); (try clear hk); (try clear hi)))
 (try simp only [Act.put, List.setIfInBounds_toArray, List.set_cons_zero, List.set_cons_succ])
 have H := HC4.out
 clear HC4
 by_cases c12 : t222 = 0
 ·rw [if_pos c12] at H
  have c12b0 : (t222 == 0) = true := beq_iff_eq.mpr c12
  have c12b1 : (t222 != 0) = false := bne_eq_false_iff_eq.mpr c12
  clear c12
  (first | rw [c12b0] | (simp only [i64_w, i32_w]; rw [c12b0]) | skip)
  replace H := Option.bind_eq_some_iff.mp H
  obtain ⟨t223, A130, H⟩ := H
  replace H : (if t223 = 0 then (if a0_0 ≤ 0 then (if a0_1 ≥ 0 then (if a1_0 ≤ 0 then (trig_Arc.j0 k (decide (a1_1 ≥ 0)) a0_0 a0_1 a1_0 a1_1) else (trig_Arc.j0 k false a0_0 a0_1 a1_0 a1_1)) else (trig_Arc.j0 k false a0_0 a0_1 a1_0 a1_1)) else (trig_Arc.j0 k false a0_0 a0_1 a1_0 a1_1)) else (some (0, 0, t223))) = some (r1, r2, r3) := H
  have A13 := Aside0.mk A130
  clear A130
  by_cases c14 : t223 = 0
  ·rw [if_pos c14] at H
   have c14b0 : (t223 == 0) = true := beq_iff_eq.mpr c14
   have c14b1 : (t223 != 0) = false := bne_eq_false_iff_eq.mpr c14
   clear c14
   have HC15 := Aside0.mk H
   clear H
   have hnb16 := NB220_219.out
   have hnc16 := NB219_220.out
   have hnb17 := NB220_221.out
   have hnc17 := NB221_220.out
   have hcz18_0 : w11.cell? ⟨gb220, 0, none⟩ = some (.int .i64 a1_0) := (blk_cell BK220.out 0).trans rfl
   have hcz18_1 : w11.cell? ⟨gb220, 1, none⟩ = some (.int .i64 a1_1) := (blk_cell BK220.out 1).trans rfl
   have hfz18_0 := blk_frozen BK220.out 0
   have hfz18_1 := blk_frozen BK220.out 1
   go_upto_region 7 with (first | ((with_reducible refine gate_callee (f := 61) rfl ?_); refine goesL_ (some 22) rfl rfl Try.func61 (by kernel_rfl) rfl #[.agg #[.int .i64 a1_0, .int .i64 a1_1]] rfl (by (try simp only [List.map_toArray, List.map_cons, List.map_nil]); first | done | rfl | (simp only [List.length_drop, List.length_take]; rfl)) ?_; (with_reducible refine (interval_Check.calls k a1_0 a1_1 t223 _ A13.out).mono ?_); rintro e w19 ⟨rfl, hb⟩; refine ⟨_, rfl, ?_⟩; replace BK219 := kb_ BK219 hb; replace BK220 := kb_ BK220 hb; replace BK221 := kb_ BK221 hb; replace HB := bs_ HB hb; (try clear hb); (try clear hb2); (try clear hk); (try clear hi)))
   (try simp only [Act.put, List.setIfInBounds_toArray, List.set_cons_zero, List.set_cons_succ])
   go_cut [44] (fun v44 wc => ∃ (kq : Nat) (x44_14 : Bool), v44 = .bool x44_14 ∧ Aside0 (trig_Arc.j0 kq x44_14 a0_0 a0_1 a1_0 a1_1 = some (r1, r2, r3)) ∧ Aside0 (kq ≤ k) ∧ Aside0 (wc.heap[gb219]? = some (.cells #[.int .i64 a0_0, .int .i64 a0_1] 23 (0, 0))) ∧ Aside0 (wc.heap[gb220]? = some (.cells #[.int .i64 a1_0, .int .i64 a1_1] 23 (0, 0))) ∧ Aside0 (wc.heap[gb221]? = some (.cells #[.int .i64 0, .int .i64 0] 23 (0, 0))) ∧ Aside0 (Below w.heap.size w wc))
   case first =>
    have H := HC15.out
    clear HC15
    by_cases c20 : a0_0 ≤ 0
    ·rw [if_pos c20] at H
     have c20b0 : decide (a0_0 ≤ 0) = true := decide_eq_true c20
     clear c20
     (first | rw [c20b0] | (simp only [i64_w, i32_w]; rw [c20b0]) | skip)
     by_cases c21 : a0_1 ≥ 0
     ·rw [if_pos c21] at H
      have c21b0 : decide (0 ≤ a0_1) = true := decide_eq_true c21
      clear c21
      by_cases c22 : a1_0 ≤ 0
      ·rw [if_pos c22] at H
       have c22b0 : decide (a1_0 ≤ 0) = true := decide_eq_true c22
       clear c22
       have H' := Aside0.mk H
       clear H
       have hnb23 := NB219_220.out
       have hnc23 := NB220_219.out
       have hnb24 := NB219_221.out
       have hnc24 := NB221_219.out
       have hcz25_0 : w19.cell? ⟨gb219, 0, none⟩ = some (.int .i64 a0_0) := (blk_cell BK219.out 0).trans rfl
       have hcz25_1 : w19.cell? ⟨gb219, 1, none⟩ = some (.int .i64 a0_1) := (blk_cell BK219.out 1).trans rfl
       have hfz25_0 := blk_frozen BK219.out 0
       have hfz25_1 := blk_frozen BK219.out 1
       have hnb26 := NB220_221.out
       have hnc26 := NB221_220.out
       have hcz27_0 : w19.cell? ⟨gb220, 0, none⟩ = some (.int .i64 a1_0) := (blk_cell BK220.out 0).trans rfl
       have hcz27_1 : w19.cell? ⟨gb220, 1, none⟩ = some (.int .i64 a1_1) := (blk_cell BK220.out 1).trans rfl
       have hfz27_0 := blk_frozen BK220.out 0
       have hfz27_1 := blk_frozen BK220.out 1
       go_wp2
       go_meet
       case rel => exact ⟨_, (decide (a1_1 ≥ 0)), (by first | rfl | (simp; done) | (simp [*]; done)), H', ⟨by first | omega | exact Nat.le_refl _⟩, ⟨kk_ BK219⟩, ⟨kk_ BK220⟩, ⟨kk_ BK221⟩, (be_ HB)⟩
      ·rw [if_neg c22] at H
       have c22b0 : decide (a1_0 ≤ 0) = false := decide_eq_false c22
       clear c22
       have H' := Aside0.mk H
       clear H
       have hnb28 := NB219_220.out
       have hnc28 := NB220_219.out
       have hnb29 := NB219_221.out
       have hnc29 := NB221_219.out
       have hcz30_0 : w19.cell? ⟨gb219, 0, none⟩ = some (.int .i64 a0_0) := (blk_cell BK219.out 0).trans rfl
       have hcz30_1 : w19.cell? ⟨gb219, 1, none⟩ = some (.int .i64 a0_1) := (blk_cell BK219.out 1).trans rfl
       have hfz30_0 := blk_frozen BK219.out 0
       have hfz30_1 := blk_frozen BK219.out 1
       have hnb31 := NB220_221.out
       have hnc31 := NB221_220.out
       have hcz32_0 : w19.cell? ⟨gb220, 0, none⟩ = some (.int .i64 a1_0) := (blk_cell BK220.out 0).trans rfl
       have hcz32_1 : w19.cell? ⟨gb220, 1, none⟩ = some (.int .i64 a1_1) := (blk_cell BK220.out 1).trans rfl
       have hfz32_0 := blk_frozen BK220.out 0
       have hfz32_1 := blk_frozen BK220.out 1
       go_wp2
       go_meet
       case rel => exact ⟨_, (false), (by first | rfl | (simp; done) | (simp [*]; done)), H', ⟨by first | omega | exact Nat.le_refl _⟩, ⟨kk_ BK219⟩, ⟨kk_ BK220⟩, ⟨kk_ BK221⟩, (be_ HB)⟩
     ·rw [if_neg c21] at H
      have c21b0 : decide (0 ≤ a0_1) = false := decide_eq_false c21
      clear c21
      have H' := Aside0.mk H
      clear H
      have hnb33 := NB219_220.out
      have hnc33 := NB220_219.out
      have hnb34 := NB219_221.out
      have hnc34 := NB221_219.out
      have hcz35_0 : w19.cell? ⟨gb219, 0, none⟩ = some (.int .i64 a0_0) := (blk_cell BK219.out 0).trans rfl
      have hcz35_1 : w19.cell? ⟨gb219, 1, none⟩ = some (.int .i64 a0_1) := (blk_cell BK219.out 1).trans rfl
      have hfz35_0 := blk_frozen BK219.out 0
      have hfz35_1 := blk_frozen BK219.out 1
      go_wp2
      go_meet
      case rel => exact ⟨_, (false), (by first | rfl | (simp; done) | (simp [*]; done)), H', ⟨by first | omega | exact Nat.le_refl _⟩, ⟨kk_ BK219⟩, ⟨kk_ BK220⟩, ⟨kk_ BK221⟩, (be_ HB)⟩
    ·rw [if_neg c20] at H
     have c20b0 : decide (a0_0 ≤ 0) = false := decide_eq_false c20
     clear c20
     (first | rw [c20b0] | (simp only [i64_w, i32_w]; rw [c20b0]) | skip)
     have H' := Aside0.mk H
     clear H
     have hnb36 := NB219_220.out
     have hnc36 := NB220_219.out
     have hnb37 := NB219_221.out
     have hnc37 := NB221_219.out
     have hcz38_0 : w19.cell? ⟨gb219, 0, none⟩ = some (.int .i64 a0_0) := (blk_cell BK219.out 0).trans rfl
     have hcz38_1 : w19.cell? ⟨gb219, 1, none⟩ = some (.int .i64 a0_1) := (blk_cell BK219.out 1).trans rfl
     have hfz38_0 := blk_frozen BK219.out 0
     have hfz38_1 := blk_frozen BK219.out 1
     go_wp2
     go_meet
     case rel => exact ⟨_, (false), (by first | rfl | (simp; done) | (simp [*]; done)), H', ⟨by first | omega | exact Nat.le_refl _⟩, ⟨kk_ BK219⟩, ⟨kk_ BK220⟩, ⟨kk_ BK221⟩, (be_ HB)⟩
   case rest =>
    clear HC15
    try clear c1
    try clear c2
    try clear p2
    try clear c3
    try clear c6
    try clear c8
    try clear c9
    try clear c12
    try clear c12b0
    try clear c12b1
    try clear c14
    try clear c14b0
    try clear c14b1
    try clear c16
    try clear c17
    try clear c20
    try clear c20b0
    try clear c21
    try clear c21b0
    try clear c22
    try clear c22b0
    try clear c23
    try clear c24
    try clear c26
    try clear c28
    try clear c29
    try clear c31
    try clear c33
    try clear c34
    try clear c36
    try clear c37
    try clear hcz10_0
    try clear hcz10_1
    try clear hcz18_0
    try clear hcz18_1
    try clear hcz25_0
    try clear hcz25_1
    try clear hcz27_0
    try clear hcz27_1
    try clear hcz30_0
    try clear hcz30_1
    try clear hcz32_0
    try clear hcz32_1
    try clear hcz35_0
    try clear hcz35_1
    try clear hcz38_0
    try clear hcz38_1
    try clear hfz10_0
    try clear hfz10_1
    try clear hfz18_0
    try clear hfz18_1
    try clear hfz25_0
    try clear hfz25_1
    try clear hfz27_0
    try clear hfz27_1
    try clear hfz30_0
    try clear hfz30_1
    try clear hfz32_0
    try clear hfz32_1
    try clear hfz35_0
    try clear hfz35_1
    try clear hfz38_0
    try clear hfz38_1
    obtain ⟨kq, x44_14, rfl, HA, HJ14, BK219, BK220, BK221, HB⟩ := hcut
    cases kq with
    | zero => exact absurd HA.out (by simp [trig_Arc.j0])
    | succ kj14 =>
     have H := HA.out
     clear HA
     simp only [trig_Arc.j0] at H
     by_cases c39 : x44_14 = true
     ·subst c39
      have H1 : (some (0, 0, 11)) = some (r1, r2, r3) := by rw [if_pos rfl] at H; exact H
      clear H
      have H := H1
      clear H1
      simp only [Option.some.injEq, Prod.mk.injEq] at H
      obtain ⟨rfl, rfl, rfl⟩ := H
      have hnb40 := NB221_219.out
      have hnc40 := NB219_221.out
      have hnb41 := NB221_220.out
      have hnc41 := NB220_221.out
      have hcz42_0 : wc.cell? ⟨gb221, 0, none⟩ = some (.int .i64 0) := (blk_cell BK221.out 0).trans rfl
      have hcz42_1 : wc.cell? ⟨gb221, 1, none⟩ = some (.int .i64 0) := (blk_cell BK221.out 1).trans rfl
      have hfz42_0 := blk_frozen BK221.out 0
      have hfz42_1 := blk_frozen BK221.out 1
      go_wp2
      refine bodyPost_ret (results_ct rfl _ _ gb221 23 #[.int .i64 0, .int .i64 0] (0, 0) _ rfl (by (with_reducible repeat (first | refine blk_drewN ?_ _ | refine blk_drew ?_ | refine blk_alloc ?_ _)); refine blk_put (cs := #[.int .i64 0, .int .i64 0]) ?_ 1 _ rfl; (with_reducible repeat (first | refine blk_drewN ?_ _ | refine blk_drew ?_ | refine blk_alloc ?_ _)); refine blk_put (cs := #[.int .i64 0, .int .i64 0]) ?_ 0 _ rfl; (with_reducible repeat (first | refine blk_drewN ?_ _ | refine blk_drew ?_ | refine blk_alloc ?_ _)); exact BK221.out) Try.underlying23 rfl (by kernel_rfl)) rfl ?_
      exact ⟨by first | rfl | (simp [errW_none, errW_some] <;> rfl) | (simp [*, errW_none, errW_some] <;> rfl), (be_ HB).out⟩
     ·replace c39 := Bool.eq_false_iff.mpr c39
      subst c39
      have H1 : ((trig_direction.f kj14 a0_0 a1_0).bind fun bt224 => (trig_Arc.l0 kj14 0 a1_1 a0_1 a1_0 a0_1 a1_1 a0_0 bt224.1 bt224.2 bt224.1 bt224.2)) = some (r1, r2, r3) := by rw [if_neg (show ¬ (false = true) by decide)] at H; exact H
      clear H
      have H := H1
      clear H1
      replace H := Option.bind_eq_some_iff.mp H
      obtain ⟨⟨t224, t225⟩, A430, H⟩ := H
      replace H : (trig_Arc.l0 kj14 0 a1_1 a0_1 a1_0 a0_1 a1_1 a0_0 t224 t225 t224 t225) = some (r1, r2, r3) := H
      have A43 := Aside0.mk A430
      clear A430
      have H' := Aside0.mk H
      clear H
      have hnb44 := NB219_220.out
      have hnc44 := NB220_219.out
      have hnb45 := NB219_221.out
      have hnc45 := NB221_219.out
      have hcz46_0 : wc.cell? ⟨gb219, 0, none⟩ = some (.int .i64 a0_0) := (blk_cell BK219.out 0).trans rfl
      have hcz46_1 : wc.cell? ⟨gb219, 1, none⟩ = some (.int .i64 a0_1) := (blk_cell BK219.out 1).trans rfl
      have hfz46_0 := blk_frozen BK219.out 0
      have hfz46_1 := blk_frozen BK219.out 1
      have hnb47 := NB220_221.out
      have hnc47 := NB221_220.out
      have hcz48_0 : wc.cell? ⟨gb220, 0, none⟩ = some (.int .i64 a1_0) := (blk_cell BK220.out 0).trans rfl
      have hcz48_1 : wc.cell? ⟨gb220, 1, none⟩ = some (.int .i64 a1_1) := (blk_cell BK220.out 1).trans rfl
      have hfz48_0 := blk_frozen BK220.out 0
      have hfz48_1 := blk_frozen BK220.out 1
      go_wp2_with (first | ((with_reducible refine gate_callee (f := 108) rfl ?_); refine goesL_ (some 50) rfl rfl Try.func108 (by kernel_rfl) rfl #[.int .i64 a0_0, .int .i64 a1_0] rfl (by (try simp only [List.map_toArray, List.map_cons, List.map_nil]); first | done | rfl | (simp only [List.length_drop, List.length_take]; rfl)) ?_; (with_reducible refine (trig_direction.calls kj14 a0_0 a1_0 t224 t225 _ A43.out).mono ?_); rintro e w49 ⟨rfl, hb⟩; refine ⟨_, rfl, ?_⟩; replace BK219 := kb_ BK219 hb; replace BK220 := kb_ BK220 hb; replace BK221 := kb_ BK221 hb; replace HB := bs_ HB hb; (try clear hb); (try clear hb2); (try clear hk); (try clear hi)) | ((with_reducible refine gate_dst (N := 8) rfl ?_); refine box_event ?hg (N := 8) ?hd (cs := #[.int .i64 0, .int .i64 0]) (t := 23) ?hr ?_; (case hd => rfl); (case hg => rfl); (case hr => first | (go_simp; done) | (go_simp; rfl)); intro gb226 hg w50 hbox hb; have BK226 := Aside0.mk (hbox); have GW226 := ge_ hg HB; have GE226 := ge_ hg HB; have NB219_226 := nl_ hg BK219; have NB226_219 := ng_ hg BK219; have NB220_226 := nl_ hg BK220; have NB226_220 := ng_ hg BK220; have NB221_226 := nl_ hg BK221; have NB226_221 := ng_ hg BK221; replace BK219 := kb_ BK219 hb; replace BK220 := kb_ BK220 hb; replace BK221 := kb_ BK221 hb; replace HB := bs_ HB hb; clear hb hbox hg; have hnb51 := NB226_219.out; have hnc51 := NB219_226.out; have hnb52 := NB226_220.out; have hnc52 := NB220_226.out; have hnb53 := NB226_221.out; have hnc53 := NB221_226.out; have hcz54_0 : w50.cell? ⟨gb226, 0, none⟩ = some (.int .i64 0) := (blk_cell BK226.out 0).trans rfl; have hcz54_1 : w50.cell? ⟨gb226, 1, none⟩ = some (.int .i64 0) := (blk_cell BK226.out 1).trans rfl; have hfz54_0 := blk_frozen BK226.out 0; have hfz54_1 := blk_frozen BK226.out 1) | ((with_reducible refine gate_dst (N := 9) rfl ?_); refine box_event ?hg (N := 9) ?hd (cs := #[.int .i64 0, .int .i64 0]) (t := 23) ?hr ?_; (case hd => rfl); (case hg => rfl); (case hr => first | (go_simp; done) | (go_simp; rfl)); intro gb227 hg w55 hbox hb; have n0_ := kb_ BK219 hb; have n1_ := kb_ BK220 hb; have n2_ := kb_ BK221 hb; have n3_ := Aside0.mk (blk_below (g := gb226) (o := .cells #[.int .i64 t224, .int .i64 t225] 23 (0, 0)) (by (with_reducible repeat (first | refine blk_drewN ?_ _ | refine blk_drew ?_ | refine blk_alloc ?_ _)); refine blk_put (cs := #[.int .i64 t224, .int .i64 0]) ?_ 1 _ rfl; (with_reducible repeat (first | refine blk_drewN ?_ _ | refine blk_drew ?_ | refine blk_alloc ?_ _)); refine blk_put (cs := #[.int .i64 0, .int .i64 0]) ?_ 0 _ rfl; (with_reducible repeat (first | refine blk_drewN ?_ _ | refine blk_drew ?_ | refine blk_alloc ?_ _)); exact BK226.out) hb); have n4_ := bs_ HB hb; have n5_ := Aside0.mk (hbox); have n6_ := ge_ hg HB; have n7_ := ge_ hg HB; have n8_ := nl_ hg BK219; have n9_ := ng_ hg BK219; have n10_ := nl_ hg BK220; have n11_ := ng_ hg BK220; have n12_ := nl_ hg BK221; have n13_ := ng_ hg BK221; have n14_ := Aside0.mk ((by rw [hg]; exact Nat.ne_of_lt (blk_lt (g := gb226) (o := .cells #[.int .i64 t224, .int .i64 t225] 23 (0, 0)) (by (with_reducible repeat (first | refine blk_drewN ?_ _ | refine blk_drew ?_ | refine blk_alloc ?_ _)); refine blk_put (cs := #[.int .i64 t224, .int .i64 0]) ?_ 1 _ rfl; (with_reducible repeat (first | refine blk_drewN ?_ _ | refine blk_drew ?_ | refine blk_alloc ?_ _)); refine blk_put (cs := #[.int .i64 0, .int .i64 0]) ?_ 0 _ rfl; (with_reducible repeat (first | refine blk_drewN ?_ _ | refine blk_drew ?_ | refine blk_alloc ?_ _)); exact BK226.out)) : gb226 ≠ gb227)); have n15_ := Aside0.mk ((by rw [hg]; exact Nat.ne_of_gt (blk_lt (g := gb226) (o := .cells #[.int .i64 t224, .int .i64 t225] 23 (0, 0)) (by (with_reducible repeat (first | refine blk_drewN ?_ _ | refine blk_drew ?_ | refine blk_alloc ?_ _)); refine blk_put (cs := #[.int .i64 t224, .int .i64 0]) ?_ 1 _ rfl; (with_reducible repeat (first | refine blk_drewN ?_ _ | refine blk_drew ?_ | refine blk_alloc ?_ _)); refine blk_put (cs := #[.int .i64 0, .int .i64 0]) ?_ 0 _ rfl; (with_reducible repeat (first | refine blk_drewN ?_ _ | refine blk_drew ?_ | refine blk_alloc ?_ _)); exact BK226.out)) : gb227 ≠ gb226)); clear BK219; clear BK220; clear BK221; clear BK226; clear HB; have BK219 := n0_; have BK220 := n1_; have BK221 := n2_; have BK226 := n3_; have HB := n4_; have BK227 := n5_; have GW227 := n6_; have GE227 := n7_; have NB219_227 := n8_; have NB227_219 := n9_; have NB220_227 := n10_; have NB227_220 := n11_; have NB221_227 := n12_; have NB227_221 := n13_; have NB226_227 := n14_; have NB227_226 := n15_; clear n0_ n1_ n2_ n3_ n4_ n5_ n6_ n7_ n8_ n9_ n10_ n11_ n12_ n13_ n14_ n15_; clear hb hbox hg; have hnb56 := NB227_219.out; have hnc56 := NB219_227.out; have hnb57 := NB227_220.out; have hnc57 := NB220_227.out; have hnb58 := NB227_221.out; have hnc58 := NB221_227.out; have hnb59 := NB227_226.out; have hnc59 := NB226_227.out; have hcz60_0 : w55.cell? ⟨gb227, 0, none⟩ = some (.int .i64 0) := (blk_cell BK227.out 0).trans rfl; have hcz60_1 : w55.cell? ⟨gb227, 1, none⟩ = some (.int .i64 0) := (blk_cell BK227.out 1).trans rfl; have hfz60_0 := blk_frozen BK227.out 0; have hfz60_1 := blk_frozen BK227.out 1; have hcz61_0 : w55.cell? ⟨gb219, 0, none⟩ = some (.int .i64 a0_0) := (blk_cell BK219.out 0).trans rfl; have hcz61_1 : w55.cell? ⟨gb219, 1, none⟩ = some (.int .i64 a0_1) := (blk_cell BK219.out 1).trans rfl; have hfz61_0 := blk_frozen BK219.out 0; have hfz61_1 := blk_frozen BK219.out 1; have hcz62_0 : w55.cell? ⟨gb220, 0, none⟩ = some (.int .i64 a1_0) := (blk_cell BK220.out 0).trans rfl; have hcz62_1 : w55.cell? ⟨gb220, 1, none⟩ = some (.int .i64 a1_1) := (blk_cell BK220.out 1).trans rfl; have hfz62_0 := blk_frozen BK220.out 0; have hfz62_1 := blk_frozen BK220.out 1))
      go_loopg [68] kj14 (fun kq v68 w' => ∃ (x68_2 : Int) (x228000_2 : Int) (x228001_2 : Int), v68 = .int .i64 x68_2 ∧ Aside0 (trig_Arc.l0 kq x68_2 a1_1 a0_1 a1_0 a0_1 a1_1 a0_0 t224 t225 x228000_2 x228001_2 = some (r1, r2, r3)) ∧ Aside0 (kq ≤ kj14) ∧ Aside0 (w'.heap[gb219]? = some (.cells #[.int .i64 a0_0, .int .i64 a0_1] 23 (0, 0))) ∧ Aside0 (w'.heap[gb220]? = some (.cells #[.int .i64 a1_0, .int .i64 a1_1] 23 (0, 0))) ∧ Aside0 (w'.heap[gb221]? = some (.cells #[.int .i64 0, .int .i64 0] 23 (0, 0))) ∧ Aside0 (w'.heap[gb226]? = some (.cells #[.int .i64 t224, .int .i64 t225] 23 (0, 0))) ∧ Aside0 (w'.heap[gb227]? = some (.cells #[.int .i64 x228000_2, .int .i64 x228001_2] 23 (0, 0))) ∧ Aside0 (Below w.heap.size w w'))
      case atStart => exact ⟨(0), (t224), (t225), (by first | rfl | (simp; done) | (simp [*]; done)), H', ⟨Nat.le_refl _⟩, ⟨kk_ BK219⟩, ⟨kk_ BK220⟩, ⟨kk_ BK221⟩, ⟨kk_ BK226⟩, ⟨by (with_reducible repeat (first | refine blk_drewN ?_ _ | refine blk_drew ?_ | refine blk_alloc ?_ _)); refine blk_put (cs := #[.int .i64 t224, .int .i64 0]) ?_ 1 _ rfl; (with_reducible repeat (first | refine blk_drewN ?_ _ | refine blk_drew ?_ | refine blk_alloc ?_ _)); refine blk_put (cs := #[.int .i64 0, .int .i64 0]) ?_ 0 _ rfl; (with_reducible repeat (first | refine blk_drewN ?_ _ | refine blk_drew ?_ | refine blk_alloc ?_ _)); exact BK227.out⟩, (be_ HB)⟩
      case round =>
       clear H'
       try clear c1
       try clear c2
       try clear p2
       try clear c3
       try clear c4
       try clear c5
       try clear c6
       try clear c8
       try clear c9
       try clear c10
       try clear c12
       try clear c12b0
       try clear c12b1
       try clear c14
       try clear c14b0
       try clear c14b1
       try clear c16
       try clear c17
       try clear c20
       try clear c20b0
       try clear c21
       try clear c21b0
       try clear c22
       try clear c22b0
       try clear c23
       try clear c24
       try clear c26
       try clear c28
       try clear c29
       try clear c31
       try clear c33
       try clear c34
       try clear c36
       try clear c37
       try clear c39
       try clear c40
       try clear c41
       try clear c44
       try clear c45
       try clear c47
       try clear c51
       try clear c52
       try clear c53
       try clear c56
       try clear c57
       try clear c58
       try clear c59
       try clear c61
       try clear hcz10_0
       try clear hcz10_1
       try clear hcz18_0
       try clear hcz18_1
       try clear hcz25_0
       try clear hcz25_1
       try clear hcz27_0
       try clear hcz27_1
       try clear hcz30_0
       try clear hcz30_1
       try clear hcz32_0
       try clear hcz32_1
       try clear hcz35_0
       try clear hcz35_1
       try clear hcz38_0
       try clear hcz38_1
       try clear hcz42_0
       try clear hcz42_1
       try clear hcz46_0
       try clear hcz46_1
       try clear hcz48_0
       try clear hcz48_1
       try clear hcz54_0
       try clear hcz54_1
       try clear hcz60_0
       try clear hcz60_1
       try clear hcz61_0
       try clear hcz61_1
       try clear hcz62_0
       try clear hcz62_1
       try clear hfz10_0
       try clear hfz10_1
       try clear hfz18_0
       try clear hfz18_1
       try clear hfz25_0
       try clear hfz25_1
       try clear hfz27_0
       try clear hfz27_1
       try clear hfz30_0
       try clear hfz30_1
       try clear hfz32_0
       try clear hfz32_1
       try clear hfz35_0
       try clear hfz35_1
       try clear hfz38_0
       try clear hfz38_1
       try clear hfz42_0
       try clear hfz42_1
       try clear hfz46_0
       try clear hfz46_1
       try clear hfz48_0
       try clear hfz48_1
       try clear hfz54_0
       try clear hfz54_1
       try clear hfz60_0
       try clear hfz60_1
       try clear hfz61_0
       try clear hfz61_1
       try clear hfz62_0
       try clear hfz62_1
       try clear p2
       obtain ⟨x68_2, x228000_2, x228001_2, rfl, HA, HK2, BK219, BK220, BK221, BK226, BK227, HB⟩ := hrel
       cases gk with
       | zero => exact absurd HA.out (by simp [trig_Arc.l0])
       | succ k2 =>
        have H := HA.out
        clear HA
        simp only [trig_Arc.l0] at H
        by_cases c63 : x68_2 < 3
        ·rw [if_pos c63] at H
         have c63b0 : decide (x68_2 < 3) = true := decide_eq_true c63
         clear c63
         by_cases c64 : 0 ≤ x68_2
         ·rw [if_pos c64] at H
          have c64b0 : decide (0 ≤ x68_2) = true := decide_eq_true c64
          clear c64
          replace H := Option.bind_eq_some_iff.mp H
          obtain ⟨⟨t229, t230⟩, A660, H⟩ := H
          replace H : ((interval_Floor.f (wrap64 ((wrap64 (t229 - t224)) + 500000000)) 1000000000).bind fun t232 => (trig_Arc.l0 k2 (wrap64 (x68_2 + 1)) a1_1 a0_1 a1_0 a0_1 a1_1 a0_0 t224 t225 (mn x228000_2 (wrap64 (t229 - (wrap64 (t232 * 1000000000))))) (mx x228001_2 (wrap64 (t230 - (wrap64 (t232 * 1000000000))))))) = some (r1, r2, r3) := H
          have A66 := Aside0.mk A660
          clear A660
          replace H := Option.bind_eq_some_iff.mp H
          obtain ⟨t232, A670, H⟩ := H
          replace H : (trig_Arc.l0 k2 (wrap64 (x68_2 + 1)) a1_1 a0_1 a1_0 a0_1 a1_1 a0_0 t224 t225 (mn x228000_2 (wrap64 (t229 - (wrap64 (t232 * 1000000000))))) (mx x228001_2 (wrap64 (t230 - (wrap64 (t232 * 1000000000)))))) = some (r1, r2, r3) := H
          have A67 := Aside0.mk A670
          clear A670
          obtain ⟨ji68, hji68⟩ : ∃ j_ : Int, (mn x228000_2 (wrap64 (t229 - (wrap64 (t232 * 1000000000))))) = j_ := ⟨_, rfl⟩
          replace H : (trig_Arc.l0 k2 (wrap64 (x68_2 + 1)) a1_1 a0_1 a1_0 a0_1 a1_1 a0_0 t224 t225 ji68 (mx x228001_2 (wrap64 (t230 - (wrap64 (t232 * 1000000000)))))) = some (r1, r2, r3) := by first | (rw [hji68] at H; exact H) | (simp only [hji68] at H ⊢; exact H)
          (try rw [hji68] at A66)
          (try rw [hji68] at A67)
          have hji68_ : (if (wrap64 (t229 - (wrap64 (t232 * 1000000000)))) < x228000_2 then (wrap64 (t229 - (wrap64 (t232 * 1000000000)))) else x228000_2) = ji68 := hji68
          obtain ⟨ji69, hji69⟩ : ∃ j_ : Int, (mx x228001_2 (wrap64 (t230 - (wrap64 (t232 * 1000000000))))) = j_ := ⟨_, rfl⟩
          replace H : (trig_Arc.l0 k2 (wrap64 (x68_2 + 1)) a1_1 a0_1 a1_0 a0_1 a1_1 a0_0 t224 t225 ji68 ji69) = some (r1, r2, r3) := by first | (rw [hji69] at H; exact H) | (simp only [hji69] at H ⊢; exact H)
          (try rw [hji69] at A66)
          (try rw [hji69] at A67)
          have hji69_ : (if x228001_2 < (wrap64 (t230 - (wrap64 (t232 * 1000000000)))) then (wrap64 (t230 - (wrap64 (t232 * 1000000000)))) else x228001_2) = ji69 := hji69
          have H' := Aside0.mk H
          clear H
          have p65 : 0 ≤ (x68_2 : Int) := of_decide_eq_true (by first | (with_reducible assumption) | assumption)
          have q65 : (x68_2 : Int) < (3 : Int) := of_decide_eq_true (by first | (with_reducible assumption) | assumption)
          have hx65 : ∀ W : World, (Instr.index 91 (.agg #[.int .i64 a0_0, .int .i64 a1_1, .int .i64 a0_1, .int .i64 a1_0, .int .i64 a0_1, .int .i64 a1_1]) (.int .i64 x68_2)).run Try.prog W = .ok (.agg #[.int .i64 (rd [a0_0, a0_1, a0_1] x68_2), .int .i64 (rd [a1_1, a1_0, a1_1] x68_2)]) W := fun W => arrIdx32_ Try.underlying91 Try.sizeOf90 Try.isAgg90 _ _ _ _ _ _ x68_2 p65 q65 W
          replace p65 := eq_true p65
          replace q65 := eq_true q65
          try go_wp2_with (first | ((with_reducible refine gate_dst (N := 11) rfl ?_); refine box_event ?hg (N := 11) ?hd (cs := #[.int .i64 0, .int .i64 0]) (t := 90) ?hr ?_; (case hd => rfl); (case hg => rfl); (case hr => first | (go_simp; done) | (go_simp; rfl)); intro gb228 hg w70 hbox hb; have BK228 := Aside0.mk (hbox); have GW228 := ge_ hg HB; have GE228 := ge_ hg HB; have NB219_228 := nl_ hg BK219; have NB228_219 := ng_ hg BK219; have NB220_228 := nl_ hg BK220; have NB228_220 := ng_ hg BK220; have NB221_228 := nl_ hg BK221; have NB228_221 := ng_ hg BK221; have NB226_228 := nl_ hg BK226; have NB228_226 := ng_ hg BK226; have NB227_228 := nl_ hg BK227; have NB228_227 := ng_ hg BK227; replace BK219 := kb_ BK219 hb; replace BK220 := kb_ BK220 hb; replace BK221 := kb_ BK221 hb; replace BK226 := kb_ BK226 hb; replace BK227 := kb_ BK227 hb; replace HB := bs_ HB hb; clear hb hbox hg; have hnb71 := NB228_219.out; have hnc71 := NB219_228.out; have hnb72 := NB228_220.out; have hnc72 := NB220_228.out; have hnb73 := NB228_221.out; have hnc73 := NB221_228.out; have hnb74 := NB228_226.out; have hnc74 := NB226_228.out; have hnb75 := NB228_227.out; have hnc75 := NB227_228.out; have hcz76_0 : w70.cell? ⟨gb228, 0, none⟩ = some (.int .i64 0) := (blk_cell BK228.out 0).trans rfl; have hcz76_1 : w70.cell? ⟨gb228, 1, none⟩ = some (.int .i64 0) := (blk_cell BK228.out 1).trans rfl; have hfz76_0 := blk_frozen BK228.out 0; have hfz76_1 := blk_frozen BK228.out 1) | ((with_reducible refine gate_callee (f := 108) rfl ?_); refine goesL_ (some 75) rfl rfl Try.func108 (by kernel_rfl) rfl #[.int .i64 (rd [a0_0, a0_1, a0_1] x68_2), .int .i64 (rd [a1_1, a1_0, a1_1] x68_2)] rfl (by (try simp only [List.map_toArray, List.map_cons, List.map_nil]); first | done | rfl | (simp only [List.length_drop, List.length_take]; rfl)) ?_; (with_reducible refine (trig_direction.calls k2 (rd [a0_0, a0_1, a0_1] x68_2) (rd [a1_1, a1_0, a1_1] x68_2) t229 t230 _ A66.out).mono ?_); rintro e w77 ⟨rfl, hb⟩; refine ⟨_, rfl, ?_⟩; have n0_ := kb_ BK219 hb; have n1_ := kb_ BK220 hb; have n2_ := kb_ BK221 hb; have n3_ := kb_ BK226 hb; have n4_ := kb_ BK227 hb; have n5_ := Aside0.mk (blk_below (g := gb228) (o := .cells #[.int .i64 (rd [a0_0, a0_1, a0_1] x68_2), .int .i64 (rd [a1_1, a1_0, a1_1] x68_2)] 90 (0, 0)) (by (with_reducible repeat (first | refine blk_drewN ?_ _ | refine blk_drew ?_ | refine blk_alloc ?_ _)); refine blk_put (cs := #[.int .i64 (rd [a0_0, a0_1, a0_1] x68_2), .int .i64 0]) ?_ 1 _ rfl; (with_reducible repeat (first | refine blk_drewN ?_ _ | refine blk_drew ?_ | refine blk_alloc ?_ _)); refine blk_put (cs := #[.int .i64 0, .int .i64 0]) ?_ 0 _ rfl; (with_reducible repeat (first | refine blk_drewN ?_ _ | refine blk_drew ?_ | refine blk_alloc ?_ _)); exact BK228.out) hb); have n6_ := bs_ HB hb; clear BK219; clear BK220; clear BK221; clear BK226; clear BK227; clear BK228; clear HB; have BK219 := n0_; have BK220 := n1_; have BK221 := n2_; have BK226 := n3_; have BK227 := n4_; have BK228 := n5_; have HB := n6_; clear n0_ n1_ n2_ n3_ n4_ n5_ n6_; (try clear hb); (try clear hb2); (try clear hk); (try clear hi)) | ((with_reducible refine gate_dst (N := 12) rfl ?_); refine box_event ?hg (N := 12) ?hd (cs := #[.int .i64 0, .int .i64 0]) (t := 23) ?hr ?_; (case hd => rfl); (case hg => rfl); (case hr => first | (go_simp; done) | (go_simp; rfl)); intro gb231 hg w78 hbox hb; have BK231 := Aside0.mk (hbox); have GW231 := ge_ hg HB; have GE231 := ge_ hg HB; have NB219_231 := nl_ hg BK219; have NB231_219 := ng_ hg BK219; have NB220_231 := nl_ hg BK220; have NB231_220 := ng_ hg BK220; have NB221_231 := nl_ hg BK221; have NB231_221 := ng_ hg BK221; have NB226_231 := nl_ hg BK226; have NB231_226 := ng_ hg BK226; have NB227_231 := nl_ hg BK227; have NB231_227 := ng_ hg BK227; have NB228_231 := nl_ hg BK228; have NB231_228 := ng_ hg BK228; replace BK219 := kb_ BK219 hb; replace BK220 := kb_ BK220 hb; replace BK221 := kb_ BK221 hb; replace BK226 := kb_ BK226 hb; replace BK227 := kb_ BK227 hb; replace BK228 := kb_ BK228 hb; replace HB := bs_ HB hb; clear hb hbox hg; have hnb79 := NB231_219.out; have hnc79 := NB219_231.out; have hnb80 := NB231_220.out; have hnc80 := NB220_231.out; have hnb81 := NB231_221.out; have hnc81 := NB221_231.out; have hnb82 := NB231_226.out; have hnc82 := NB226_231.out; have hnb83 := NB231_227.out; have hnc83 := NB227_231.out; have hnb84 := NB231_228.out; have hnc84 := NB228_231.out; have hcz85_0 : w78.cell? ⟨gb231, 0, none⟩ = some (.int .i64 0) := (blk_cell BK231.out 0).trans rfl; have hcz85_1 : w78.cell? ⟨gb231, 1, none⟩ = some (.int .i64 0) := (blk_cell BK231.out 1).trans rfl; have hfz85_0 := blk_frozen BK231.out 0; have hfz85_1 := blk_frozen BK231.out 1; have hnb86 := NB226_219.out; have hnc86 := NB219_226.out; have hnb87 := NB226_220.out; have hnc87 := NB220_226.out; have hnb88 := NB226_221.out; have hnc88 := NB221_226.out; have hnb89 := NB226_227.out; have hnc89 := NB227_226.out; have hcz90_0 : w78.cell? ⟨gb226, 0, none⟩ = some (.int .i64 t224) := (blk_cell BK226.out 0).trans rfl; have hcz90_1 : w78.cell? ⟨gb226, 1, none⟩ = some (.int .i64 t225) := (blk_cell BK226.out 1).trans rfl; have hfz90_0 := blk_frozen BK226.out 0; have hfz90_1 := blk_frozen BK226.out 1) | ((with_reducible refine gate_callee (f := 93) rfl ?_); refine goesL_ (some 82) rfl rfl Try.func93 (by kernel_rfl) rfl #[.int .i64 (wrap64 ((wrap64 (t229 - t224)) + 500000000)), .int .i64 1000000000] rfl (by (try simp only [List.map_toArray, List.map_cons, List.map_nil]); first | done | rfl | (simp only [List.length_drop, List.length_take]; rfl)) ?_; (with_reducible refine (interval_Floor.calls (wrap64 ((wrap64 (t229 - t224)) + 500000000)) 1000000000 t232 _ A67.out).mono ?_); rintro e w' ⟨rfl, ⟨nd, rfl⟩⟩; refine ⟨_, rfl, ?_⟩))
          have n0_ : Aside0 (((w78.setCell ⟨gb231, 0, none⟩ (.int .i64 t229)).setCell ⟨gb231, 1, none⟩ (.int .i64 t230)).heap[gb219]? = some (.cells #[.int .i64 a0_0, .int .i64 a0_1] 23 (0, 0))) := ⟨kk_ BK219⟩
          have n1_ : Aside0 (((w78.setCell ⟨gb231, 0, none⟩ (.int .i64 t229)).setCell ⟨gb231, 1, none⟩ (.int .i64 t230)).heap[gb220]? = some (.cells #[.int .i64 a1_0, .int .i64 a1_1] 23 (0, 0))) := ⟨kk_ BK220⟩
          have n2_ : Aside0 (((w78.setCell ⟨gb231, 0, none⟩ (.int .i64 t229)).setCell ⟨gb231, 1, none⟩ (.int .i64 t230)).heap[gb221]? = some (.cells #[.int .i64 0, .int .i64 0] 23 (0, 0))) := ⟨kk_ BK221⟩
          have n3_ : Aside0 (((w78.setCell ⟨gb231, 0, none⟩ (.int .i64 t229)).setCell ⟨gb231, 1, none⟩ (.int .i64 t230)).heap[gb226]? = some (.cells #[.int .i64 t224, .int .i64 t225] 23 (0, 0))) := ⟨kk_ BK226⟩
          have n4_ : Aside0 (((w78.setCell ⟨gb231, 0, none⟩ (.int .i64 t229)).setCell ⟨gb231, 1, none⟩ (.int .i64 t230)).heap[gb227]? = some (.cells #[.int .i64 x228000_2, .int .i64 x228001_2] 23 (0, 0))) := ⟨kk_ BK227⟩
          have n5_ : Aside0 (((w78.setCell ⟨gb231, 0, none⟩ (.int .i64 t229)).setCell ⟨gb231, 1, none⟩ (.int .i64 t230)).heap[gb228]? = some (.cells #[.int .i64 (rd [a0_0, a0_1, a0_1] x68_2), .int .i64 (rd [a1_1, a1_0, a1_1] x68_2)] 90 (0, 0))) := ⟨kk_ BK228⟩
          have n6_ : Aside0 (((w78.setCell ⟨gb231, 0, none⟩ (.int .i64 t229)).setCell ⟨gb231, 1, none⟩ (.int .i64 t230)).heap[gb231]? = some (.cells #[.int .i64 t229, .int .i64 t230] 23 (0, 0))) := ⟨by (with_reducible repeat (first | refine blk_drewN ?_ _ | refine blk_drew ?_ | refine blk_alloc ?_ _)); refine blk_put (cs := #[.int .i64 t229, .int .i64 0]) ?_ 1 _ rfl; (with_reducible repeat (first | refine blk_drewN ?_ _ | refine blk_drew ?_ | refine blk_alloc ?_ _)); refine blk_put (cs := #[.int .i64 0, .int .i64 0]) ?_ 0 _ rfl; (with_reducible repeat (first | refine blk_drewN ?_ _ | refine blk_drew ?_ | refine blk_alloc ?_ _)); exact BK231.out⟩
          have n7_ : Aside0 (Below w.heap.size w ((w78.setCell ⟨gb231, 0, none⟩ (.int .i64 t229)).setCell ⟨gb231, 1, none⟩ (.int .i64 t230))) := (be_ HB)
          (try clear BK219)
          (try clear BK220)
          (try clear BK221)
          (try clear BK226)
          (try clear BK227)
          (try clear BK228)
          (try clear BK231)
          (try clear HB)
          generalize ((w78.setCell ⟨gb231, 0, none⟩ (.int .i64 t229)).setCell ⟨gb231, 1, none⟩ (.int .i64 t230)) = w91 at n0_ n1_ n2_ n3_ n4_ n5_ n6_ n7_ ⊢
          have BK219 := n0_
          have BK220 := n1_
          have BK221 := n2_
          have BK226 := n3_
          have BK227 := n4_
          have BK228 := n5_
          have BK231 := n6_
          have HB := n7_
          clear n0_ n1_ n2_ n3_ n4_ n5_ n6_ n7_
          (try (rw [drewN_self w91]; generalize hq_ : World.drewN w91 _ = w91; have n0_ : Aside0 (w91.heap[gb219]? = some (.cells #[.int .i64 a0_0, .int .i64 a0_1] 23 (0, 0))) := ⟨by rw [← hq_]; exact (kk_ BK219)⟩; have n1_ : Aside0 (w91.heap[gb220]? = some (.cells #[.int .i64 a1_0, .int .i64 a1_1] 23 (0, 0))) := ⟨by rw [← hq_]; exact (kk_ BK220)⟩; have n2_ : Aside0 (w91.heap[gb221]? = some (.cells #[.int .i64 0, .int .i64 0] 23 (0, 0))) := ⟨by rw [← hq_]; exact (kk_ BK221)⟩; have n3_ : Aside0 (w91.heap[gb226]? = some (.cells #[.int .i64 t224, .int .i64 t225] 23 (0, 0))) := ⟨by rw [← hq_]; exact (kk_ BK226)⟩; have n4_ : Aside0 (w91.heap[gb227]? = some (.cells #[.int .i64 x228000_2, .int .i64 x228001_2] 23 (0, 0))) := ⟨by rw [← hq_]; exact (kk_ BK227)⟩; have n5_ : Aside0 (w91.heap[gb228]? = some (.cells #[.int .i64 (rd [a0_0, a0_1, a0_1] x68_2), .int .i64 (rd [a1_1, a1_0, a1_1] x68_2)] 90 (0, 0))) := ⟨by rw [← hq_]; exact (kk_ BK228)⟩; have n6_ : Aside0 (w91.heap[gb231]? = some (.cells #[.int .i64 t229, .int .i64 t230] 23 (0, 0))) := ⟨by rw [← hq_]; exact (kk_ BK231)⟩; have n7_ : Aside0 (Below w.heap.size w w91) := ⟨by rw [← hq_]; exact (be_ HB).out⟩; clear BK219 BK220 BK221 BK226 BK227 BK228 BK231 HB hq_; have BK219 := n0_; have BK220 := n1_; have BK221 := n2_; have BK226 := n3_; have BK227 := n4_; have BK228 := n5_; have BK231 := n6_; have HB := n7_; clear n0_ n1_ n2_ n3_ n4_ n5_ n6_ n7_; have hcy219_0 : w91.cell? ⟨gb219, 0, none⟩ = some (.int .i64 a0_0) := (blk_cell BK219.out 0).trans rfl; have hfy219_0 := blk_frozen BK219.out 0; have hcy219_1 : w91.cell? ⟨gb219, 1, none⟩ = some (.int .i64 a0_1) := (blk_cell BK219.out 1).trans rfl; have hfy219_1 := blk_frozen BK219.out 1; have hcy220_0 : w91.cell? ⟨gb220, 0, none⟩ = some (.int .i64 a1_0) := (blk_cell BK220.out 0).trans rfl; have hfy220_0 := blk_frozen BK220.out 0; have hcy220_1 : w91.cell? ⟨gb220, 1, none⟩ = some (.int .i64 a1_1) := (blk_cell BK220.out 1).trans rfl; have hfy220_1 := blk_frozen BK220.out 1; have hcy221_0 : w91.cell? ⟨gb221, 0, none⟩ = some (.int .i64 0) := (blk_cell BK221.out 0).trans rfl; have hfy221_0 := blk_frozen BK221.out 0; have hcy221_1 : w91.cell? ⟨gb221, 1, none⟩ = some (.int .i64 0) := (blk_cell BK221.out 1).trans rfl; have hfy221_1 := blk_frozen BK221.out 1; have hcy226_0 : w91.cell? ⟨gb226, 0, none⟩ = some (.int .i64 t224) := (blk_cell BK226.out 0).trans rfl; have hfy226_0 := blk_frozen BK226.out 0; have hcy226_1 : w91.cell? ⟨gb226, 1, none⟩ = some (.int .i64 t225) := (blk_cell BK226.out 1).trans rfl; have hfy226_1 := blk_frozen BK226.out 1; have hcy227_0 : w91.cell? ⟨gb227, 0, none⟩ = some (.int .i64 x228000_2) := (blk_cell BK227.out 0).trans rfl; have hfy227_0 := blk_frozen BK227.out 0; have hcy227_1 : w91.cell? ⟨gb227, 1, none⟩ = some (.int .i64 x228001_2) := (blk_cell BK227.out 1).trans rfl; have hfy227_1 := blk_frozen BK227.out 1; have hcy228_0 : w91.cell? ⟨gb228, 0, none⟩ = some (.int .i64 (rd [a0_0, a0_1, a0_1] x68_2)) := (blk_cell BK228.out 0).trans rfl; have hfy228_0 := blk_frozen BK228.out 0; have hcy228_1 : w91.cell? ⟨gb228, 1, none⟩ = some (.int .i64 (rd [a1_1, a1_0, a1_1] x68_2)) := (blk_cell BK228.out 1).trans rfl; have hfy228_1 := blk_frozen BK228.out 1; have hcy231_0 : w91.cell? ⟨gb231, 0, none⟩ = some (.int .i64 t229) := (blk_cell BK231.out 0).trans rfl; have hfy231_0 := blk_frozen BK231.out 0; have hcy231_1 : w91.cell? ⟨gb231, 1, none⟩ = some (.int .i64 t230) := (blk_cell BK231.out 1).trans rfl; have hfy231_1 := blk_frozen BK231.out 1))
          replace BK219 := Aside0.mk (blk_drew BK219.out)
          replace BK220 := Aside0.mk (blk_drew BK220.out)
          replace BK221 := Aside0.mk (blk_drew BK221.out)
          replace BK226 := Aside0.mk (blk_drew BK226.out)
          replace BK227 := Aside0.mk (blk_drew BK227.out)
          replace BK228 := Aside0.mk (blk_drew BK228.out)
          replace BK231 := Aside0.mk (blk_drew BK231.out)
          replace HB := Aside0.mk (below_drew1 HB.out)
          refine start_ (n := 18) (S := fun w' => w'.cell? ⟨gb227, 0, none⟩ = some (.int .i64 x228000_2) ∧ w'.cell? ⟨gb227, 1, none⟩ = some (.int .i64 x228001_2) ∧ w'.cell? ⟨gb231, 0, none⟩ = some (.int .i64 t229) ∧ w'.cell? ⟨gb231, 1, none⟩ = some (.int .i64 t230)) (ds := [15, 17]) #[false, false, false, false, false, false, false, false, false, false, false, false, false, false, false, false, false, false] (by kernel_rfl) rfl rfl ⟨(blk_cell BK227.out 0).trans rfl, (blk_cell BK227.out 1).trans rfl, (blk_cell BK231.out 0).trans rfl, (blk_cell BK231.out 1).trans rfl⟩ (fun hHeld => ?_); refine with_tabW trig_Arc.tab16 trig_Arc.bits16 (fun HT_ HW_ => ?_)
          generalize w91.drew = w92 at BK219 BK220 BK221 BK226 BK227 BK228 BK231 HB hHeld ⊢
          refine pure_ (i := 0) (N := some 84) (v := ?_) (a' := ?_) #[true, false, false, false, false, false, false, false, false, false, false, false, false, false, false, false, false, false] rfl rfl (any_of HT_.out (by kernel_rfl)) (fun _ _ _ h => h) (Or.inl ⟨by rfl, ?_⟩) ?_ ?_
          rotate_left
          ·intro w'
           go_simp
           with_reducible rfl
          rotate_left
          ·simp only [Act.put, List.setIfInBounds_toArray, List.set_cons_zero, List.set_cons_succ, i64_w, i32_w]
           rfl
          refine pure_ (i := 2) (N := some 86) (v := ?_) (a' := ?_) #[true, false, true, false, false, false, false, false, false, false, false, false, false, false, false, false, false, false] rfl rfl (any_of HT_.out (by kernel_rfl)) (fun _ _ _ h => h) (Or.inl ⟨by rfl, ?_⟩) ?_ ?_
          rotate_left
          ·intro w'
           go_simp
           with_reducible rfl
          rotate_left
          ·simp only [Act.put, List.setIfInBounds_toArray, List.set_cons_zero, List.set_cons_succ, i64_w, i32_w]
           rfl
          refine pure_ (i := 4) (N := some 88) (v := ?_) (a' := ?_) #[true, false, true, false, true, false, false, false, false, false, false, false, false, false, false, false, false, false] rfl rfl (any_of HT_.out (by kernel_rfl)) (fun _ _ _ h => h) (Or.inl ⟨by rfl, ?_⟩) ?_ ?_
          rotate_left
          ·intro w'
           go_simp
           with_reducible rfl
          rotate_left
          ·simp only [Act.put, List.setIfInBounds_toArray, List.set_cons_zero, List.set_cons_succ, i64_w, i32_w]
           rfl
          refine pure_ (i := 7) (N := some 91) (v := ?_) (a' := ?_) #[true, false, true, false, true, false, false, true, false, false, false, false, false, false, false, false, false, false] rfl rfl (any_of HT_.out (by kernel_rfl)) (fun _ _ _ h => h) (Or.inl ⟨by rfl, ?_⟩) ?_ ?_
          rotate_left
          ·intro w'
           go_simp
           with_reducible rfl
          rotate_left
          ·simp only [Act.put, List.setIfInBounds_toArray, List.set_cons_zero, List.set_cons_succ, i64_w, i32_w]
           rfl
          refine pure_ (i := 9) (N := some 93) (v := ?_) (a' := ?_) #[true, false, true, false, true, false, false, true, false, true, false, false, false, false, false, false, false, false] rfl rfl (any_of HT_.out (by kernel_rfl)) (fun _ _ _ h => h) (Or.inl ⟨by rfl, ?_⟩) ?_ ?_
          rotate_left
          ·intro w'
           go_simp
           with_reducible rfl
          rotate_left
          ·simp only [Act.put, List.setIfInBounds_toArray, List.set_cons_zero, List.set_cons_succ, i64_w, i32_w]
           rfl
          refine pure_ (i := 11) (N := some 95) (v := ?_) (a' := ?_) #[true, false, true, false, true, false, false, true, false, true, false, true, false, false, false, false, false, false] rfl rfl (any_of HT_.out (by kernel_rfl)) (fun _ _ _ h => h) (Or.inl ⟨by rfl, ?_⟩) ?_ ?_
          rotate_left
          ·intro w'
           go_simp
           with_reducible rfl
          rotate_left
          ·simp only [Act.put, List.setIfInBounds_toArray, List.set_cons_zero, List.set_cons_succ, i64_w, i32_w]
           rfl
          refine take_ (i := 1) (N := some 85) (v := ?_) (a' := ?_) #[true, true, true, false, true, false, false, true, false, true, false, true, false, false, false, false, false, false] rfl rfl (take_ofW HT_.out HW_.out (by kernel_rfl)) (fun _ _ _ h => h) (Or.inl ⟨by rfl, ?_⟩) hHeld ?_ ?_
          rotate_left
          ·rintro w' ⟨s0, s1, s2, s3⟩
           go_simp
           with_reducible rfl
          rotate_left
          ·simp only [Act.put, List.setIfInBounds_toArray, List.set_cons_zero, List.set_cons_succ, i64_w, i32_w]
           rfl
          refine take_ (i := 3) (N := some 87) (v := ?_) (a' := ?_) #[true, true, true, true, true, false, false, true, false, true, false, true, false, false, false, false, false, false] rfl rfl (take_ofW HT_.out HW_.out (by kernel_rfl)) (fun _ _ _ h => h) (Or.inl ⟨by rfl, ?_⟩) hHeld ?_ ?_
          rotate_left
          ·rintro w' ⟨s0, s1, s2, s3⟩
           go_simp
           with_reducible rfl
          rotate_left
          ·simp only [Act.put, List.setIfInBounds_toArray, List.set_cons_zero, List.set_cons_succ, i64_w, i32_w]
           rfl
          refine pure_ (i := 5) (N := some 89) (v := ?_) (a' := ?_) #[true, true, true, true, true, true, false, true, false, true, false, true, false, false, false, false, false, false] rfl rfl (any_of HT_.out (by kernel_rfl)) (fun _ _ _ h => h) (Or.inl ⟨by rfl, ?_⟩) ?_ ?_
          rotate_left
          ·intro w'
           go_simp
           with_reducible rfl
          rotate_left
          ·simp only [Act.put, List.setIfInBounds_toArray, List.set_cons_zero, List.set_cons_succ, i64_w, i32_w]
           rfl
          refine pure_ (i := 6) (N := some 90) (v := ?_) (a' := ?_) #[true, true, true, true, true, true, true, true, false, true, false, true, false, false, false, false, false, false] rfl rfl (any_of HT_.out (by kernel_rfl)) (fun _ _ _ h => h) (Or.inl ⟨by rfl, ?_⟩) ?_ ?_
          rotate_left
          ·intro w'
           go_simp
           with_reducible rfl
          rotate_left
          ·simp only [Act.put, List.setIfInBounds_toArray, List.set_cons_zero, List.set_cons_succ, i64_w, i32_w]
           rfl
          refine take_ (i := 8) (N := some 92) (v := ?_) (a' := ?_) #[true, true, true, true, true, true, true, true, true, true, false, true, false, false, false, false, false, false] rfl rfl (take_ofW HT_.out HW_.out (by kernel_rfl)) (fun _ _ _ h => h) (Or.inl ⟨by rfl, ?_⟩) hHeld ?_ ?_
          rotate_left
          ·rintro w' ⟨s0, s1, s2, s3⟩
           go_simp
           with_reducible rfl
          rotate_left
          ·simp only [Act.put, List.setIfInBounds_toArray, List.set_cons_zero, List.set_cons_succ, i64_w, i32_w]
           rfl
          refine pure_ (i := 14) (N := some 98) (v := ?_) (a' := ?_) #[true, true, true, true, true, true, true, true, true, true, false, true, false, false, true, false, false, false] rfl rfl (any_of HT_.out (by kernel_rfl)) (fun _ _ _ h => h) (Or.inl ⟨by rfl, ?_⟩) ?_ ?_
          rotate_left
          ·intro w'
           go_simp
           with_reducible rfl
          rotate_left
          ·simp only [Act.put, List.setIfInBounds_toArray, List.set_cons_zero, List.set_cons_succ, i64_w, i32_w]
           rfl
          try simp only [] at hHeld
          obtain ⟨s0, s1, s2, s3⟩ := hHeld
          apply mergeQ_
          ·intro hQ
           refine readyQ_ [10, 15] (by kernel_rfl) (by simp) (consQ_ (i := 10) (N := some 94) #[true, true, true, true, true, true, true, true, true, true, true, true, false, false, true, false, false, false] rfl rfl (by kernel_rfl) (fun K hK => ?_) (consL_ (i := 15) (N := none) #[true, true, true, true, true, true, true, true, true, true, false, true, false, false, true, true, false, false] rfl rfl (by kernel_rfl) (by decide) (fun K hK => ?_) AllReadyL.nil))
           ·skip
            refine value_ (w1 := ?_) (v := ?_) (by rfl) rfl ?_ ?_
            rotate_left 2
            ·go_simp
             constructor
             ·rfl
             ·rfl
            refine hK.out _ _ (fun h_ => h_) ?_
            clear hK K
            refine norm_ (a' := ?_) ?_ ?_
            rotate_left
            ·show Act.put _ (some 94) _ = _
             simp only [Act.put, List.setIfInBounds_toArray, List.set_cons_zero, List.set_cons_succ, i64_w, i32_w]
             rfl
            refine pure_ (i := 12) (N := some 96) (v := ?_) (a' := ?_) #[true, true, true, true, true, true, true, true, true, true, true, true, true, false, true, false, false, false] rfl rfl (any_of HT_.out (by kernel_rfl)) (fun _ _ _ h => h) (Or.inl ⟨by rfl, ?_⟩) ?_ ?_
            rotate_left
            ·intro w'
             go_simp
             with_reducible rfl
            rotate_left
            ·simp only [Act.put, List.setIfInBounds_toArray, List.set_cons_zero, List.set_cons_succ, i64_w, i32_w]
             rfl
            refine pure_ (i := 13) (N := some 97) (v := ?_) (a' := ?_) #[true, true, true, true, true, true, true, true, true, true, true, true, true, true, true, false, false, false] rfl rfl (any_of HT_.out (by kernel_rfl)) (fun _ _ _ h => h) (Or.inl ⟨by rfl, ?_⟩) ?_ ?_
            rotate_left
            ·intro w'
             go_simp
             with_reducible rfl
            rotate_left
            ·simp only [Act.put, List.setIfInBounds_toArray, List.set_cons_zero, List.set_cons_succ, i64_w, i32_w]
             rfl
            refine readyQ_ [15] (by kernel_rfl) (by simp) (consL_ (i := 15) (N := none) #[true, true, true, true, true, true, true, true, true, true, true, true, true, true, true, true, false, false] rfl rfl (by kernel_rfl) (by decide) (fun K hK => ?_) AllReadyL.nil)
            have hs93 : w92.cell? ⟨gb227, 0, none⟩ = some (.int .i64 x228000_2) := (blk_cell BK227.out 0).trans rfl
            have hfs93 := blk_frozen BK227.out 0
            have hns93_0 := NB219_227.out
            have hns93_1 := NB220_227.out
            have hns93_2 := NB221_227.out
            have hns93_3 := NB226_227.out
            have hns93_5 := NB228_227.out
            have hns93_6 := NB231_227.out
            have hms93_0 := NB227_219.out
            have hms93_1 := NB227_220.out
            have hms93_2 := NB227_221.out
            have hms93_3 := NB227_226.out
            have hms93_5 := NB227_228.out
            have hms93_6 := NB227_231.out
            refine skip_ (w1 := ?_) (by rfl) rfl ?_ ?_
            rotate_left
            ·go_simp
             rfl
            refine hK.out _ _ ?_
            clear hK K
            refine pure_ (i := 16) (N := some 99) (v := ?_) (a' := ?_) #[true, true, true, true, true, true, true, true, true, true, true, true, true, true, true, true, true, false] rfl rfl (any_of HT_.out (by kernel_rfl)) (fun _ _ _ h => h) (Or.inl ⟨by rfl, ?_⟩) ?_ ?_
            rotate_left
            ·intro w'
             go_simp
             with_reducible rfl
            rotate_left
            ·simp only [Act.put, List.setIfInBounds_toArray, List.set_cons_zero, List.set_cons_succ, i64_w, i32_w]
             rfl
            refine readyQ_ [17] (by kernel_rfl) (by simp) (consL_ (i := 17) (N := none) #[true, true, true, true, true, true, true, true, true, true, true, true, true, true, true, true, true, true] rfl rfl (by kernel_rfl) (by decide) (fun K hK => ?_) AllReadyL.nil)
            have hs94 : w92.cell? ⟨gb227, 1, none⟩ = some (.int .i64 x228001_2) := (blk_cell BK227.out 1).trans rfl
            have hfs94 := blk_frozen BK227.out 1
            have hns94_0 := NB219_227.out
            have hns94_1 := NB220_227.out
            have hns94_2 := NB221_227.out
            have hns94_3 := NB226_227.out
            have hns94_5 := NB228_227.out
            have hns94_6 := NB231_227.out
            have hms94_0 := NB227_219.out
            have hms94_1 := NB227_220.out
            have hms94_2 := NB227_221.out
            have hms94_3 := NB227_226.out
            have hms94_5 := NB227_228.out
            have hms94_6 := NB227_231.out
            refine skip_ (w1 := ?_) (by rfl) rfl ?_ ?_
            rotate_left
            ·go_simp
             rfl
            refine hK.out _ _ ?_
            clear hK K
            exact hQ
           ·skip
            have hs93 : w92.cell? ⟨gb227, 0, none⟩ = some (.int .i64 x228000_2) := (blk_cell BK227.out 0).trans rfl
            have hfs93 := blk_frozen BK227.out 0
            have hns93_0 := NB219_227.out
            have hns93_1 := NB220_227.out
            have hns93_2 := NB221_227.out
            have hns93_3 := NB226_227.out
            have hns93_5 := NB228_227.out
            have hns93_6 := NB231_227.out
            have hms93_0 := NB227_219.out
            have hms93_1 := NB227_220.out
            have hms93_2 := NB227_221.out
            have hms93_3 := NB227_226.out
            have hms93_5 := NB227_228.out
            have hms93_6 := NB227_231.out
            refine skip_ (w1 := ?_) (by rfl) rfl ?_ ?_
            rotate_left
            ·go_simp
             rfl
            refine hK.out _ _ ?_
            clear hK K
            refine readyQ_ [10] (by kernel_rfl) (by simp) (consQ_ (i := 10) (N := some 94) #[true, true, true, true, true, true, true, true, true, true, true, true, false, false, true, true, false, false] rfl rfl (by kernel_rfl) (fun K hK => ?_) AllReadyL.nil)
            refine value_ (w1 := ?_) (v := ?_) (by rfl) rfl ?_ ?_
            rotate_left 2
            ·go_simp
             constructor
             ·rfl
             ·rfl
            refine hK.out _ _ (fun h_ => h_) ?_
            clear hK K
            refine norm_ (a' := ?_) ?_ ?_
            rotate_left
            ·show Act.put _ (some 94) _ = _
             simp only [Act.put, List.setIfInBounds_toArray, List.set_cons_zero, List.set_cons_succ, i64_w, i32_w]
             rfl
            refine pure_ (i := 12) (N := some 96) (v := ?_) (a' := ?_) #[true, true, true, true, true, true, true, true, true, true, true, true, true, false, true, true, false, false] rfl rfl (any_of HT_.out (by kernel_rfl)) (fun _ _ _ h => h) (Or.inl ⟨by rfl, ?_⟩) ?_ ?_
            rotate_left
            ·intro w'
             go_simp
             with_reducible rfl
            rotate_left
            ·simp only [Act.put, List.setIfInBounds_toArray, List.set_cons_zero, List.set_cons_succ, i64_w, i32_w]
             rfl
            refine pure_ (i := 13) (N := some 97) (v := ?_) (a' := ?_) #[true, true, true, true, true, true, true, true, true, true, true, true, true, true, true, true, false, false] rfl rfl (any_of HT_.out (by kernel_rfl)) (fun _ _ _ h => h) (Or.inl ⟨by rfl, ?_⟩) ?_ ?_
            rotate_left
            ·intro w'
             go_simp
             with_reducible rfl
            rotate_left
            ·simp only [Act.put, List.setIfInBounds_toArray, List.set_cons_zero, List.set_cons_succ, i64_w, i32_w]
             rfl
            refine pure_ (i := 16) (N := some 99) (v := ?_) (a' := ?_) #[true, true, true, true, true, true, true, true, true, true, true, true, true, true, true, true, true, false] rfl rfl (any_of HT_.out (by kernel_rfl)) (fun _ _ _ h => h) (Or.inl ⟨by rfl, ?_⟩) ?_ ?_
            rotate_left
            ·intro w'
             go_simp
             with_reducible rfl
            rotate_left
            ·simp only [Act.put, List.setIfInBounds_toArray, List.set_cons_zero, List.set_cons_succ, i64_w, i32_w]
             rfl
            refine readyQ_ [17] (by kernel_rfl) (by simp) (consL_ (i := 17) (N := none) #[true, true, true, true, true, true, true, true, true, true, true, true, true, true, true, true, true, true] rfl rfl (by kernel_rfl) (by decide) (fun K hK => ?_) AllReadyL.nil)
            have hs94 : w92.cell? ⟨gb227, 1, none⟩ = some (.int .i64 x228001_2) := (blk_cell BK227.out 1).trans rfl
            have hfs94 := blk_frozen BK227.out 1
            have hns94_0 := NB219_227.out
            have hns94_1 := NB220_227.out
            have hns94_2 := NB221_227.out
            have hns94_3 := NB226_227.out
            have hns94_5 := NB228_227.out
            have hns94_6 := NB231_227.out
            have hms94_0 := NB227_219.out
            have hms94_1 := NB227_220.out
            have hms94_2 := NB227_221.out
            have hms94_3 := NB227_226.out
            have hms94_5 := NB227_228.out
            have hms94_6 := NB227_231.out
            refine skip_ (w1 := ?_) (by rfl) rfl ?_ ?_
            rotate_left
            ·go_simp
             rfl
            refine hK.out _ _ ?_
            clear hK K
            exact hQ
          refine done_ (done_of HT_.out (by kernel_rfl)) ?_
          try go_wp2
          go_roundg k2
          case measure => have := HJ14.out; have := HK2.out; omega
          case rel => exact ⟨(wrap64 (x68_2 + 1)), (ji68), (ji69), (by first | rfl | (simp; done) | (simp [*]; done)), H', ⟨by have := HJ14.out; have := HK2.out; omega⟩, ⟨kk_ BK219⟩, ⟨kk_ BK220⟩, ⟨kk_ BK221⟩, ⟨kk_ BK226⟩, ⟨by (with_reducible repeat (first | refine blk_drewN ?_ _ | refine blk_drew ?_ | refine blk_alloc ?_ _)); refine blk_put (cs := #[.int .i64 ji68, .int .i64 x228001_2]) ?_ 1 _ rfl; (with_reducible repeat (first | refine blk_drewN ?_ _ | refine blk_drew ?_ | refine blk_alloc ?_ _)); refine blk_put (cs := #[.int .i64 x228000_2, .int .i64 x228001_2]) ?_ 0 _ rfl; (with_reducible repeat (first | refine blk_drewN ?_ _ | refine blk_drew ?_ | refine blk_alloc ?_ _)); exact BK227.out⟩, (be_ HB)⟩
         ·rw [if_neg c64] at H
          exact absurd H (by simp)
        ·rw [if_neg c63] at H
         have c63b0 : decide (x68_2 < 3) = false := decide_eq_false c63
         clear c63
         by_cases c95 : (wrap64 (x228001_2 - x228000_2)) > 400000000
         ·rw [if_pos c95] at H
          have c95b0 : decide (400000000 < (wrap64 (x228001_2 - x228000_2))) = true := decide_eq_true c95
          clear c95
          simp only [Option.some.injEq, Prod.mk.injEq] at H
          obtain ⟨rfl, rfl, rfl⟩ := H
          have hnb96 := NB227_219.out
          have hnc96 := NB219_227.out
          have hnb97 := NB227_220.out
          have hnc97 := NB220_227.out
          have hnb98 := NB227_221.out
          have hnc98 := NB221_227.out
          have hnb99 := NB227_226.out
          have hnc99 := NB226_227.out
          have hcz100_0 : wr.cell? ⟨gb227, 0, none⟩ = some (.int .i64 x228000_2) := (blk_cell BK227.out 0).trans rfl
          have hcz100_1 : wr.cell? ⟨gb227, 1, none⟩ = some (.int .i64 x228001_2) := (blk_cell BK227.out 1).trans rfl
          have hfz100_0 := blk_frozen BK227.out 0
          have hfz100_1 := blk_frozen BK227.out 1
          have hnb101 := NB221_219.out
          have hnc101 := NB219_221.out
          have hnb102 := NB221_220.out
          have hnc102 := NB220_221.out
          have hnb103 := NB221_226.out
          have hnc103 := NB226_221.out
          have hcz104_0 : wr.cell? ⟨gb221, 0, none⟩ = some (.int .i64 0) := (blk_cell BK221.out 0).trans rfl
          have hcz104_1 : wr.cell? ⟨gb221, 1, none⟩ = some (.int .i64 0) := (blk_cell BK221.out 1).trans rfl
          have hfz104_0 := blk_frozen BK221.out 0
          have hfz104_1 := blk_frozen BK221.out 1
          go_wp2
          refine bodyPost_ret (results_ct rfl _ _ gb221 23 #[.int .i64 0, .int .i64 0] (0, 0) _ rfl (by (with_reducible repeat (first | refine blk_drewN ?_ _ | refine blk_drew ?_ | refine blk_alloc ?_ _)); refine blk_put (cs := #[.int .i64 0, .int .i64 0]) ?_ 1 _ rfl; (with_reducible repeat (first | refine blk_drewN ?_ _ | refine blk_drew ?_ | refine blk_alloc ?_ _)); refine blk_put (cs := #[.int .i64 0, .int .i64 0]) ?_ 0 _ rfl; (with_reducible repeat (first | refine blk_drewN ?_ _ | refine blk_drew ?_ | refine blk_alloc ?_ _)); exact BK221.out) Try.underlying23 rfl (by kernel_rfl)) rfl ?_
          exact ⟨by first | rfl | (simp [errW_none, errW_some] <;> rfl) | (simp [*, errW_none, errW_some] <;> rfl), (be_ HB).out⟩
         ·rw [if_neg c95] at H
          have c95b0 : decide (400000000 < (wrap64 (x228001_2 - x228000_2))) = false := decide_eq_false c95
          clear c95
          replace H := Option.bind_eq_some_iff.mp H
          obtain ⟨t233, A1050, H⟩ := H
          replace H : (some (wrap64 (x228000_2 - (wrap64 (t233 * 1000000000))), wrap64 (x228001_2 - (wrap64 (t233 * 1000000000))), 0)) = some (r1, r2, r3) := H
          have A105 := Aside0.mk A1050
          clear A1050
          simp only [Option.some.injEq, Prod.mk.injEq] at H
          obtain ⟨rfl, rfl, rfl⟩ := H
          have hnb106 := NB227_219.out
          have hnc106 := NB219_227.out
          have hnb107 := NB227_220.out
          have hnc107 := NB220_227.out
          have hnb108 := NB227_221.out
          have hnc108 := NB221_227.out
          have hnb109 := NB227_226.out
          have hnc109 := NB226_227.out
          have hcz110_0 : wr.cell? ⟨gb227, 0, none⟩ = some (.int .i64 x228000_2) := (blk_cell BK227.out 0).trans rfl
          have hcz110_1 : wr.cell? ⟨gb227, 1, none⟩ = some (.int .i64 x228001_2) := (blk_cell BK227.out 1).trans rfl
          have hfz110_0 := blk_frozen BK227.out 0
          have hfz110_1 := blk_frozen BK227.out 1
          go_wp2_with (first | ((with_reducible refine gate_callee (f := 93) rfl ?_); refine goesL_ (some 110) rfl rfl Try.func93 (by kernel_rfl) rfl #[.int .i64 x228000_2, .int .i64 1000000000] rfl (by (try simp only [List.map_toArray, List.map_cons, List.map_nil]); first | done | rfl | (simp only [List.length_drop, List.length_take]; rfl)) ?_; (with_reducible refine (interval_Floor.calls x228000_2 1000000000 t233 _ A105.out).mono ?_); rintro e w' ⟨rfl, ⟨nd, rfl⟩⟩; refine ⟨_, rfl, ?_⟩; (try (rw [drewN_self wr]; generalize hq_ : World.drewN wr _ = wr; have n0_ : Aside0 (wr.heap[gb219]? = some (.cells #[.int .i64 a0_0, .int .i64 a0_1] 23 (0, 0))) := ⟨by rw [← hq_]; exact (kk_ BK219)⟩; have n1_ : Aside0 (wr.heap[gb220]? = some (.cells #[.int .i64 a1_0, .int .i64 a1_1] 23 (0, 0))) := ⟨by rw [← hq_]; exact (kk_ BK220)⟩; have n2_ : Aside0 (wr.heap[gb221]? = some (.cells #[.int .i64 0, .int .i64 0] 23 (0, 0))) := ⟨by rw [← hq_]; exact (kk_ BK221)⟩; have n3_ : Aside0 (wr.heap[gb226]? = some (.cells #[.int .i64 t224, .int .i64 t225] 23 (0, 0))) := ⟨by rw [← hq_]; exact (kk_ BK226)⟩; have n4_ : Aside0 (wr.heap[gb227]? = some (.cells #[.int .i64 x228000_2, .int .i64 x228001_2] 23 (0, 0))) := ⟨by rw [← hq_]; exact (kk_ BK227)⟩; have n5_ : Aside0 (Below w.heap.size w wr) := ⟨by rw [← hq_]; exact (be_ HB).out⟩; clear BK219 BK220 BK221 BK226 BK227 HB hq_; have BK219 := n0_; have BK220 := n1_; have BK221 := n2_; have BK226 := n3_; have BK227 := n4_; have HB := n5_; clear n0_ n1_ n2_ n3_ n4_ n5_; have hcy219_0 : wr.cell? ⟨gb219, 0, none⟩ = some (.int .i64 a0_0) := (blk_cell BK219.out 0).trans rfl; have hfy219_0 := blk_frozen BK219.out 0; have hcy219_1 : wr.cell? ⟨gb219, 1, none⟩ = some (.int .i64 a0_1) := (blk_cell BK219.out 1).trans rfl; have hfy219_1 := blk_frozen BK219.out 1; have hcy220_0 : wr.cell? ⟨gb220, 0, none⟩ = some (.int .i64 a1_0) := (blk_cell BK220.out 0).trans rfl; have hfy220_0 := blk_frozen BK220.out 0; have hcy220_1 : wr.cell? ⟨gb220, 1, none⟩ = some (.int .i64 a1_1) := (blk_cell BK220.out 1).trans rfl; have hfy220_1 := blk_frozen BK220.out 1; have hcy221_0 : wr.cell? ⟨gb221, 0, none⟩ = some (.int .i64 0) := (blk_cell BK221.out 0).trans rfl; have hfy221_0 := blk_frozen BK221.out 0; have hcy221_1 : wr.cell? ⟨gb221, 1, none⟩ = some (.int .i64 0) := (blk_cell BK221.out 1).trans rfl; have hfy221_1 := blk_frozen BK221.out 1; have hcy226_0 : wr.cell? ⟨gb226, 0, none⟩ = some (.int .i64 t224) := (blk_cell BK226.out 0).trans rfl; have hfy226_0 := blk_frozen BK226.out 0; have hcy226_1 : wr.cell? ⟨gb226, 1, none⟩ = some (.int .i64 t225) := (blk_cell BK226.out 1).trans rfl; have hfy226_1 := blk_frozen BK226.out 1; have hcy227_0 : wr.cell? ⟨gb227, 0, none⟩ = some (.int .i64 x228000_2) := (blk_cell BK227.out 0).trans rfl; have hfy227_0 := blk_frozen BK227.out 0; have hcy227_1 : wr.cell? ⟨gb227, 1, none⟩ = some (.int .i64 x228001_2) := (blk_cell BK227.out 1).trans rfl; have hfy227_1 := blk_frozen BK227.out 1)); have hnb111 := NB221_219.out; have hnc111 := NB219_221.out; have hnb112 := NB221_220.out; have hnc112 := NB220_221.out; have hnb113 := NB221_226.out; have hnc113 := NB226_221.out; have hcz114_0 : wr.cell? ⟨gb221, 0, none⟩ = some (.int .i64 0) := (blk_cell BK221.out 0).trans rfl; have hcz114_1 : wr.cell? ⟨gb221, 1, none⟩ = some (.int .i64 0) := (blk_cell BK221.out 1).trans rfl; have hfz114_0 := blk_frozen BK221.out 0; have hfz114_1 := blk_frozen BK221.out 1))
          refine bodyPost_ret (results_ct rfl _ _ gb221 23 #[.int .i64 (wrap64 (x228000_2 - (wrap64 (t233 * 1000000000)))), .int .i64 (wrap64 (x228001_2 - (wrap64 (t233 * 1000000000))))] (0, 0) _ rfl (by (with_reducible repeat (first | refine blk_drewN ?_ _ | refine blk_drew ?_ | refine blk_alloc ?_ _)); refine blk_put (cs := #[.int .i64 (wrap64 (x228000_2 - (wrap64 (t233 * 1000000000)))), .int .i64 0]) ?_ 1 _ rfl; (with_reducible repeat (first | refine blk_drewN ?_ _ | refine blk_drew ?_ | refine blk_alloc ?_ _)); refine blk_put (cs := #[.int .i64 0, .int .i64 0]) ?_ 0 _ rfl; (with_reducible repeat (first | refine blk_drewN ?_ _ | refine blk_drew ?_ | refine blk_alloc ?_ _)); exact BK221.out) Try.underlying23 rfl (by kernel_rfl)) rfl ?_
          exact ⟨by first | rfl | (simp [errW_none, errW_some] <;> rfl) | (simp [*, errW_none, errW_some] <;> rfl), (be_ HB).out⟩
  ·rw [if_neg c14] at H
   have c14b0 : (t223 == 0) = false := beq_eq_false_iff_ne.mpr c14
   have c14b1 : (t223 != 0) = true := bne_iff_ne.mpr c14
   simp only [Option.some.injEq, Prod.mk.injEq] at H
   obtain ⟨rfl, rfl, rfl⟩ := H
   have hnb115 := NB220_219.out
   have hnc115 := NB219_220.out
   have hnb116 := NB220_221.out
   have hnc116 := NB221_220.out
   have hcz117_0 : w11.cell? ⟨gb220, 0, none⟩ = some (.int .i64 a1_0) := (blk_cell BK220.out 0).trans rfl
   have hcz117_1 : w11.cell? ⟨gb220, 1, none⟩ = some (.int .i64 a1_1) := (blk_cell BK220.out 1).trans rfl
   have hfz117_0 := blk_frozen BK220.out 0
   have hfz117_1 := blk_frozen BK220.out 1
   go_wp2_with (first | ((with_reducible refine gate_callee (f := 61) rfl ?_); refine goesL_ (some 22) rfl rfl Try.func61 (by kernel_rfl) rfl #[.agg #[.int .i64 a1_0, .int .i64 a1_1]] rfl (by (try simp only [List.map_toArray, List.map_cons, List.map_nil]); first | done | rfl | (simp only [List.length_drop, List.length_take]; rfl)) ?_; (with_reducible refine (interval_Check.calls k a1_0 a1_1 t223 _ A13.out).mono ?_); rintro e w118 ⟨rfl, hb⟩; refine ⟨_, rfl, ?_⟩; replace BK219 := kb_ BK219 hb; replace BK220 := kb_ BK220 hb; replace BK221 := kb_ BK221 hb; replace HB := bs_ HB hb; (try clear hb); (try clear hb2); (try clear hk); (try clear hi); have hnb119 := NB221_219.out; have hnc119 := NB219_221.out; have hcz120_0 : w118.cell? ⟨gb221, 0, none⟩ = some (.int .i64 0) := (blk_cell BK221.out 0).trans rfl; have hcz120_1 : w118.cell? ⟨gb221, 1, none⟩ = some (.int .i64 0) := (blk_cell BK221.out 1).trans rfl; have hfz120_0 := blk_frozen BK221.out 0; have hfz120_1 := blk_frozen BK221.out 1))
   refine bodyPost_ret (results_ct rfl _ _ gb221 23 #[.int .i64 0, .int .i64 0] (0, 0) _ rfl (by (with_reducible repeat (first | refine blk_drewN ?_ _ | refine blk_drew ?_ | refine blk_alloc ?_ _)); refine blk_put (cs := #[.int .i64 0, .int .i64 0]) ?_ 1 _ rfl; (with_reducible repeat (first | refine blk_drewN ?_ _ | refine blk_drew ?_ | refine blk_alloc ?_ _)); refine blk_put (cs := #[.int .i64 0, .int .i64 0]) ?_ 0 _ rfl; (with_reducible repeat (first | refine blk_drewN ?_ _ | refine blk_drew ?_ | refine blk_alloc ?_ _)); exact BK221.out) Try.underlying23 rfl (by kernel_rfl)) rfl ?_
   exact ⟨by first | rfl | (simp [errW_none, errW_some] <;> rfl) | (simp [*, errW_none, errW_some] <;> rfl), (be_ HB).out⟩
 ·rw [if_neg c12] at H
  have c12b0 : (t222 == 0) = false := beq_eq_false_iff_ne.mpr c12
  have c12b1 : (t222 != 0) = true := bne_iff_ne.mpr c12
  (first | rw [c12b0] | (simp only [i64_w, i32_w]; rw [c12b0]) | skip)
  simp only [Option.some.injEq, Prod.mk.injEq] at H
  obtain ⟨rfl, rfl, rfl⟩ := H
  have hnb121 := NB221_219.out
  have hnc121 := NB219_221.out
  have hnb122 := NB221_220.out
  have hnc122 := NB220_221.out
  have hcz123_0 : w11.cell? ⟨gb221, 0, none⟩ = some (.int .i64 0) := (blk_cell BK221.out 0).trans rfl
  have hcz123_1 : w11.cell? ⟨gb221, 1, none⟩ = some (.int .i64 0) := (blk_cell BK221.out 1).trans rfl
  have hfz123_0 := blk_frozen BK221.out 0
  have hfz123_1 := blk_frozen BK221.out 1
  go_wp2
  refine bodyPost_ret (results_ct rfl _ _ gb221 23 #[.int .i64 0, .int .i64 0] (0, 0) _ rfl (by (with_reducible repeat (first | refine blk_drewN ?_ _ | refine blk_drew ?_ | refine blk_alloc ?_ _)); refine blk_put (cs := #[.int .i64 0, .int .i64 0]) ?_ 1 _ rfl; (with_reducible repeat (first | refine blk_drewN ?_ _ | refine blk_drew ?_ | refine blk_alloc ?_ _)); refine blk_put (cs := #[.int .i64 0, .int .i64 0]) ?_ 0 _ rfl; (with_reducible repeat (first | refine blk_drewN ?_ _ | refine blk_drew ?_ | refine blk_alloc ?_ _)); exact BK221.out) Try.underlying23 rfl (by kernel_rfl)) rfl ?_
  exact ⟨by first | rfl | (simp [errW_none, errW_some] <;> rfl) | (simp [*, errW_none, errW_some] <;> rfl), (be_ HB).out⟩
end Go.Proofs.Ytedakilpogagiaa.PAll
