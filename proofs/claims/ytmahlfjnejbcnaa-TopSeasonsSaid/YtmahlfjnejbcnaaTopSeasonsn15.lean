/- Written by a program of this session: what one law needs. -/
import Derived.Test.YtmahlfjnejbcnaaTopSeasonsn14
set_option maxHeartbeats 8000000
set_option maxRecDepth 100000
set_option linter.unusedSimpArgs false
set_option linter.unusedVariables false
section
namespace Go.Proofs.Ytmahlfjnejbcnaa.PAll
open Go.RowKit YtmahlfjnejbcnaaW.PrintWords YtmahlfjnejbcnaaW.PrintLast YtmahlfjnejbcnaaW.PrintMore More2 Sq
attribute [local go_sem] max2_int min2_int max_two min_two max_three min_three max_four min_four tdiv2e18_ tdiv1e18_ cellSS_  -- for this text's walks alone
mutual
def trig_Arc.j0 : Nat → Bool → Int → Int → Int → Int → Option (Int × Int × Int)
 | 0, _, _, _, _, _ => none
 | k + 1, x44, x365000, x365001, x366000, x366001 => if x44 = true then (some (0, 0, 11)) else ((trig_direction.f k x365000 x366000).bind fun bt369 => (trig_Arc.l0 k 0 x366001 x365001 x366000 x365001 x366001 x365000 bt369.1 bt369.2 bt369.1 bt369.2))
def trig_Arc.l0 : Nat → Int → Int → Int → Int → Int → Int → Int → Int → Int → Int → Int → Option (Int × Int × Int)
 | 0, _, _, _, _, _, _, _, _, _, _, _ => none
 | k + 1, x68, x994, x995, x996, x997, x998, x999, x372000, x372001, x373000, x373001 => if x68 < 3 then (if 0 ≤ x68 then ((trig_direction.f k (rd [x999, x997, x995] x68) (rd [x998, x996, x994] x68)).bind fun bt374 => ((interval_Floor.f (wrap64 ((wrap64 (bt374.1 - x372000)) + 500000000)) 1000000000).bind fun t377 => (trig_Arc.l0 k (wrap64 (x68 + 1)) x994 x995 x996 x997 x998 x999 x372000 x372001 (mn x373000 (wrap64 (bt374.1 - (wrap64 (t377 * 1000000000))))) (mx x373001 (wrap64 (bt374.2 - (wrap64 (t377 * 1000000000)))))))) else (none)) else (if (wrap64 (x373001 - x373000)) > 400000000 then (some (0, 0, 11)) else ((interval_Floor.f x373000 1000000000).bind fun t378 => (some (wrap64 (x373000 - (wrap64 (t378 * 1000000000))), wrap64 (x373001 - (wrap64 (t378 * 1000000000))), 0))))
end
def trig_Arc.f (k : Nat) (a0_0 : Int) (a0_1 : Int) (a1_0 : Int) (a1_1 : Int) : Option (Int × Int × Int) := (interval_Check.f k a0_0 a0_1).bind fun t367 => (if t367 = 0 then ((interval_Check.f k a1_0 a1_1).bind fun t368 => (if t368 = 0 then (if a0_0 ≤ 0 then (if a0_1 ≥ 0 then (if a1_0 ≤ 0 then (trig_Arc.j0 k (decide (a1_1 ≥ 0)) a0_0 a0_1 a1_0 a1_1) else (trig_Arc.j0 k false a0_0 a0_1 a1_0 a1_1)) else (trig_Arc.j0 k false a0_0 a0_1 a1_0 a1_1)) else (trig_Arc.j0 k false a0_0 a0_1 a1_0 a1_1)) else (some (0, 0, t368)))) else (some (0, 0, t367)))
def trig_Arc.T16 : Bool × List (List Nat × List Nat) := (true, [([], []), ([0], [0]), ([], []), ([2], [2]), ([], []), ([3, 4], [3, 4]), ([1, 5], [1, 5]), ([], []), ([7], [7]), ([], []), ([9], [9]), ([], []), ([10, 11], [10, 11]), ([8, 12], [8, 12]), ([0, 1, 2, 3, 4, 5, 6, 7, 8], []), ([14, 6, 0, 1, 2, 3, 4, 5, 6, 7, 8], [6, 14]), ([0, 1, 2, 3, 4, 5, 6, 7, 8, 9, 10, 11, 12, 13, 14, 15], []), ([16, 13, 15, 0, 1, 2, 3, 4, 5, 6, 7, 8, 9, 10, 11, 12, 13, 14, 15], [13, 16])])
def trig_Arc.B16 : List Nat := [0, 1, 0, 4, 0, 28, 63, 0, 128, 0, 512, 0, 3584, 8064, 511, 16895, 65535, 131071]
theorem trig_Arc.tab16 : rtab .any (opsOf Try.f81 16) = trig_Arc.T16 := by kernel_rfl
theorem trig_Arc.bits16 : waitsOk trig_Arc.T16.2 trig_Arc.B16 = true := by kernel_rfl
theorem trig_Arc.calls (k : Nat) (a0_0 : Int) (a0_1 : Int) (a1_0 : Int) (a1_1 : Int) (r1 : Int) (r2 : Int) (r3 : Int) (w : World) (h : trig_Arc.f k a0_0 a0_1 a1_0 a1_1 = some (r1, r2, r3)) :
  Calls Try.prog 81 #[.agg #[.int .i64 a0_0, .int .i64 a0_1], .agg #[.int .i64 a1_0, .int .i64 a1_1]] w fun e w' => e = .returned (.tuple #[.agg #[.int .i64 r1, .int .i64 r2], .int .i64 r3]) ∧ Below w.heap.size w w' := by
 have hu24 := Try.underlying24
 have hu81 := Try.underlying81
 have hu82 := Try.underlying82
 have HB := Aside0.mk (Below.refl w.heap.size w)
 have H : ((interval_Check.f k a0_0 a0_1).bind fun t367 => (if t367 = 0 then ((interval_Check.f k a1_0 a1_1).bind fun t368 => (if t368 = 0 then (if a0_0 ≤ 0 then (if a0_1 ≥ 0 then (if a1_0 ≤ 0 then (trig_Arc.j0 k (decide (a1_1 ≥ 0)) a0_0 a0_1 a1_0 a1_1) else (trig_Arc.j0 k false a0_0 a0_1 a1_0 a1_1)) else (trig_Arc.j0 k false a0_0 a0_1 a1_0 a1_1)) else (trig_Arc.j0 k false a0_0 a0_1 a1_0 a1_1)) else (some (0, 0, t368)))) else (some (0, 0, t367)))) = some (r1, r2, r3) := h
 clear h
 replace H := Option.bind_eq_some_iff.mp H
 obtain ⟨t367, A30, H⟩ := H
 replace H : (if t367 = 0 then ((interval_Check.f k a1_0 a1_1).bind fun t368 => (if t368 = 0 then (if a0_0 ≤ 0 then (if a0_1 ≥ 0 then (if a1_0 ≤ 0 then (trig_Arc.j0 k (decide (a1_1 ≥ 0)) a0_0 a0_1 a1_0 a1_1) else (trig_Arc.j0 k false a0_0 a0_1 a1_0 a1_1)) else (trig_Arc.j0 k false a0_0 a0_1 a1_0 a1_1)) else (trig_Arc.j0 k false a0_0 a0_1 a1_0 a1_1)) else (some (0, 0, t368)))) else (some (0, 0, t367))) = some (r1, r2, r3) := H
 have A3 := Aside0.mk A30
 clear A30
 have HC4 := Aside0.mk H
 clear H
 go_enter Try.func81, Try.ntmps81
 go_upto_if 18 with (first | ((with_reducible refine gate_dst (N := 2) rfl ?_); refine box_event ?hg (N := 2) ?hd (cs := #[.int .i64 a0_0, .int .i64 a0_1]) (t := 24) ?hr ?_; (case hd => rfl); (case hg => rfl); (case hr => first | (go_simp; done) | (go_simp; rfl)); intro gb364 hg w5 hbox hb; have BK364 := Aside0.mk (hbox); have GW364 := ge_ hg HB; have GE364 := ge_ hg HB; replace HB := bs_ HB hb; clear hb hbox hg) | ((with_reducible refine gate_dst (N := 3) rfl ?_); refine box_event ?hg (N := 3) ?hd (cs := #[.int .i64 a1_0, .int .i64 a1_1]) (t := 24) ?hr ?_; (case hd => rfl); (case hg => rfl); (case hr => first | (go_simp; done) | (go_simp; rfl)); intro gb365 hg w6 hbox hb; have BK365 := Aside0.mk (hbox); have GW365 := ge_ hg HB; have GE365 := ge_ hg HB; have NB364_365 := nl_ hg BK364; have NB365_364 := ng_ hg BK364; replace BK364 := kb_ BK364 hb; replace HB := bs_ HB hb; clear hb hbox hg) | ((with_reducible refine gate_dst (N := 4) rfl ?_); refine box_event ?hg (N := 4) ?hd (cs := #[.int .i64 0, .int .i64 0]) (t := 24) ?hr ?_; (case hd => rfl); (case hg => rfl); (case hr => first | (go_simp; done) | (go_simp; rfl)); intro gb366 hg w7 hbox hb; have BK366 := Aside0.mk (hbox); have GW366 := ge_ hg HB; have GE366 := ge_ hg HB; have NB364_366 := nl_ hg BK364; have NB366_364 := ng_ hg BK364; have NB365_366 := nl_ hg BK365; have NB366_365 := ng_ hg BK365; replace BK364 := kb_ BK364 hb; replace BK365 := kb_ BK365 hb; replace HB := bs_ HB hb; clear hb hbox hg; have hnb8 := NB364_365.out; have hnc8 := NB365_364.out; have hnb9 := NB364_366.out; have hnc9 := NB366_364.out; have hcz10_0 : w7.cell? ⟨gb364, 0, none⟩ = some (.int .i64 a0_0) := (blk_cell BK364.out 0).trans rfl; have hcz10_1 : w7.cell? ⟨gb364, 1, none⟩ = some (.int .i64 a0_1) := (blk_cell BK364.out 1).trans rfl; have hfz10_0 := blk_frozen BK364.out 0; have hfz10_1 := blk_frozen BK364.out 1) | ((with_reducible refine gate_callee (f := 65) rfl ?_); refine goesL_ (some 16) rfl rfl Try.func65 (by kernel_rfl) rfl #[.agg #[.int .i64 a0_0, .int .i64 a0_1]] rfl (by (try simp only [List.map_toArray, List.map_cons, List.map_nil]); first | done | rfl | (simp only [List.length_drop, List.length_take]; rfl)) ?_; (with_reducible refine (interval_Check.calls k a0_0 a0_1 t367 _ A3.out).mono ?_); rintro e w11 ⟨rfl, hb⟩; refine ⟨_, rfl, ?_⟩; replace BK364 := kb_ BK364 hb; replace BK365 := kb_ BK365 hb; replace BK366 := kb_ BK366 hb; replace HB := bs_ HB hb; (try clear hb); (try clear hb2); (try clear hk); (try clear hi)))
 (try simp only [Act.put, List.setIfInBounds_toArray, List.set_cons_zero, List.set_cons_succ])
 have H := HC4.out
 clear HC4
 by_cases c12 : t367 = 0
 ·rw [if_pos c12] at H
  have c12b0 : (t367 == 0) = true := beq_iff_eq.mpr c12
  have c12b1 : (t367 != 0) = false := bne_eq_false_iff_eq.mpr c12
  clear c12
  (first | rw [c12b0] | (simp only [i64_w, i32_w]; rw [c12b0]) | skip)
  replace H := Option.bind_eq_some_iff.mp H
  obtain ⟨t368, A130, H⟩ := H
  replace H : (if t368 = 0 then (if a0_0 ≤ 0 then (if a0_1 ≥ 0 then (if a1_0 ≤ 0 then (trig_Arc.j0 k (decide (a1_1 ≥ 0)) a0_0 a0_1 a1_0 a1_1) else (trig_Arc.j0 k false a0_0 a0_1 a1_0 a1_1)) else (trig_Arc.j0 k false a0_0 a0_1 a1_0 a1_1)) else (trig_Arc.j0 k false a0_0 a0_1 a1_0 a1_1)) else (some (0, 0, t368))) = some (r1, r2, r3) := H
  have A13 := Aside0.mk A130
  clear A130
  by_cases c14 : t368 = 0
  ·rw [if_pos c14] at H
   have c14b0 : (t368 == 0) = true := beq_iff_eq.mpr c14
   have c14b1 : (t368 != 0) = false := bne_eq_false_iff_eq.mpr c14
   clear c14
   have HC15 := Aside0.mk H
   clear H
   have hnb16 := NB365_364.out
   have hnc16 := NB364_365.out
   have hnb17 := NB365_366.out
   have hnc17 := NB366_365.out
   have hcz18_0 : w11.cell? ⟨gb365, 0, none⟩ = some (.int .i64 a1_0) := (blk_cell BK365.out 0).trans rfl
   have hcz18_1 : w11.cell? ⟨gb365, 1, none⟩ = some (.int .i64 a1_1) := (blk_cell BK365.out 1).trans rfl
   have hfz18_0 := blk_frozen BK365.out 0
   have hfz18_1 := blk_frozen BK365.out 1
   go_upto_region 7 with (first | ((with_reducible refine gate_callee (f := 65) rfl ?_); refine goesL_ (some 22) rfl rfl Try.func65 (by kernel_rfl) rfl #[.agg #[.int .i64 a1_0, .int .i64 a1_1]] rfl (by (try simp only [List.map_toArray, List.map_cons, List.map_nil]); first | done | rfl | (simp only [List.length_drop, List.length_take]; rfl)) ?_; (with_reducible refine (interval_Check.calls k a1_0 a1_1 t368 _ A13.out).mono ?_); rintro e w19 ⟨rfl, hb⟩; refine ⟨_, rfl, ?_⟩; replace BK364 := kb_ BK364 hb; replace BK365 := kb_ BK365 hb; replace BK366 := kb_ BK366 hb; replace HB := bs_ HB hb; (try clear hb); (try clear hb2); (try clear hk); (try clear hi)))
   (try simp only [Act.put, List.setIfInBounds_toArray, List.set_cons_zero, List.set_cons_succ])
   go_cut [44] (fun v44 wc => ∃ (kq : Nat) (x44_14 : Bool), v44 = .bool x44_14 ∧ Aside0 (trig_Arc.j0 kq x44_14 a0_0 a0_1 a1_0 a1_1 = some (r1, r2, r3)) ∧ Aside0 (kq ≤ k) ∧ Aside0 (wc.heap[gb364]? = some (.cells #[.int .i64 a0_0, .int .i64 a0_1] 24 (0, 0))) ∧ Aside0 (wc.heap[gb365]? = some (.cells #[.int .i64 a1_0, .int .i64 a1_1] 24 (0, 0))) ∧ Aside0 (wc.heap[gb366]? = some (.cells #[.int .i64 0, .int .i64 0] 24 (0, 0))) ∧ Aside0 (Below w.heap.size w wc))
   case first =>
    have H := HC15.out
    clear HC15
    by_cases c20 : a0_0 ≤ 0
    ·rw [if_pos c20] at H
     have c20b0 : decide (a0_0 ≤ 0) = true := decide_eq_true c20
     clear c20
     (first | rw [c20b0] | (simp only [i64_w, i32_w]; rw [c20b0]) | skip)
     by_cases c21 : a0_1 ≥ 0
     ·rw [if_pos c21] at H
      have c21b0 : decide (0 ≤ a0_1) = true := decide_eq_true c21
      clear c21
      by_cases c22 : a1_0 ≤ 0
      ·rw [if_pos c22] at H
       have c22b0 : decide (a1_0 ≤ 0) = true := decide_eq_true c22
       clear c22
       have H' := Aside0.mk H
       clear H
       have hnb23 := NB364_365.out
       have hnc23 := NB365_364.out
       have hnb24 := NB364_366.out
       have hnc24 := NB366_364.out
       have hcz25_0 : w19.cell? ⟨gb364, 0, none⟩ = some (.int .i64 a0_0) := (blk_cell BK364.out 0).trans rfl
       have hcz25_1 : w19.cell? ⟨gb364, 1, none⟩ = some (.int .i64 a0_1) := (blk_cell BK364.out 1).trans rfl
       have hfz25_0 := blk_frozen BK364.out 0
       have hfz25_1 := blk_frozen BK364.out 1
       have hnb26 := NB365_366.out
       have hnc26 := NB366_365.out
       have hcz27_0 : w19.cell? ⟨gb365, 0, none⟩ = some (.int .i64 a1_0) := (blk_cell BK365.out 0).trans rfl
       have hcz27_1 : w19.cell? ⟨gb365, 1, none⟩ = some (.int .i64 a1_1) := (blk_cell BK365.out 1).trans rfl
       have hfz27_0 := blk_frozen BK365.out 0
       have hfz27_1 := blk_frozen BK365.out 1
       go_wp2
       go_meet
       case rel => exact ⟨_, (decide (a1_1 ≥ 0)), (by first | rfl | (simp; done) | (simp [*]; done)), H', ⟨by first | omega | exact Nat.le_refl _⟩, ⟨kk_ BK364⟩, ⟨kk_ BK365⟩, ⟨kk_ BK366⟩, (be_ HB)⟩
      ·rw [if_neg c22] at H
       have c22b0 : decide (a1_0 ≤ 0) = false := decide_eq_false c22
       clear c22
       have H' := Aside0.mk H
       clear H
       have hnb28 := NB364_365.out
       have hnc28 := NB365_364.out
       have hnb29 := NB364_366.out
       have hnc29 := NB366_364.out
       have hcz30_0 : w19.cell? ⟨gb364, 0, none⟩ = some (.int .i64 a0_0) := (blk_cell BK364.out 0).trans rfl
       have hcz30_1 : w19.cell? ⟨gb364, 1, none⟩ = some (.int .i64 a0_1) := (blk_cell BK364.out 1).trans rfl
       have hfz30_0 := blk_frozen BK364.out 0
       have hfz30_1 := blk_frozen BK364.out 1
       have hnb31 := NB365_366.out
       have hnc31 := NB366_365.out
       have hcz32_0 : w19.cell? ⟨gb365, 0, none⟩ = some (.int .i64 a1_0) := (blk_cell BK365.out 0).trans rfl
       have hcz32_1 : w19.cell? ⟨gb365, 1, none⟩ = some (.int .i64 a1_1) := (blk_cell BK365.out 1).trans rfl
       have hfz32_0 := blk_frozen BK365.out 0
       have hfz32_1 := blk_frozen BK365.out 1
       go_wp2
       go_meet
       case rel => exact ⟨_, (false), (by first | rfl | (simp; done) | (simp [*]; done)), H', ⟨by first | omega | exact Nat.le_refl _⟩, ⟨kk_ BK364⟩, ⟨kk_ BK365⟩, ⟨kk_ BK366⟩, (be_ HB)⟩
     ·rw [if_neg c21] at H
      have c21b0 : decide (0 ≤ a0_1) = false := decide_eq_false c21
      clear c21
      have H' := Aside0.mk H
      clear H
      have hnb33 := NB364_365.out
      have hnc33 := NB365_364.out
      have hnb34 := NB364_366.out
      have hnc34 := NB366_364.out
      have hcz35_0 : w19.cell? ⟨gb364, 0, none⟩ = some (.int .i64 a0_0) := (blk_cell BK364.out 0).trans rfl
      have hcz35_1 : w19.cell? ⟨gb364, 1, none⟩ = some (.int .i64 a0_1) := (blk_cell BK364.out 1).trans rfl
      have hfz35_0 := blk_frozen BK364.out 0
      have hfz35_1 := blk_frozen BK364.out 1
      go_wp2
      go_meet
      case rel => exact ⟨_, (false), (by first | rfl | (simp; done) | (simp [*]; done)), H', ⟨by first | omega | exact Nat.le_refl _⟩, ⟨kk_ BK364⟩, ⟨kk_ BK365⟩, ⟨kk_ BK366⟩, (be_ HB)⟩
    ·rw [if_neg c20] at H
     have c20b0 : decide (a0_0 ≤ 0) = false := decide_eq_false c20
     clear c20
     (first | rw [c20b0] | (simp only [i64_w, i32_w]; rw [c20b0]) | skip)
     have H' := Aside0.mk H
     clear H
     have hnb36 := NB364_365.out
     have hnc36 := NB365_364.out
     have hnb37 := NB364_366.out
     have hnc37 := NB366_364.out
     have hcz38_0 : w19.cell? ⟨gb364, 0, none⟩ = some (.int .i64 a0_0) := (blk_cell BK364.out 0).trans rfl
     have hcz38_1 : w19.cell? ⟨gb364, 1, none⟩ = some (.int .i64 a0_1) := (blk_cell BK364.out 1).trans rfl
     have hfz38_0 := blk_frozen BK364.out 0
     have hfz38_1 := blk_frozen BK364.out 1
     go_wp2
     go_meet
     case rel => exact ⟨_, (false), (by first | rfl | (simp; done) | (simp [*]; done)), H', ⟨by first | omega | exact Nat.le_refl _⟩, ⟨kk_ BK364⟩, ⟨kk_ BK365⟩, ⟨kk_ BK366⟩, (be_ HB)⟩
   case rest =>
    clear HC15
    try clear c1
    try clear c2
    try clear p2
    try clear c3
    try clear c6
    try clear c8
    try clear c9
    try clear c12
    try clear c12b0
    try clear c12b1
    try clear c14
    try clear c14b0
    try clear c14b1
    try clear c16
    try clear c17
    try clear c20
    try clear c20b0
    try clear c21
    try clear c21b0
    try clear c22
    try clear c22b0
    try clear c23
    try clear c24
    try clear c26
    try clear c28
    try clear c29
    try clear c31
    try clear c33
    try clear c34
    try clear c36
    try clear c37
    try clear hcz10_0
    try clear hcz10_1
    try clear hcz18_0
    try clear hcz18_1
    try clear hcz25_0
    try clear hcz25_1
    try clear hcz27_0
    try clear hcz27_1
    try clear hcz30_0
    try clear hcz30_1
    try clear hcz32_0
    try clear hcz32_1
    try clear hcz35_0
    try clear hcz35_1
    try clear hcz38_0
    try clear hcz38_1
    try clear hfz10_0
    try clear hfz10_1
    try clear hfz18_0
    try clear hfz18_1
    try clear hfz25_0
    try clear hfz25_1
    try clear hfz27_0
    try clear hfz27_1
    try clear hfz30_0
    try clear hfz30_1
    try clear hfz32_0
    try clear hfz32_1
    try clear hfz35_0
    try clear hfz35_1
    try clear hfz38_0
    try clear hfz38_1
    obtain ⟨kq, x44_14, rfl, HA, HJ14, BK364, BK365, BK366, HB⟩ := hcut
    cases kq with
    | zero => exact absurd HA.out (by simp [trig_Arc.j0])
    | succ kj14 =>
     have H := HA.out
     clear HA
     simp only [trig_Arc.j0] at H
     by_cases c39 : x44_14 = true
     ·subst c39
      have H1 : (some (0, 0, 11)) = some (r1, r2, r3) := by rw [if_pos rfl] at H; exact H
      clear H
      have H := H1
      clear H1
      simp only [Option.some.injEq, Prod.mk.injEq] at H
      obtain ⟨rfl, rfl, rfl⟩ := H
      have hnb40 := NB366_364.out
      have hnc40 := NB364_366.out
      have hnb41 := NB366_365.out
      have hnc41 := NB365_366.out
      have hcz42_0 : wc.cell? ⟨gb366, 0, none⟩ = some (.int .i64 0) := (blk_cell BK366.out 0).trans rfl
      have hcz42_1 : wc.cell? ⟨gb366, 1, none⟩ = some (.int .i64 0) := (blk_cell BK366.out 1).trans rfl
      have hfz42_0 := blk_frozen BK366.out 0
      have hfz42_1 := blk_frozen BK366.out 1
      go_wp2
      refine bodyPost_ret (results_ct rfl _ _ gb366 24 #[.int .i64 0, .int .i64 0] (0, 0) _ rfl (by (with_reducible repeat (first | refine blk_drewN ?_ _ | refine blk_drew ?_ | refine blk_alloc ?_ _)); refine blk_put (cs := #[.int .i64 0, .int .i64 0]) ?_ 1 _ rfl; (with_reducible repeat (first | refine blk_drewN ?_ _ | refine blk_drew ?_ | refine blk_alloc ?_ _)); refine blk_put (cs := #[.int .i64 0, .int .i64 0]) ?_ 0 _ rfl; (with_reducible repeat (first | refine blk_drewN ?_ _ | refine blk_drew ?_ | refine blk_alloc ?_ _)); exact BK366.out) Try.underlying24 rfl (by kernel_rfl)) rfl ?_
      exact ⟨by first | rfl | (simp [errW_none, errW_some] <;> rfl) | (simp [*, errW_none, errW_some] <;> rfl), (be_ HB).out⟩
     ·replace c39 := Bool.eq_false_iff.mpr c39
      subst c39
      have H1 : ((trig_direction.f kj14 a0_0 a1_0).bind fun bt369 => (trig_Arc.l0 kj14 0 a1_1 a0_1 a1_0 a0_1 a1_1 a0_0 bt369.1 bt369.2 bt369.1 bt369.2)) = some (r1, r2, r3) := by rw [if_neg (show ¬ (false = true) by decide)] at H; exact H
      clear H
      have H := H1
      clear H1
      replace H := Option.bind_eq_some_iff.mp H
      obtain ⟨⟨t369, t370⟩, A430, H⟩ := H
      replace H : (trig_Arc.l0 kj14 0 a1_1 a0_1 a1_0 a0_1 a1_1 a0_0 t369 t370 t369 t370) = some (r1, r2, r3) := H
      have A43 := Aside0.mk A430
      clear A430
      have H' := Aside0.mk H
      clear H
      have hnb44 := NB364_365.out
      have hnc44 := NB365_364.out
      have hnb45 := NB364_366.out
      have hnc45 := NB366_364.out
      have hcz46_0 : wc.cell? ⟨gb364, 0, none⟩ = some (.int .i64 a0_0) := (blk_cell BK364.out 0).trans rfl
      have hcz46_1 : wc.cell? ⟨gb364, 1, none⟩ = some (.int .i64 a0_1) := (blk_cell BK364.out 1).trans rfl
      have hfz46_0 := blk_frozen BK364.out 0
      have hfz46_1 := blk_frozen BK364.out 1
      have hnb47 := NB365_366.out
      have hnc47 := NB366_365.out
      have hcz48_0 : wc.cell? ⟨gb365, 0, none⟩ = some (.int .i64 a1_0) := (blk_cell BK365.out 0).trans rfl
      have hcz48_1 : wc.cell? ⟨gb365, 1, none⟩ = some (.int .i64 a1_1) := (blk_cell BK365.out 1).trans rfl
      have hfz48_0 := blk_frozen BK365.out 0
      have hfz48_1 := blk_frozen BK365.out 1
      go_wp2_with (first | ((with_reducible refine gate_callee (f := 98) rfl ?_); refine goesL_ (some 50) rfl rfl Try.func98 (by kernel_rfl) rfl #[.int .i64 a0_0, .int .i64 a1_0] rfl (by (try simp only [List.map_toArray, List.map_cons, List.map_nil]); first | done | rfl | (simp only [List.length_drop, List.length_take]; rfl)) ?_; (with_reducible refine (trig_direction.calls kj14 a0_0 a1_0 t369 t370 _ A43.out).mono ?_); rintro e w49 ⟨rfl, hb⟩; refine ⟨_, rfl, ?_⟩; replace BK364 := kb_ BK364 hb; replace BK365 := kb_ BK365 hb; replace BK366 := kb_ BK366 hb; replace HB := bs_ HB hb; (try clear hb); (try clear hb2); (try clear hk); (try clear hi)) | ((with_reducible refine gate_dst (N := 8) rfl ?_); refine box_event ?hg (N := 8) ?hd (cs := #[.int .i64 0, .int .i64 0]) (t := 24) ?hr ?_; (case hd => rfl); (case hg => rfl); (case hr => first | (go_simp; done) | (go_simp; rfl)); intro gb371 hg w50 hbox hb; have BK371 := Aside0.mk (hbox); have GW371 := ge_ hg HB; have GE371 := ge_ hg HB; have NB364_371 := nl_ hg BK364; have NB371_364 := ng_ hg BK364; have NB365_371 := nl_ hg BK365; have NB371_365 := ng_ hg BK365; have NB366_371 := nl_ hg BK366; have NB371_366 := ng_ hg BK366; replace BK364 := kb_ BK364 hb; replace BK365 := kb_ BK365 hb; replace BK366 := kb_ BK366 hb; replace HB := bs_ HB hb; clear hb hbox hg; have hnb51 := NB371_364.out; have hnc51 := NB364_371.out; have hnb52 := NB371_365.out; have hnc52 := NB365_371.out; have hnb53 := NB371_366.out; have hnc53 := NB366_371.out; have hcz54_0 : w50.cell? ⟨gb371, 0, none⟩ = some (.int .i64 0) := (blk_cell BK371.out 0).trans rfl; have hcz54_1 : w50.cell? ⟨gb371, 1, none⟩ = some (.int .i64 0) := (blk_cell BK371.out 1).trans rfl; have hfz54_0 := blk_frozen BK371.out 0; have hfz54_1 := blk_frozen BK371.out 1) | ((with_reducible refine gate_dst (N := 9) rfl ?_); refine box_event ?hg (N := 9) ?hd (cs := #[.int .i64 0, .int .i64 0]) (t := 24) ?hr ?_; (case hd => rfl); (case hg => rfl); (case hr => first | (go_simp; done) | (go_simp; rfl)); intro gb372 hg w55 hbox hb; have n0_ := kb_ BK364 hb; have n1_ := kb_ BK365 hb; have n2_ := kb_ BK366 hb; have n3_ := Aside0.mk (blk_below (g := gb371) (o := .cells #[.int .i64 t369, .int .i64 t370] 24 (0, 0)) (by (with_reducible repeat (first | refine blk_drewN ?_ _ | refine blk_drew ?_ | refine blk_alloc ?_ _)); refine blk_put (cs := #[.int .i64 t369, .int .i64 0]) ?_ 1 _ rfl; (with_reducible repeat (first | refine blk_drewN ?_ _ | refine blk_drew ?_ | refine blk_alloc ?_ _)); refine blk_put (cs := #[.int .i64 0, .int .i64 0]) ?_ 0 _ rfl; (with_reducible repeat (first | refine blk_drewN ?_ _ | refine blk_drew ?_ | refine blk_alloc ?_ _)); exact BK371.out) hb); have n4_ := bs_ HB hb; have n5_ := Aside0.mk (hbox); have n6_ := ge_ hg HB; have n7_ := ge_ hg HB; have n8_ := nl_ hg BK364; have n9_ := ng_ hg BK364; have n10_ := nl_ hg BK365; have n11_ := ng_ hg BK365; have n12_ := nl_ hg BK366; have n13_ := ng_ hg BK366; have n14_ := Aside0.mk ((by rw [hg]; exact Nat.ne_of_lt (blk_lt (g := gb371) (o := .cells #[.int .i64 t369, .int .i64 t370] 24 (0, 0)) (by (with_reducible repeat (first | refine blk_drewN ?_ _ | refine blk_drew ?_ | refine blk_alloc ?_ _)); refine blk_put (cs := #[.int .i64 t369, .int .i64 0]) ?_ 1 _ rfl; (with_reducible repeat (first | refine blk_drewN ?_ _ | refine blk_drew ?_ | refine blk_alloc ?_ _)); refine blk_put (cs := #[.int .i64 0, .int .i64 0]) ?_ 0 _ rfl; (with_reducible repeat (first | refine blk_drewN ?_ _ | refine blk_drew ?_ | refine blk_alloc ?_ _)); exact BK371.out)) : gb371 ≠ gb372)); have n15_ := Aside0.mk ((by rw [hg]; exact Nat.ne_of_gt (blk_lt (g := gb371) (o := .cells #[.int .i64 t369, .int .i64 t370] 24 (0, 0)) (by (with_reducible repeat (first | refine blk_drewN ?_ _ | refine blk_drew ?_ | refine blk_alloc ?_ _)); refine blk_put (cs := #[.int .i64 t369, .int .i64 0]) ?_ 1 _ rfl; (with_reducible repeat (first | refine blk_drewN ?_ _ | refine blk_drew ?_ | refine blk_alloc ?_ _)); refine blk_put (cs := #[.int .i64 0, .int .i64 0]) ?_ 0 _ rfl; (with_reducible repeat (first | refine blk_drewN ?_ _ | refine blk_drew ?_ | refine blk_alloc ?_ _)); exact BK371.out)) : gb372 ≠ gb371)); clear BK364; clear BK365; clear BK366; clear BK371; clear HB; have BK364 := n0_; have BK365 := n1_; have BK366 := n2_; have BK371 := n3_; have HB := n4_; have BK372 := n5_; have GW372 := n6_; have GE372 := n7_; have NB364_372 := n8_; have NB372_364 := n9_; have NB365_372 := n10_; have NB372_365 := n11_; have NB366_372 := n12_; have NB372_366 := n13_; have NB371_372 := n14_; have NB372_371 := n15_; clear n0_ n1_ n2_ n3_ n4_ n5_ n6_ n7_ n8_ n9_ n10_ n11_ n12_ n13_ n14_ n15_; clear hb hbox hg; have hnb56 := NB372_364.out; have hnc56 := NB364_372.out; have hnb57 := NB372_365.out; have hnc57 := NB365_372.out; have hnb58 := NB372_366.out; have hnc58 := NB366_372.out; have hnb59 := NB372_371.out; have hnc59 := NB371_372.out; have hcz60_0 : w55.cell? ⟨gb372, 0, none⟩ = some (.int .i64 0) := (blk_cell BK372.out 0).trans rfl; have hcz60_1 : w55.cell? ⟨gb372, 1, none⟩ = some (.int .i64 0) := (blk_cell BK372.out 1).trans rfl; have hfz60_0 := blk_frozen BK372.out 0; have hfz60_1 := blk_frozen BK372.out 1; have hcz61_0 : w55.cell? ⟨gb364, 0, none⟩ = some (.int .i64 a0_0) := (blk_cell BK364.out 0).trans rfl; have hcz61_1 : w55.cell? ⟨gb364, 1, none⟩ = some (.int .i64 a0_1) := (blk_cell BK364.out 1).trans rfl; have hfz61_0 := blk_frozen BK364.out 0; have hfz61_1 := blk_frozen BK364.out 1; have hcz62_0 : w55.cell? ⟨gb365, 0, none⟩ = some (.int .i64 a1_0) := (blk_cell BK365.out 0).trans rfl; have hcz62_1 : w55.cell? ⟨gb365, 1, none⟩ = some (.int .i64 a1_1) := (blk_cell BK365.out 1).trans rfl; have hfz62_0 := blk_frozen BK365.out 0; have hfz62_1 := blk_frozen BK365.out 1))
      go_loopg [68] kj14 (fun kq v68 w' => ∃ (x68_2 : Int) (x373000_2 : Int) (x373001_2 : Int), v68 = .int .i64 x68_2 ∧ Aside0 (trig_Arc.l0 kq x68_2 a1_1 a0_1 a1_0 a0_1 a1_1 a0_0 t369 t370 x373000_2 x373001_2 = some (r1, r2, r3)) ∧ Aside0 (kq ≤ kj14) ∧ Aside0 (w'.heap[gb364]? = some (.cells #[.int .i64 a0_0, .int .i64 a0_1] 24 (0, 0))) ∧ Aside0 (w'.heap[gb365]? = some (.cells #[.int .i64 a1_0, .int .i64 a1_1] 24 (0, 0))) ∧ Aside0 (w'.heap[gb366]? = some (.cells #[.int .i64 0, .int .i64 0] 24 (0, 0))) ∧ Aside0 (w'.heap[gb371]? = some (.cells #[.int .i64 t369, .int .i64 t370] 24 (0, 0))) ∧ Aside0 (w'.heap[gb372]? = some (.cells #[.int .i64 x373000_2, .int .i64 x373001_2] 24 (0, 0))) ∧ Aside0 (Below w.heap.size w w'))
      case atStart => exact ⟨(0), (t369), (t370), (by first | rfl | (simp; done) | (simp [*]; done)), H', ⟨Nat.le_refl _⟩, ⟨kk_ BK364⟩, ⟨kk_ BK365⟩, ⟨kk_ BK366⟩, ⟨kk_ BK371⟩, ⟨by (with_reducible repeat (first | refine blk_drewN ?_ _ | refine blk_drew ?_ | refine blk_alloc ?_ _)); refine blk_put (cs := #[.int .i64 t369, .int .i64 0]) ?_ 1 _ rfl; (with_reducible repeat (first | refine blk_drewN ?_ _ | refine blk_drew ?_ | refine blk_alloc ?_ _)); refine blk_put (cs := #[.int .i64 0, .int .i64 0]) ?_ 0 _ rfl; (with_reducible repeat (first | refine blk_drewN ?_ _ | refine blk_drew ?_ | refine blk_alloc ?_ _)); exact BK372.out⟩, (be_ HB)⟩
      case round =>
       clear H'
       try clear c1
       try clear c2
       try clear p2
       try clear c3
       try clear c4
       try clear c5
       try clear c6
       try clear c8
       try clear c9
       try clear c12
       try clear c12b0
       try clear c12b1
       try clear c14
       try clear c14b0
       try clear c14b1
       try clear c16
       try clear c17
       try clear c20
       try clear c20b0
       try clear c21
       try clear c21b0
       try clear c22
       try clear c22b0
       try clear c23
       try clear c24
       try clear c26
       try clear c28
       try clear c29
       try clear c31
       try clear c33
       try clear c34
       try clear c36
       try clear c37
       try clear c39
       try clear c40
       try clear c41
       try clear c44
       try clear c45
       try clear c47
       try clear c51
       try clear c52
       try clear c53
       try clear c56
       try clear c57
       try clear c58
       try clear c59
       try clear hcz10_0
       try clear hcz10_1
       try clear hcz18_0
       try clear hcz18_1
       try clear hcz25_0
       try clear hcz25_1
       try clear hcz27_0
       try clear hcz27_1
       try clear hcz30_0
       try clear hcz30_1
       try clear hcz32_0
       try clear hcz32_1
       try clear hcz35_0
       try clear hcz35_1
       try clear hcz38_0
       try clear hcz38_1
       try clear hcz42_0
       try clear hcz42_1
       try clear hcz46_0
       try clear hcz46_1
       try clear hcz48_0
       try clear hcz48_1
       try clear hcz54_0
       try clear hcz54_1
       try clear hcz60_0
       try clear hcz60_1
       try clear hcz61_0
       try clear hcz61_1
       try clear hcz62_0
       try clear hcz62_1
       try clear hfz10_0
       try clear hfz10_1
       try clear hfz18_0
       try clear hfz18_1
       try clear hfz25_0
       try clear hfz25_1
       try clear hfz27_0
       try clear hfz27_1
       try clear hfz30_0
       try clear hfz30_1
       try clear hfz32_0
       try clear hfz32_1
       try clear hfz35_0
       try clear hfz35_1
       try clear hfz38_0
       try clear hfz38_1
       try clear hfz42_0
       try clear hfz42_1
       try clear hfz46_0
       try clear hfz46_1
       try clear hfz48_0
       try clear hfz48_1
       try clear hfz54_0
       try clear hfz54_1
       try clear hfz60_0
       try clear hfz60_1
       try clear hfz61_0
       try clear hfz61_1
       try clear hfz62_0
       try clear hfz62_1
       try clear p2
       obtain ⟨x68_2, x373000_2, x373001_2, rfl, HA, HK2, BK364, BK365, BK366, BK371, BK372, HB⟩ := hrel
       cases gk with
       | zero => exact absurd HA.out (by simp [trig_Arc.l0])
       | succ k2 =>
        have H := HA.out
        clear HA
        simp only [trig_Arc.l0] at H
        by_cases c63 : x68_2 < 3
        ·rw [if_pos c63] at H
         have c63b0 : decide (x68_2 < 3) = true := decide_eq_true c63
         clear c63
         by_cases c64 : 0 ≤ x68_2
         ·rw [if_pos c64] at H
          have c64b0 : decide (0 ≤ x68_2) = true := decide_eq_true c64
          clear c64
          replace H := Option.bind_eq_some_iff.mp H
          obtain ⟨⟨t374, t375⟩, A660, H⟩ := H
          replace H : ((interval_Floor.f (wrap64 ((wrap64 (t374 - t369)) + 500000000)) 1000000000).bind fun t377 => (trig_Arc.l0 k2 (wrap64 (x68_2 + 1)) a1_1 a0_1 a1_0 a0_1 a1_1 a0_0 t369 t370 (mn x373000_2 (wrap64 (t374 - (wrap64 (t377 * 1000000000))))) (mx x373001_2 (wrap64 (t375 - (wrap64 (t377 * 1000000000))))))) = some (r1, r2, r3) := H
          have A66 := Aside0.mk A660
          clear A660
          replace H := Option.bind_eq_some_iff.mp H
          obtain ⟨t377, A670, H⟩ := H
          replace H : (trig_Arc.l0 k2 (wrap64 (x68_2 + 1)) a1_1 a0_1 a1_0 a0_1 a1_1 a0_0 t369 t370 (mn x373000_2 (wrap64 (t374 - (wrap64 (t377 * 1000000000))))) (mx x373001_2 (wrap64 (t375 - (wrap64 (t377 * 1000000000)))))) = some (r1, r2, r3) := H
          have A67 := Aside0.mk A670
          clear A670
          obtain ⟨ji68, hji68⟩ : ∃ j_ : Int, (mn x373000_2 (wrap64 (t374 - (wrap64 (t377 * 1000000000))))) = j_ := ⟨_, rfl⟩
          replace H : (trig_Arc.l0 k2 (wrap64 (x68_2 + 1)) a1_1 a0_1 a1_0 a0_1 a1_1 a0_0 t369 t370 ji68 (mx x373001_2 (wrap64 (t375 - (wrap64 (t377 * 1000000000)))))) = some (r1, r2, r3) := by first | (rw [hji68] at H; exact H) | (simp only [hji68] at H ⊢; exact H)
          (try rw [hji68] at A66)
          (try rw [hji68] at A67)
          have hji68_ : (if (wrap64 (t374 - (wrap64 (t377 * 1000000000)))) < x373000_2 then (wrap64 (t374 - (wrap64 (t377 * 1000000000)))) else x373000_2) = ji68 := hji68
          obtain ⟨ji69, hji69⟩ : ∃ j_ : Int, (mx x373001_2 (wrap64 (t375 - (wrap64 (t377 * 1000000000))))) = j_ := ⟨_, rfl⟩
          replace H : (trig_Arc.l0 k2 (wrap64 (x68_2 + 1)) a1_1 a0_1 a1_0 a0_1 a1_1 a0_0 t369 t370 ji68 ji69) = some (r1, r2, r3) := by first | (rw [hji69] at H; exact H) | (simp only [hji69] at H ⊢; exact H)
          (try rw [hji69] at A66)
          (try rw [hji69] at A67)
          have hji69_ : (if x373001_2 < (wrap64 (t375 - (wrap64 (t377 * 1000000000)))) then (wrap64 (t375 - (wrap64 (t377 * 1000000000)))) else x373001_2) = ji69 := hji69
          have H' := Aside0.mk H
          clear H
          have p65 : 0 ≤ (x68_2 : Int) := of_decide_eq_true (by first | (with_reducible assumption) | assumption)
          have q65 : (x68_2 : Int) < (3 : Int) := of_decide_eq_true (by first | (with_reducible assumption) | assumption)
          have hx65 : ∀ W : World, (Instr.index 82 (.agg #[.int .i64 a0_0, .int .i64 a1_1, .int .i64 a0_1, .int .i64 a1_0, .int .i64 a0_1, .int .i64 a1_1]) (.int .i64 x68_2)).run Try.prog W = .ok (.agg #[.int .i64 (rd [a0_0, a0_1, a0_1] x68_2), .int .i64 (rd [a1_1, a1_0, a1_1] x68_2)]) W := fun W => arrIdx32_ Try.underlying82 Try.sizeOf81 Try.isAgg81 _ _ _ _ _ _ x68_2 p65 q65 W
          replace p65 := eq_true p65
          replace q65 := eq_true q65
          try go_wp2_with (first | ((with_reducible refine gate_dst (N := 11) rfl ?_); refine box_event ?hg (N := 11) ?hd (cs := #[.int .i64 0, .int .i64 0]) (t := 81) ?hr ?_; (case hd => rfl); (case hg => rfl); (case hr => first | (go_simp; done) | (go_simp; rfl)); intro gb373 hg w70 hbox hb; have BK373 := Aside0.mk (hbox); have GW373 := ge_ hg HB; have GE373 := ge_ hg HB; have NB364_373 := nl_ hg BK364; have NB373_364 := ng_ hg BK364; have NB365_373 := nl_ hg BK365; have NB373_365 := ng_ hg BK365; have NB366_373 := nl_ hg BK366; have NB373_366 := ng_ hg BK366; have NB371_373 := nl_ hg BK371; have NB373_371 := ng_ hg BK371; have NB372_373 := nl_ hg BK372; have NB373_372 := ng_ hg BK372; replace BK364 := kb_ BK364 hb; replace BK365 := kb_ BK365 hb; replace BK366 := kb_ BK366 hb; replace BK371 := kb_ BK371 hb; replace BK372 := kb_ BK372 hb; replace HB := bs_ HB hb; clear hb hbox hg; have hnb71 := NB373_364.out; have hnc71 := NB364_373.out; have hnb72 := NB373_365.out; have hnc72 := NB365_373.out; have hnb73 := NB373_366.out; have hnc73 := NB366_373.out; have hnb74 := NB373_371.out; have hnc74 := NB371_373.out; have hnb75 := NB373_372.out; have hnc75 := NB372_373.out; have hcz76_0 : w70.cell? ⟨gb373, 0, none⟩ = some (.int .i64 0) := (blk_cell BK373.out 0).trans rfl; have hcz76_1 : w70.cell? ⟨gb373, 1, none⟩ = some (.int .i64 0) := (blk_cell BK373.out 1).trans rfl; have hfz76_0 := blk_frozen BK373.out 0; have hfz76_1 := blk_frozen BK373.out 1) | ((with_reducible refine gate_callee (f := 98) rfl ?_); refine goesL_ (some 75) rfl rfl Try.func98 (by kernel_rfl) rfl #[.int .i64 (rd [a0_0, a0_1, a0_1] x68_2), .int .i64 (rd [a1_1, a1_0, a1_1] x68_2)] rfl (by (try simp only [List.map_toArray, List.map_cons, List.map_nil]); first | done | rfl | (simp only [List.length_drop, List.length_take]; rfl)) ?_; (with_reducible refine (trig_direction.calls k2 (rd [a0_0, a0_1, a0_1] x68_2) (rd [a1_1, a1_0, a1_1] x68_2) t374 t375 _ A66.out).mono ?_); rintro e w77 ⟨rfl, hb⟩; refine ⟨_, rfl, ?_⟩; have n0_ := kb_ BK364 hb; have n1_ := kb_ BK365 hb; have n2_ := kb_ BK366 hb; have n3_ := kb_ BK371 hb; have n4_ := kb_ BK372 hb; have n5_ := Aside0.mk (blk_below (g := gb373) (o := .cells #[.int .i64 (rd [a0_0, a0_1, a0_1] x68_2), .int .i64 (rd [a1_1, a1_0, a1_1] x68_2)] 81 (0, 0)) (by (with_reducible repeat (first | refine blk_drewN ?_ _ | refine blk_drew ?_ | refine blk_alloc ?_ _)); refine blk_put (cs := #[.int .i64 (rd [a0_0, a0_1, a0_1] x68_2), .int .i64 0]) ?_ 1 _ rfl; (with_reducible repeat (first | refine blk_drewN ?_ _ | refine blk_drew ?_ | refine blk_alloc ?_ _)); refine blk_put (cs := #[.int .i64 0, .int .i64 0]) ?_ 0 _ rfl; (with_reducible repeat (first | refine blk_drewN ?_ _ | refine blk_drew ?_ | refine blk_alloc ?_ _)); exact BK373.out) hb); have n6_ := bs_ HB hb; clear BK364; clear BK365; clear BK366; clear BK371; clear BK372; clear BK373; clear HB; have BK364 := n0_; have BK365 := n1_; have BK366 := n2_; have BK371 := n3_; have BK372 := n4_; have BK373 := n5_; have HB := n6_; clear n0_ n1_ n2_ n3_ n4_ n5_ n6_; (try clear hb); (try clear hb2); (try clear hk); (try clear hi)) | ((with_reducible refine gate_dst (N := 12) rfl ?_); refine box_event ?hg (N := 12) ?hd (cs := #[.int .i64 0, .int .i64 0]) (t := 24) ?hr ?_; (case hd => rfl); (case hg => rfl); (case hr => first | (go_simp; done) | (go_simp; rfl)); intro gb376 hg w78 hbox hb; have BK376 := Aside0.mk (hbox); have GW376 := ge_ hg HB; have GE376 := ge_ hg HB; have NB364_376 := nl_ hg BK364; have NB376_364 := ng_ hg BK364; have NB365_376 := nl_ hg BK365; have NB376_365 := ng_ hg BK365; have NB366_376 := nl_ hg BK366; have NB376_366 := ng_ hg BK366; have NB371_376 := nl_ hg BK371; have NB376_371 := ng_ hg BK371; have NB372_376 := nl_ hg BK372; have NB376_372 := ng_ hg BK372; have NB373_376 := nl_ hg BK373; have NB376_373 := ng_ hg BK373; replace BK364 := kb_ BK364 hb; replace BK365 := kb_ BK365 hb; replace BK366 := kb_ BK366 hb; replace BK371 := kb_ BK371 hb; replace BK372 := kb_ BK372 hb; replace BK373 := kb_ BK373 hb; replace HB := bs_ HB hb; clear hb hbox hg; have hnb79 := NB376_364.out; have hnc79 := NB364_376.out; have hnb80 := NB376_365.out; have hnc80 := NB365_376.out; have hnb81 := NB376_366.out; have hnc81 := NB366_376.out; have hnb82 := NB376_371.out; have hnc82 := NB371_376.out; have hnb83 := NB376_372.out; have hnc83 := NB372_376.out; have hnb84 := NB376_373.out; have hnc84 := NB373_376.out; have hcz85_0 : w78.cell? ⟨gb376, 0, none⟩ = some (.int .i64 0) := (blk_cell BK376.out 0).trans rfl; have hcz85_1 : w78.cell? ⟨gb376, 1, none⟩ = some (.int .i64 0) := (blk_cell BK376.out 1).trans rfl; have hfz85_0 := blk_frozen BK376.out 0; have hfz85_1 := blk_frozen BK376.out 1; have hnb86 := NB371_364.out; have hnc86 := NB364_371.out; have hnb87 := NB371_365.out; have hnc87 := NB365_371.out; have hnb88 := NB371_366.out; have hnc88 := NB366_371.out; have hnb89 := NB371_372.out; have hnc89 := NB372_371.out; have hcz90_0 : w78.cell? ⟨gb371, 0, none⟩ = some (.int .i64 t369) := (blk_cell BK371.out 0).trans rfl; have hcz90_1 : w78.cell? ⟨gb371, 1, none⟩ = some (.int .i64 t370) := (blk_cell BK371.out 1).trans rfl; have hfz90_0 := blk_frozen BK371.out 0; have hfz90_1 := blk_frozen BK371.out 1) | ((with_reducible refine gate_callee (f := 57) rfl ?_); refine goesL_ (some 82) rfl rfl Try.func57 (by kernel_rfl) rfl #[.int .i64 (wrap64 ((wrap64 (t374 - t369)) + 500000000)), .int .i64 1000000000] rfl (by (try simp only [List.map_toArray, List.map_cons, List.map_nil]); first | done | rfl | (simp only [List.length_drop, List.length_take]; rfl)) ?_; (with_reducible refine (interval_Floor.calls (wrap64 ((wrap64 (t374 - t369)) + 500000000)) 1000000000 t377 _ A67.out).mono ?_); rintro e w' ⟨rfl, ⟨nd, rfl⟩⟩; refine ⟨_, rfl, ?_⟩))
          have n0_ : Aside0 (((w78.setCell ⟨gb376, 0, none⟩ (.int .i64 t374)).setCell ⟨gb376, 1, none⟩ (.int .i64 t375)).heap[gb364]? = some (.cells #[.int .i64 a0_0, .int .i64 a0_1] 24 (0, 0))) := ⟨kk_ BK364⟩
          have n1_ : Aside0 (((w78.setCell ⟨gb376, 0, none⟩ (.int .i64 t374)).setCell ⟨gb376, 1, none⟩ (.int .i64 t375)).heap[gb365]? = some (.cells #[.int .i64 a1_0, .int .i64 a1_1] 24 (0, 0))) := ⟨kk_ BK365⟩
          have n2_ : Aside0 (((w78.setCell ⟨gb376, 0, none⟩ (.int .i64 t374)).setCell ⟨gb376, 1, none⟩ (.int .i64 t375)).heap[gb366]? = some (.cells #[.int .i64 0, .int .i64 0] 24 (0, 0))) := ⟨kk_ BK366⟩
          have n3_ : Aside0 (((w78.setCell ⟨gb376, 0, none⟩ (.int .i64 t374)).setCell ⟨gb376, 1, none⟩ (.int .i64 t375)).heap[gb371]? = some (.cells #[.int .i64 t369, .int .i64 t370] 24 (0, 0))) := ⟨kk_ BK371⟩
          have n4_ : Aside0 (((w78.setCell ⟨gb376, 0, none⟩ (.int .i64 t374)).setCell ⟨gb376, 1, none⟩ (.int .i64 t375)).heap[gb372]? = some (.cells #[.int .i64 x373000_2, .int .i64 x373001_2] 24 (0, 0))) := ⟨kk_ BK372⟩
          have n5_ : Aside0 (((w78.setCell ⟨gb376, 0, none⟩ (.int .i64 t374)).setCell ⟨gb376, 1, none⟩ (.int .i64 t375)).heap[gb373]? = some (.cells #[.int .i64 (rd [a0_0, a0_1, a0_1] x68_2), .int .i64 (rd [a1_1, a1_0, a1_1] x68_2)] 81 (0, 0))) := ⟨kk_ BK373⟩
          have n6_ : Aside0 (((w78.setCell ⟨gb376, 0, none⟩ (.int .i64 t374)).setCell ⟨gb376, 1, none⟩ (.int .i64 t375)).heap[gb376]? = some (.cells #[.int .i64 t374, .int .i64 t375] 24 (0, 0))) := ⟨by (with_reducible repeat (first | refine blk_drewN ?_ _ | refine blk_drew ?_ | refine blk_alloc ?_ _)); refine blk_put (cs := #[.int .i64 t374, .int .i64 0]) ?_ 1 _ rfl; (with_reducible repeat (first | refine blk_drewN ?_ _ | refine blk_drew ?_ | refine blk_alloc ?_ _)); refine blk_put (cs := #[.int .i64 0, .int .i64 0]) ?_ 0 _ rfl; (with_reducible repeat (first | refine blk_drewN ?_ _ | refine blk_drew ?_ | refine blk_alloc ?_ _)); exact BK376.out⟩
          have n7_ : Aside0 (Below w.heap.size w ((w78.setCell ⟨gb376, 0, none⟩ (.int .i64 t374)).setCell ⟨gb376, 1, none⟩ (.int .i64 t375))) := (be_ HB)
          (try clear BK364)
          (try clear BK365)
          (try clear BK366)
          (try clear BK371)
          (try clear BK372)
          (try clear BK373)
          (try clear BK376)
          (try clear HB)
          generalize ((w78.setCell ⟨gb376, 0, none⟩ (.int .i64 t374)).setCell ⟨gb376, 1, none⟩ (.int .i64 t375)) = w91 at n0_ n1_ n2_ n3_ n4_ n5_ n6_ n7_ ⊢
          have BK364 := n0_
          have BK365 := n1_
          have BK366 := n2_
          have BK371 := n3_
          have BK372 := n4_
          have BK373 := n5_
          have BK376 := n6_
          have HB := n7_
          clear n0_ n1_ n2_ n3_ n4_ n5_ n6_ n7_
          (try (rw [drewN_self w91]; generalize hq_ : World.drewN w91 _ = w91; have n0_ : Aside0 (w91.heap[gb364]? = some (.cells #[.int .i64 a0_0, .int .i64 a0_1] 24 (0, 0))) := ⟨by rw [← hq_]; exact (kk_ BK364)⟩; have n1_ : Aside0 (w91.heap[gb365]? = some (.cells #[.int .i64 a1_0, .int .i64 a1_1] 24 (0, 0))) := ⟨by rw [← hq_]; exact (kk_ BK365)⟩; have n2_ : Aside0 (w91.heap[gb366]? = some (.cells #[.int .i64 0, .int .i64 0] 24 (0, 0))) := ⟨by rw [← hq_]; exact (kk_ BK366)⟩; have n3_ : Aside0 (w91.heap[gb371]? = some (.cells #[.int .i64 t369, .int .i64 t370] 24 (0, 0))) := ⟨by rw [← hq_]; exact (kk_ BK371)⟩; have n4_ : Aside0 (w91.heap[gb372]? = some (.cells #[.int .i64 x373000_2, .int .i64 x373001_2] 24 (0, 0))) := ⟨by rw [← hq_]; exact (kk_ BK372)⟩; have n5_ : Aside0 (w91.heap[gb373]? = some (.cells #[.int .i64 (rd [a0_0, a0_1, a0_1] x68_2), .int .i64 (rd [a1_1, a1_0, a1_1] x68_2)] 81 (0, 0))) := ⟨by rw [← hq_]; exact (kk_ BK373)⟩; have n6_ : Aside0 (w91.heap[gb376]? = some (.cells #[.int .i64 t374, .int .i64 t375] 24 (0, 0))) := ⟨by rw [← hq_]; exact (kk_ BK376)⟩; have n7_ : Aside0 (Below w.heap.size w w91) := ⟨by rw [← hq_]; exact (be_ HB).out⟩; clear BK364 BK365 BK366 BK371 BK372 BK373 BK376 HB hq_; have BK364 := n0_; have BK365 := n1_; have BK366 := n2_; have BK371 := n3_; have BK372 := n4_; have BK373 := n5_; have BK376 := n6_; have HB := n7_; clear n0_ n1_ n2_ n3_ n4_ n5_ n6_ n7_; have hcy364_0 : w91.cell? ⟨gb364, 0, none⟩ = some (.int .i64 a0_0) := (blk_cell BK364.out 0).trans rfl; have hfy364_0 := blk_frozen BK364.out 0; have hcy364_1 : w91.cell? ⟨gb364, 1, none⟩ = some (.int .i64 a0_1) := (blk_cell BK364.out 1).trans rfl; have hfy364_1 := blk_frozen BK364.out 1; have hcy365_0 : w91.cell? ⟨gb365, 0, none⟩ = some (.int .i64 a1_0) := (blk_cell BK365.out 0).trans rfl; have hfy365_0 := blk_frozen BK365.out 0; have hcy365_1 : w91.cell? ⟨gb365, 1, none⟩ = some (.int .i64 a1_1) := (blk_cell BK365.out 1).trans rfl; have hfy365_1 := blk_frozen BK365.out 1; have hcy366_0 : w91.cell? ⟨gb366, 0, none⟩ = some (.int .i64 0) := (blk_cell BK366.out 0).trans rfl; have hfy366_0 := blk_frozen BK366.out 0; have hcy366_1 : w91.cell? ⟨gb366, 1, none⟩ = some (.int .i64 0) := (blk_cell BK366.out 1).trans rfl; have hfy366_1 := blk_frozen BK366.out 1; have hcy371_0 : w91.cell? ⟨gb371, 0, none⟩ = some (.int .i64 t369) := (blk_cell BK371.out 0).trans rfl; have hfy371_0 := blk_frozen BK371.out 0; have hcy371_1 : w91.cell? ⟨gb371, 1, none⟩ = some (.int .i64 t370) := (blk_cell BK371.out 1).trans rfl; have hfy371_1 := blk_frozen BK371.out 1; have hcy372_0 : w91.cell? ⟨gb372, 0, none⟩ = some (.int .i64 x373000_2) := (blk_cell BK372.out 0).trans rfl; have hfy372_0 := blk_frozen BK372.out 0; have hcy372_1 : w91.cell? ⟨gb372, 1, none⟩ = some (.int .i64 x373001_2) := (blk_cell BK372.out 1).trans rfl; have hfy372_1 := blk_frozen BK372.out 1; have hcy373_0 : w91.cell? ⟨gb373, 0, none⟩ = some (.int .i64 (rd [a0_0, a0_1, a0_1] x68_2)) := (blk_cell BK373.out 0).trans rfl; have hfy373_0 := blk_frozen BK373.out 0; have hcy373_1 : w91.cell? ⟨gb373, 1, none⟩ = some (.int .i64 (rd [a1_1, a1_0, a1_1] x68_2)) := (blk_cell BK373.out 1).trans rfl; have hfy373_1 := blk_frozen BK373.out 1; have hcy376_0 : w91.cell? ⟨gb376, 0, none⟩ = some (.int .i64 t374) := (blk_cell BK376.out 0).trans rfl; have hfy376_0 := blk_frozen BK376.out 0; have hcy376_1 : w91.cell? ⟨gb376, 1, none⟩ = some (.int .i64 t375) := (blk_cell BK376.out 1).trans rfl; have hfy376_1 := blk_frozen BK376.out 1))
          replace BK364 := Aside0.mk (blk_drew BK364.out)
          replace BK365 := Aside0.mk (blk_drew BK365.out)
          replace BK366 := Aside0.mk (blk_drew BK366.out)
          replace BK371 := Aside0.mk (blk_drew BK371.out)
          replace BK372 := Aside0.mk (blk_drew BK372.out)
          replace BK373 := Aside0.mk (blk_drew BK373.out)
          replace BK376 := Aside0.mk (blk_drew BK376.out)
          replace HB := Aside0.mk (below_drew1 HB.out)
          refine start_ (n := 18) (S := fun w' => w'.cell? ⟨gb372, 0, none⟩ = some (.int .i64 x373000_2) ∧ w'.cell? ⟨gb372, 1, none⟩ = some (.int .i64 x373001_2) ∧ w'.cell? ⟨gb376, 0, none⟩ = some (.int .i64 t374) ∧ w'.cell? ⟨gb376, 1, none⟩ = some (.int .i64 t375)) (ds := [15, 17]) #[false, false, false, false, false, false, false, false, false, false, false, false, false, false, false, false, false, false] (by kernel_rfl) rfl rfl ⟨(blk_cell BK372.out 0).trans rfl, (blk_cell BK372.out 1).trans rfl, (blk_cell BK376.out 0).trans rfl, (blk_cell BK376.out 1).trans rfl⟩ (fun hHeld => ?_); refine with_tabW trig_Arc.tab16 trig_Arc.bits16 (fun HT_ HW_ => ?_)
          generalize w91.drew = w92 at BK364 BK365 BK366 BK371 BK372 BK373 BK376 HB hHeld ⊢
          refine pure_ (i := 0) (N := some 84) (v := ?_) (a' := ?_) #[true, false, false, false, false, false, false, false, false, false, false, false, false, false, false, false, false, false] rfl rfl (any_of HT_.out (by kernel_rfl)) (fun _ _ _ h => h) (Or.inl ⟨by rfl, ?_⟩) ?_ ?_
          rotate_left
          ·intro w'
           go_simp
           with_reducible rfl
          rotate_left
          ·simp only [Act.put, List.setIfInBounds_toArray, List.set_cons_zero, List.set_cons_succ, i64_w, i32_w]
           rfl
          refine pure_ (i := 2) (N := some 86) (v := ?_) (a' := ?_) #[true, false, true, false, false, false, false, false, false, false, false, false, false, false, false, false, false, false] rfl rfl (any_of HT_.out (by kernel_rfl)) (fun _ _ _ h => h) (Or.inl ⟨by rfl, ?_⟩) ?_ ?_
          rotate_left
          ·intro w'
           go_simp
           with_reducible rfl
          rotate_left
          ·simp only [Act.put, List.setIfInBounds_toArray, List.set_cons_zero, List.set_cons_succ, i64_w, i32_w]
           rfl
          refine pure_ (i := 4) (N := some 88) (v := ?_) (a' := ?_) #[true, false, true, false, true, false, false, false, false, false, false, false, false, false, false, false, false, false] rfl rfl (any_of HT_.out (by kernel_rfl)) (fun _ _ _ h => h) (Or.inl ⟨by rfl, ?_⟩) ?_ ?_
          rotate_left
          ·intro w'
           go_simp
           with_reducible rfl
          rotate_left
          ·simp only [Act.put, List.setIfInBounds_toArray, List.set_cons_zero, List.set_cons_succ, i64_w, i32_w]
           rfl
          refine pure_ (i := 7) (N := some 91) (v := ?_) (a' := ?_) #[true, false, true, false, true, false, false, true, false, false, false, false, false, false, false, false, false, false] rfl rfl (any_of HT_.out (by kernel_rfl)) (fun _ _ _ h => h) (Or.inl ⟨by rfl, ?_⟩) ?_ ?_
          rotate_left
          ·intro w'
           go_simp
           with_reducible rfl
          rotate_left
          ·simp only [Act.put, List.setIfInBounds_toArray, List.set_cons_zero, List.set_cons_succ, i64_w, i32_w]
           rfl
          refine pure_ (i := 9) (N := some 93) (v := ?_) (a' := ?_) #[true, false, true, false, true, false, false, true, false, true, false, false, false, false, false, false, false, false] rfl rfl (any_of HT_.out (by kernel_rfl)) (fun _ _ _ h => h) (Or.inl ⟨by rfl, ?_⟩) ?_ ?_
          rotate_left
          ·intro w'
           go_simp
           with_reducible rfl
          rotate_left
          ·simp only [Act.put, List.setIfInBounds_toArray, List.set_cons_zero, List.set_cons_succ, i64_w, i32_w]
           rfl
          refine pure_ (i := 11) (N := some 95) (v := ?_) (a' := ?_) #[true, false, true, false, true, false, false, true, false, true, false, true, false, false, false, false, false, false] rfl rfl (any_of HT_.out (by kernel_rfl)) (fun _ _ _ h => h) (Or.inl ⟨by rfl, ?_⟩) ?_ ?_
          rotate_left
          ·intro w'
           go_simp
           with_reducible rfl
          rotate_left
          ·simp only [Act.put, List.setIfInBounds_toArray, List.set_cons_zero, List.set_cons_succ, i64_w, i32_w]
           rfl
          refine take_ (i := 1) (N := some 85) (v := ?_) (a' := ?_) #[true, true, true, false, true, false, false, true, false, true, false, true, false, false, false, false, false, false] rfl rfl (take_ofW HT_.out HW_.out (by kernel_rfl)) (fun _ _ _ h => h) (Or.inl ⟨by rfl, ?_⟩) hHeld ?_ ?_
          rotate_left
          ·rintro w' ⟨s0, s1, s2, s3⟩
           go_simp
           with_reducible rfl
          rotate_left
          ·simp only [Act.put, List.setIfInBounds_toArray, List.set_cons_zero, List.set_cons_succ, i64_w, i32_w]
           rfl
          refine take_ (i := 3) (N := some 87) (v := ?_) (a' := ?_) #[true, true, true, true, true, false, false, true, false, true, false, true, false, false, false, false, false, false] rfl rfl (take_ofW HT_.out HW_.out (by kernel_rfl)) (fun _ _ _ h => h) (Or.inl ⟨by rfl, ?_⟩) hHeld ?_ ?_
          rotate_left
          ·rintro w' ⟨s0, s1, s2, s3⟩
           go_simp
           with_reducible rfl
          rotate_left
          ·simp only [Act.put, List.setIfInBounds_toArray, List.set_cons_zero, List.set_cons_succ, i64_w, i32_w]
           rfl
          refine pure_ (i := 5) (N := some 89) (v := ?_) (a' := ?_) #[true, true, true, true, true, true, false, true, false, true, false, true, false, false, false, false, false, false] rfl rfl (any_of HT_.out (by kernel_rfl)) (fun _ _ _ h => h) (Or.inl ⟨by rfl, ?_⟩) ?_ ?_
          rotate_left
          ·intro w'
           go_simp
           with_reducible rfl
          rotate_left
          ·simp only [Act.put, List.setIfInBounds_toArray, List.set_cons_zero, List.set_cons_succ, i64_w, i32_w]
           rfl
          refine pure_ (i := 6) (N := some 90) (v := ?_) (a' := ?_) #[true, true, true, true, true, true, true, true, false, true, false, true, false, false, false, false, false, false] rfl rfl (any_of HT_.out (by kernel_rfl)) (fun _ _ _ h => h) (Or.inl ⟨by rfl, ?_⟩) ?_ ?_
          rotate_left
          ·intro w'
           go_simp
           with_reducible rfl
          rotate_left
          ·simp only [Act.put, List.setIfInBounds_toArray, List.set_cons_zero, List.set_cons_succ, i64_w, i32_w]
           rfl
          refine take_ (i := 8) (N := some 92) (v := ?_) (a' := ?_) #[true, true, true, true, true, true, true, true, true, true, false, true, false, false, false, false, false, false] rfl rfl (take_ofW HT_.out HW_.out (by kernel_rfl)) (fun _ _ _ h => h) (Or.inl ⟨by rfl, ?_⟩) hHeld ?_ ?_
          rotate_left
          ·rintro w' ⟨s0, s1, s2, s3⟩
           go_simp
           with_reducible rfl
          rotate_left
          ·simp only [Act.put, List.setIfInBounds_toArray, List.set_cons_zero, List.set_cons_succ, i64_w, i32_w]
           rfl
          refine pure_ (i := 14) (N := some 98) (v := ?_) (a' := ?_) #[true, true, true, true, true, true, true, true, true, true, false, true, false, false, true, false, false, false] rfl rfl (any_of HT_.out (by kernel_rfl)) (fun _ _ _ h => h) (Or.inl ⟨by rfl, ?_⟩) ?_ ?_
          rotate_left
          ·intro w'
           go_simp
           with_reducible rfl
          rotate_left
          ·simp only [Act.put, List.setIfInBounds_toArray, List.set_cons_zero, List.set_cons_succ, i64_w, i32_w]
           rfl
          try simp only [] at hHeld
          obtain ⟨s0, s1, s2, s3⟩ := hHeld
          apply mergeQ_
          ·intro hQ
           refine readyQ_ [10, 15] (by kernel_rfl) (by simp) (consQ_ (i := 10) (N := some 94) #[true, true, true, true, true, true, true, true, true, true, true, true, false, false, true, false, false, false] rfl rfl (by kernel_rfl) (fun K hK => ?_) (consL_ (i := 15) (N := none) #[true, true, true, true, true, true, true, true, true, true, false, true, false, false, true, true, false, false] rfl rfl (by kernel_rfl) (by decide) (fun K hK => ?_) AllReadyL.nil))
           ·skip
            refine value_ (w1 := ?_) (v := ?_) (by rfl) rfl ?_ ?_
            rotate_left 2
            ·go_simp
             constructor
             ·rfl
             ·rfl
            refine hK.out _ _ (fun h_ => h_) ?_
            clear hK K
            refine norm_ (a' := ?_) ?_ ?_
            rotate_left
            ·show Act.put _ (some 94) _ = _
             simp only [Act.put, List.setIfInBounds_toArray, List.set_cons_zero, List.set_cons_succ, i64_w, i32_w]
             rfl
            refine pure_ (i := 12) (N := some 96) (v := ?_) (a' := ?_) #[true, true, true, true, true, true, true, true, true, true, true, true, true, false, true, false, false, false] rfl rfl (any_of HT_.out (by kernel_rfl)) (fun _ _ _ h => h) (Or.inl ⟨by rfl, ?_⟩) ?_ ?_
            rotate_left
            ·intro w'
             go_simp
             with_reducible rfl
            rotate_left
            ·simp only [Act.put, List.setIfInBounds_toArray, List.set_cons_zero, List.set_cons_succ, i64_w, i32_w]
             rfl
            refine pure_ (i := 13) (N := some 97) (v := ?_) (a' := ?_) #[true, true, true, true, true, true, true, true, true, true, true, true, true, true, true, false, false, false] rfl rfl (any_of HT_.out (by kernel_rfl)) (fun _ _ _ h => h) (Or.inl ⟨by rfl, ?_⟩) ?_ ?_
            rotate_left
            ·intro w'
             go_simp
             with_reducible rfl
            rotate_left
            ·simp only [Act.put, List.setIfInBounds_toArray, List.set_cons_zero, List.set_cons_succ, i64_w, i32_w]
             rfl
            refine readyQ_ [15] (by kernel_rfl) (by simp) (consL_ (i := 15) (N := none) #[true, true, true, true, true, true, true, true, true, true, true, true, true, true, true, true, false, false] rfl rfl (by kernel_rfl) (by decide) (fun K hK => ?_) AllReadyL.nil)
            have hs93 : w92.cell? ⟨gb372, 0, none⟩ = some (.int .i64 x373000_2) := (blk_cell BK372.out 0).trans rfl
            have hfs93 := blk_frozen BK372.out 0
            have hns93_0 := NB364_372.out
            have hns93_1 := NB365_372.out
            have hns93_2 := NB366_372.out
            have hns93_3 := NB371_372.out
            have hns93_5 := NB373_372.out
            have hns93_6 := NB376_372.out
            have hms93_0 := NB372_364.out
            have hms93_1 := NB372_365.out
            have hms93_2 := NB372_366.out
            have hms93_3 := NB372_371.out
            have hms93_5 := NB372_373.out
            have hms93_6 := NB372_376.out
            refine skip_ (w1 := ?_) (by rfl) rfl ?_ ?_
            rotate_left
            ·go_simp
             rfl
            refine hK.out _ _ ?_
            clear hK K
            refine pure_ (i := 16) (N := some 99) (v := ?_) (a' := ?_) #[true, true, true, true, true, true, true, true, true, true, true, true, true, true, true, true, true, false] rfl rfl (any_of HT_.out (by kernel_rfl)) (fun _ _ _ h => h) (Or.inl ⟨by rfl, ?_⟩) ?_ ?_
            rotate_left
            ·intro w'
             go_simp
             with_reducible rfl
            rotate_left
            ·simp only [Act.put, List.setIfInBounds_toArray, List.set_cons_zero, List.set_cons_succ, i64_w, i32_w]
             rfl
            refine readyQ_ [17] (by kernel_rfl) (by simp) (consL_ (i := 17) (N := none) #[true, true, true, true, true, true, true, true, true, true, true, true, true, true, true, true, true, true] rfl rfl (by kernel_rfl) (by decide) (fun K hK => ?_) AllReadyL.nil)
            have hs94 : w92.cell? ⟨gb372, 1, none⟩ = some (.int .i64 x373001_2) := (blk_cell BK372.out 1).trans rfl
            have hfs94 := blk_frozen BK372.out 1
            have hns94_0 := NB364_372.out
            have hns94_1 := NB365_372.out
            have hns94_2 := NB366_372.out
            have hns94_3 := NB371_372.out
            have hns94_5 := NB373_372.out
            have hns94_6 := NB376_372.out
            have hms94_0 := NB372_364.out
            have hms94_1 := NB372_365.out
            have hms94_2 := NB372_366.out
            have hms94_3 := NB372_371.out
            have hms94_5 := NB372_373.out
            have hms94_6 := NB372_376.out
            refine skip_ (w1 := ?_) (by rfl) rfl ?_ ?_
            rotate_left
            ·go_simp
             rfl
            refine hK.out _ _ ?_
            clear hK K
            exact hQ
           ·skip
            have hs93 : w92.cell? ⟨gb372, 0, none⟩ = some (.int .i64 x373000_2) := (blk_cell BK372.out 0).trans rfl
            have hfs93 := blk_frozen BK372.out 0
            have hns93_0 := NB364_372.out
            have hns93_1 := NB365_372.out
            have hns93_2 := NB366_372.out
            have hns93_3 := NB371_372.out
            have hns93_5 := NB373_372.out
            have hns93_6 := NB376_372.out
            have hms93_0 := NB372_364.out
            have hms93_1 := NB372_365.out
            have hms93_2 := NB372_366.out
            have hms93_3 := NB372_371.out
            have hms93_5 := NB372_373.out
            have hms93_6 := NB372_376.out
            refine skip_ (w1 := ?_) (by rfl) rfl ?_ ?_
            rotate_left
            ·go_simp
             rfl
            refine hK.out _ _ ?_
            clear hK K
            refine readyQ_ [10] (by kernel_rfl) (by simp) (consQ_ (i := 10) (N := some 94) #[true, true, true, true, true, true, true, true, true, true, true, true, false, false, true, true, false, false] rfl rfl (by kernel_rfl) (fun K hK => ?_) AllReadyL.nil)
            refine value_ (w1 := ?_) (v := ?_) (by rfl) rfl ?_ ?_
            rotate_left 2
            ·go_simp
             constructor
             ·rfl
             ·rfl
            refine hK.out _ _ (fun h_ => h_) ?_
            clear hK K
            refine norm_ (a' := ?_) ?_ ?_
            rotate_left
            ·show Act.put _ (some 94) _ = _
             simp only [Act.put, List.setIfInBounds_toArray, List.set_cons_zero, List.set_cons_succ, i64_w, i32_w]
             rfl
            refine pure_ (i := 12) (N := some 96) (v := ?_) (a' := ?_) #[true, true, true, true, true, true, true, true, true, true, true, true, true, false, true, true, false, false] rfl rfl (any_of HT_.out (by kernel_rfl)) (fun _ _ _ h => h) (Or.inl ⟨by rfl, ?_⟩) ?_ ?_
            rotate_left
            ·intro w'
             go_simp
             with_reducible rfl
            rotate_left
            ·simp only [Act.put, List.setIfInBounds_toArray, List.set_cons_zero, List.set_cons_succ, i64_w, i32_w]
             rfl
            refine pure_ (i := 13) (N := some 97) (v := ?_) (a' := ?_) #[true, true, true, true, true, true, true, true, true, true, true, true, true, true, true, true, false, false] rfl rfl (any_of HT_.out (by kernel_rfl)) (fun _ _ _ h => h) (Or.inl ⟨by rfl, ?_⟩) ?_ ?_
            rotate_left
            ·intro w'
             go_simp
             with_reducible rfl
            rotate_left
            ·simp only [Act.put, List.setIfInBounds_toArray, List.set_cons_zero, List.set_cons_succ, i64_w, i32_w]
             rfl
            refine pure_ (i := 16) (N := some 99) (v := ?_) (a' := ?_) #[true, true, true, true, true, true, true, true, true, true, true, true, true, true, true, true, true, false] rfl rfl (any_of HT_.out (by kernel_rfl)) (fun _ _ _ h => h) (Or.inl ⟨by rfl, ?_⟩) ?_ ?_
            rotate_left
            ·intro w'
             go_simp
             with_reducible rfl
            rotate_left
            ·simp only [Act.put, List.setIfInBounds_toArray, List.set_cons_zero, List.set_cons_succ, i64_w, i32_w]
             rfl
            refine readyQ_ [17] (by kernel_rfl) (by simp) (consL_ (i := 17) (N := none) #[true, true, true, true, true, true, true, true, true, true, true, true, true, true, true, true, true, true] rfl rfl (by kernel_rfl) (by decide) (fun K hK => ?_) AllReadyL.nil)
            have hs94 : w92.cell? ⟨gb372, 1, none⟩ = some (.int .i64 x373001_2) := (blk_cell BK372.out 1).trans rfl
            have hfs94 := blk_frozen BK372.out 1
            have hns94_0 := NB364_372.out
            have hns94_1 := NB365_372.out
            have hns94_2 := NB366_372.out
            have hns94_3 := NB371_372.out
            have hns94_5 := NB373_372.out
            have hns94_6 := NB376_372.out
            have hms94_0 := NB372_364.out
            have hms94_1 := NB372_365.out
            have hms94_2 := NB372_366.out
            have hms94_3 := NB372_371.out
            have hms94_5 := NB372_373.out
            have hms94_6 := NB372_376.out
            refine skip_ (w1 := ?_) (by rfl) rfl ?_ ?_
            rotate_left
            ·go_simp
             rfl
            refine hK.out _ _ ?_
            clear hK K
            exact hQ
          refine done_ (done_of HT_.out (by kernel_rfl)) ?_
          try go_wp2
          go_roundg k2
          case measure => have := HJ14.out; have := HK2.out; omega
          case rel => exact ⟨(wrap64 (x68_2 + 1)), (ji68), (ji69), (by first | rfl | (simp; done) | (simp [*]; done)), H', ⟨by have := HJ14.out; have := HK2.out; omega⟩, ⟨kk_ BK364⟩, ⟨kk_ BK365⟩, ⟨kk_ BK366⟩, ⟨kk_ BK371⟩, ⟨by (with_reducible repeat (first | refine blk_drewN ?_ _ | refine blk_drew ?_ | refine blk_alloc ?_ _)); refine blk_put (cs := #[.int .i64 ji68, .int .i64 x373001_2]) ?_ 1 _ rfl; (with_reducible repeat (first | refine blk_drewN ?_ _ | refine blk_drew ?_ | refine blk_alloc ?_ _)); refine blk_put (cs := #[.int .i64 x373000_2, .int .i64 x373001_2]) ?_ 0 _ rfl; (with_reducible repeat (first | refine blk_drewN ?_ _ | refine blk_drew ?_ | refine blk_alloc ?_ _)); exact BK372.out⟩, (be_ HB)⟩
         ·rw [if_neg c64] at H
          exact absurd H (by simp)
        ·rw [if_neg c63] at H
         have c63b0 : decide (x68_2 < 3) = false := decide_eq_false c63
         clear c63
         by_cases c95 : (wrap64 (x373001_2 - x373000_2)) > 400000000
         ·rw [if_pos c95] at H
          have c95b0 : decide (400000000 < (wrap64 (x373001_2 - x373000_2))) = true := decide_eq_true c95
          clear c95
          simp only [Option.some.injEq, Prod.mk.injEq] at H
          obtain ⟨rfl, rfl, rfl⟩ := H
          have hnb96 := NB372_364.out
          have hnc96 := NB364_372.out
          have hnb97 := NB372_365.out
          have hnc97 := NB365_372.out
          have hnb98 := NB372_366.out
          have hnc98 := NB366_372.out
          have hnb99 := NB372_371.out
          have hnc99 := NB371_372.out
          have hcz100_0 : wr.cell? ⟨gb372, 0, none⟩ = some (.int .i64 x373000_2) := (blk_cell BK372.out 0).trans rfl
          have hcz100_1 : wr.cell? ⟨gb372, 1, none⟩ = some (.int .i64 x373001_2) := (blk_cell BK372.out 1).trans rfl
          have hfz100_0 := blk_frozen BK372.out 0
          have hfz100_1 := blk_frozen BK372.out 1
          have hnb101 := NB366_364.out
          have hnc101 := NB364_366.out
          have hnb102 := NB366_365.out
          have hnc102 := NB365_366.out
          have hnb103 := NB366_371.out
          have hnc103 := NB371_366.out
          have hcz104_0 : wr.cell? ⟨gb366, 0, none⟩ = some (.int .i64 0) := (blk_cell BK366.out 0).trans rfl
          have hcz104_1 : wr.cell? ⟨gb366, 1, none⟩ = some (.int .i64 0) := (blk_cell BK366.out 1).trans rfl
          have hfz104_0 := blk_frozen BK366.out 0
          have hfz104_1 := blk_frozen BK366.out 1
          go_wp2
          refine bodyPost_ret (results_ct rfl _ _ gb366 24 #[.int .i64 0, .int .i64 0] (0, 0) _ rfl (by (with_reducible repeat (first | refine blk_drewN ?_ _ | refine blk_drew ?_ | refine blk_alloc ?_ _)); refine blk_put (cs := #[.int .i64 0, .int .i64 0]) ?_ 1 _ rfl; (with_reducible repeat (first | refine blk_drewN ?_ _ | refine blk_drew ?_ | refine blk_alloc ?_ _)); refine blk_put (cs := #[.int .i64 0, .int .i64 0]) ?_ 0 _ rfl; (with_reducible repeat (first | refine blk_drewN ?_ _ | refine blk_drew ?_ | refine blk_alloc ?_ _)); exact BK366.out) Try.underlying24 rfl (by kernel_rfl)) rfl ?_
          exact ⟨by first | rfl | (simp [errW_none, errW_some] <;> rfl) | (simp [*, errW_none, errW_some] <;> rfl), (be_ HB).out⟩
         ·rw [if_neg c95] at H
          have c95b0 : decide (400000000 < (wrap64 (x373001_2 - x373000_2))) = false := decide_eq_false c95
          clear c95
          replace H := Option.bind_eq_some_iff.mp H
          obtain ⟨t378, A1050, H⟩ := H
          replace H : (some (wrap64 (x373000_2 - (wrap64 (t378 * 1000000000))), wrap64 (x373001_2 - (wrap64 (t378 * 1000000000))), 0)) = some (r1, r2, r3) := H
          have A105 := Aside0.mk A1050
          clear A1050
          simp only [Option.some.injEq, Prod.mk.injEq] at H
          obtain ⟨rfl, rfl, rfl⟩ := H
          have hnb106 := NB372_364.out
          have hnc106 := NB364_372.out
          have hnb107 := NB372_365.out
          have hnc107 := NB365_372.out
          have hnb108 := NB372_366.out
          have hnc108 := NB366_372.out
          have hnb109 := NB372_371.out
          have hnc109 := NB371_372.out
          have hcz110_0 : wr.cell? ⟨gb372, 0, none⟩ = some (.int .i64 x373000_2) := (blk_cell BK372.out 0).trans rfl
          have hcz110_1 : wr.cell? ⟨gb372, 1, none⟩ = some (.int .i64 x373001_2) := (blk_cell BK372.out 1).trans rfl
          have hfz110_0 := blk_frozen BK372.out 0
          have hfz110_1 := blk_frozen BK372.out 1
          go_wp2_with (first | ((with_reducible refine gate_callee (f := 57) rfl ?_); refine goesL_ (some 110) rfl rfl Try.func57 (by kernel_rfl) rfl #[.int .i64 x373000_2, .int .i64 1000000000] rfl (by (try simp only [List.map_toArray, List.map_cons, List.map_nil]); first | done | rfl | (simp only [List.length_drop, List.length_take]; rfl)) ?_; (with_reducible refine (interval_Floor.calls x373000_2 1000000000 t378 _ A105.out).mono ?_); rintro e w' ⟨rfl, ⟨nd, rfl⟩⟩; refine ⟨_, rfl, ?_⟩; (try (rw [drewN_self wr]; generalize hq_ : World.drewN wr _ = wr; have n0_ : Aside0 (wr.heap[gb364]? = some (.cells #[.int .i64 a0_0, .int .i64 a0_1] 24 (0, 0))) := ⟨by rw [← hq_]; exact (kk_ BK364)⟩; have n1_ : Aside0 (wr.heap[gb365]? = some (.cells #[.int .i64 a1_0, .int .i64 a1_1] 24 (0, 0))) := ⟨by rw [← hq_]; exact (kk_ BK365)⟩; have n2_ : Aside0 (wr.heap[gb366]? = some (.cells #[.int .i64 0, .int .i64 0] 24 (0, 0))) := ⟨by rw [← hq_]; exact (kk_ BK366)⟩; have n3_ : Aside0 (wr.heap[gb371]? = some (.cells #[.int .i64 t369, .int .i64 t370] 24 (0, 0))) := ⟨by rw [← hq_]; exact (kk_ BK371)⟩; have n4_ : Aside0 (wr.heap[gb372]? = some (.cells #[.int .i64 x373000_2, .int .i64 x373001_2] 24 (0, 0))) := ⟨by rw [← hq_]; exact (kk_ BK372)⟩; have n5_ : Aside0 (Below w.heap.size w wr) := ⟨by rw [← hq_]; exact (be_ HB).out⟩; clear BK364 BK365 BK366 BK371 BK372 HB hq_; have BK364 := n0_; have BK365 := n1_; have BK366 := n2_; have BK371 := n3_; have BK372 := n4_; have HB := n5_; clear n0_ n1_ n2_ n3_ n4_ n5_; have hcy364_0 : wr.cell? ⟨gb364, 0, none⟩ = some (.int .i64 a0_0) := (blk_cell BK364.out 0).trans rfl; have hfy364_0 := blk_frozen BK364.out 0; have hcy364_1 : wr.cell? ⟨gb364, 1, none⟩ = some (.int .i64 a0_1) := (blk_cell BK364.out 1).trans rfl; have hfy364_1 := blk_frozen BK364.out 1; have hcy365_0 : wr.cell? ⟨gb365, 0, none⟩ = some (.int .i64 a1_0) := (blk_cell BK365.out 0).trans rfl; have hfy365_0 := blk_frozen BK365.out 0; have hcy365_1 : wr.cell? ⟨gb365, 1, none⟩ = some (.int .i64 a1_1) := (blk_cell BK365.out 1).trans rfl; have hfy365_1 := blk_frozen BK365.out 1; have hcy366_0 : wr.cell? ⟨gb366, 0, none⟩ = some (.int .i64 0) := (blk_cell BK366.out 0).trans rfl; have hfy366_0 := blk_frozen BK366.out 0; have hcy366_1 : wr.cell? ⟨gb366, 1, none⟩ = some (.int .i64 0) := (blk_cell BK366.out 1).trans rfl; have hfy366_1 := blk_frozen BK366.out 1; have hcy371_0 : wr.cell? ⟨gb371, 0, none⟩ = some (.int .i64 t369) := (blk_cell BK371.out 0).trans rfl; have hfy371_0 := blk_frozen BK371.out 0; have hcy371_1 : wr.cell? ⟨gb371, 1, none⟩ = some (.int .i64 t370) := (blk_cell BK371.out 1).trans rfl; have hfy371_1 := blk_frozen BK371.out 1; have hcy372_0 : wr.cell? ⟨gb372, 0, none⟩ = some (.int .i64 x373000_2) := (blk_cell BK372.out 0).trans rfl; have hfy372_0 := blk_frozen BK372.out 0; have hcy372_1 : wr.cell? ⟨gb372, 1, none⟩ = some (.int .i64 x373001_2) := (blk_cell BK372.out 1).trans rfl; have hfy372_1 := blk_frozen BK372.out 1)); have hnb111 := NB366_364.out; have hnc111 := NB364_366.out; have hnb112 := NB366_365.out; have hnc112 := NB365_366.out; have hnb113 := NB366_371.out; have hnc113 := NB371_366.out; have hcz114_0 : wr.cell? ⟨gb366, 0, none⟩ = some (.int .i64 0) := (blk_cell BK366.out 0).trans rfl; have hcz114_1 : wr.cell? ⟨gb366, 1, none⟩ = some (.int .i64 0) := (blk_cell BK366.out 1).trans rfl; have hfz114_0 := blk_frozen BK366.out 0; have hfz114_1 := blk_frozen BK366.out 1))
          refine bodyPost_ret (results_ct rfl _ _ gb366 24 #[.int .i64 (wrap64 (x373000_2 - (wrap64 (t378 * 1000000000)))), .int .i64 (wrap64 (x373001_2 - (wrap64 (t378 * 1000000000))))] (0, 0) _ rfl (by (with_reducible repeat (first | refine blk_drewN ?_ _ | refine blk_drew ?_ | refine blk_alloc ?_ _)); refine blk_put (cs := #[.int .i64 (wrap64 (x373000_2 - (wrap64 (t378 * 1000000000)))), .int .i64 0]) ?_ 1 _ rfl; (with_reducible repeat (first | refine blk_drewN ?_ _ | refine blk_drew ?_ | refine blk_alloc ?_ _)); refine blk_put (cs := #[.int .i64 0, .int .i64 0]) ?_ 0 _ rfl; (with_reducible repeat (first | refine blk_drewN ?_ _ | refine blk_drew ?_ | refine blk_alloc ?_ _)); exact BK366.out) Try.underlying24 rfl (by kernel_rfl)) rfl ?_
          exact ⟨by first | rfl | (simp [errW_none, errW_some] <;> rfl) | (simp [*, errW_none, errW_some] <;> rfl), (be_ HB).out⟩
  ·rw [if_neg c14] at H
   have c14b0 : (t368 == 0) = false := beq_eq_false_iff_ne.mpr c14
   have c14b1 : (t368 != 0) = true := bne_iff_ne.mpr c14
   simp only [Option.some.injEq, Prod.mk.injEq] at H
   obtain ⟨rfl, rfl, rfl⟩ := H
   have hnb115 := NB365_364.out
   have hnc115 := NB364_365.out
   have hnb116 := NB365_366.out
   have hnc116 := NB366_365.out
   have hcz117_0 : w11.cell? ⟨gb365, 0, none⟩ = some (.int .i64 a1_0) := (blk_cell BK365.out 0).trans rfl
   have hcz117_1 : w11.cell? ⟨gb365, 1, none⟩ = some (.int .i64 a1_1) := (blk_cell BK365.out 1).trans rfl
   have hfz117_0 := blk_frozen BK365.out 0
   have hfz117_1 := blk_frozen BK365.out 1
   go_wp2_with (first | ((with_reducible refine gate_callee (f := 65) rfl ?_); refine goesL_ (some 22) rfl rfl Try.func65 (by kernel_rfl) rfl #[.agg #[.int .i64 a1_0, .int .i64 a1_1]] rfl (by (try simp only [List.map_toArray, List.map_cons, List.map_nil]); first | done | rfl | (simp only [List.length_drop, List.length_take]; rfl)) ?_; (with_reducible refine (interval_Check.calls k a1_0 a1_1 t368 _ A13.out).mono ?_); rintro e w118 ⟨rfl, hb⟩; refine ⟨_, rfl, ?_⟩; replace BK364 := kb_ BK364 hb; replace BK365 := kb_ BK365 hb; replace BK366 := kb_ BK366 hb; replace HB := bs_ HB hb; (try clear hb); (try clear hb2); (try clear hk); (try clear hi); have hnb119 := NB366_364.out; have hnc119 := NB364_366.out; have hcz120_0 : w118.cell? ⟨gb366, 0, none⟩ = some (.int .i64 0) := (blk_cell BK366.out 0).trans rfl; have hcz120_1 : w118.cell? ⟨gb366, 1, none⟩ = some (.int .i64 0) := (blk_cell BK366.out 1).trans rfl; have hfz120_0 := blk_frozen BK366.out 0; have hfz120_1 := blk_frozen BK366.out 1))
   refine bodyPost_ret (results_ct rfl _ _ gb366 24 #[.int .i64 0, .int .i64 0] (0, 0) _ rfl (by (with_reducible repeat (first | refine blk_drewN ?_ _ | refine blk_drew ?_ | refine blk_alloc ?_ _)); refine blk_put (cs := #[.int .i64 0, .int .i64 0]) ?_ 1 _ rfl; (with_reducible repeat (first | refine blk_drewN ?_ _ | refine blk_drew ?_ | refine blk_alloc ?_ _)); refine blk_put (cs := #[.int .i64 0, .int .i64 0]) ?_ 0 _ rfl; (with_reducible repeat (first | refine blk_drewN ?_ _ | refine blk_drew ?_ | refine blk_alloc ?_ _)); exact BK366.out) Try.underlying24 rfl (by kernel_rfl)) rfl ?_
   exact ⟨by first | rfl | (simp [errW_none, errW_some] <;> rfl) | (simp [*, errW_none, errW_some] <;> rfl), (be_ HB).out⟩
 ·rw [if_neg c12] at H
  have c12b0 : (t367 == 0) = false := beq_eq_false_iff_ne.mpr c12
  have c12b1 : (t367 != 0) = true := bne_iff_ne.mpr c12
  (first | rw [c12b0] | (simp only [i64_w, i32_w]; rw [c12b0]) | skip)
  simp only [Option.some.injEq, Prod.mk.injEq] at H
  obtain ⟨rfl, rfl, rfl⟩ := H
  have hnb121 := NB366_364.out
  have hnc121 := NB364_366.out
  have hnb122 := NB366_365.out
  have hnc122 := NB365_366.out
  have hcz123_0 : w11.cell? ⟨gb366, 0, none⟩ = some (.int .i64 0) := (blk_cell BK366.out 0).trans rfl
  have hcz123_1 : w11.cell? ⟨gb366, 1, none⟩ = some (.int .i64 0) := (blk_cell BK366.out 1).trans rfl
  have hfz123_0 := blk_frozen BK366.out 0
  have hfz123_1 := blk_frozen BK366.out 1
  go_wp2
  refine bodyPost_ret (results_ct rfl _ _ gb366 24 #[.int .i64 0, .int .i64 0] (0, 0) _ rfl (by (with_reducible repeat (first | refine blk_drewN ?_ _ | refine blk_drew ?_ | refine blk_alloc ?_ _)); refine blk_put (cs := #[.int .i64 0, .int .i64 0]) ?_ 1 _ rfl; (with_reducible repeat (first | refine blk_drewN ?_ _ | refine blk_drew ?_ | refine blk_alloc ?_ _)); refine blk_put (cs := #[.int .i64 0, .int .i64 0]) ?_ 0 _ rfl; (with_reducible repeat (first | refine blk_drewN ?_ _ | refine blk_drew ?_ | refine blk_alloc ?_ _)); exact BK366.out) Try.underlying24 rfl (by kernel_rfl)) rfl ?_
  exact ⟨by first | rfl | (simp [errW_none, errW_some] <;> rfl) | (simp [*, errW_none, errW_some] <;> rfl), (be_ HB).out⟩
end Go.Proofs.Ytmahlfjnejbcnaa.PAll
end
section
namespace Go.Proofs.Ytmahlfjnejbcnaa.PAll
open Go.RowKit YtmahlfjnejbcnaaW.PrintWords YtmahlfjnejbcnaaW.PrintLast YtmahlfjnejbcnaaW.PrintMore More2 Sq
attribute [local go_sem] max2_int min2_int max_two min_two max_three min_three max_four min_four tdiv2e18_ tdiv1e18_ cellSS_  -- for this text's walks alone
def sun_less.f (a0_0 : Int) (a0_1 : Int) (a1_0 : Int) (a1_1 : Int) : Option (Int × Int) := some (wrap64 (a0_0 - a1_1), wrap64 (a0_1 - a1_0))
theorem sun_less.calls (a0_0 : Int) (a0_1 : Int) (a1_0 : Int) (a1_1 : Int) (r1 : Int) (r2 : Int) (w : World) (h : sun_less.f a0_0 a0_1 a1_0 a1_1 = some (r1, r2)) :
  Calls Try.prog 82 #[.agg #[.int .i64 a0_0, .int .i64 a0_1], .agg #[.int .i64 a1_0, .int .i64 a1_1]] w fun e w' => e = .returned (.agg #[.int .i64 r1, .int .i64 r2]) ∧ Below w.heap.size w w' := by
 have hu24 := Try.underlying24
 have HB := Aside0.mk (Below.refl w.heap.size w)
 have H : (some (wrap64 (a0_0 - a1_1), wrap64 (a0_1 - a1_0))) = some (r1, r2) := h
 clear h
 simp only [Option.some.injEq, Prod.mk.injEq] at H
 obtain ⟨rfl, rfl⟩ := H
 go_enter Try.func82, Try.ntmps82
 go_wp2_with (first | ((with_reducible refine gate_dst (N := 2) rfl ?_); refine box_event ?hg (N := 2) ?hd (cs := #[.int .i64 a0_0, .int .i64 a0_1]) (t := 24) ?hr ?_; (case hd => rfl); (case hg => rfl); (case hr => first | (go_simp; done) | (go_simp; rfl)); intro gb379 hg w3 hbox hb; have BK379 := Aside0.mk (hbox); have GW379 := ge_ hg HB; have GE379 := ge_ hg HB; replace HB := bs_ HB hb; clear hb hbox hg) | ((with_reducible refine gate_dst (N := 3) rfl ?_); refine box_event ?hg (N := 3) ?hd (cs := #[.int .i64 a1_0, .int .i64 a1_1]) (t := 24) ?hr ?_; (case hd => rfl); (case hg => rfl); (case hr => first | (go_simp; done) | (go_simp; rfl)); intro gb380 hg w4 hbox hb; have BK380 := Aside0.mk (hbox); have GW380 := ge_ hg HB; have GE380 := ge_ hg HB; have NB379_380 := nl_ hg BK379; have NB380_379 := ng_ hg BK379; replace BK379 := kb_ BK379 hb; replace HB := bs_ HB hb; clear hb hbox hg) | ((with_reducible refine gate_dst (N := 4) rfl ?_); refine box_event ?hg (N := 4) ?hd (cs := #[.int .i64 0, .int .i64 0]) (t := 24) ?hr ?_; (case hd => rfl); (case hg => rfl); (case hr => first | (go_simp; done) | (go_simp; rfl)); intro gb381 hg w5 hbox hb; have BK381 := Aside0.mk (hbox); have GW381 := ge_ hg HB; have GE381 := ge_ hg HB; have NB379_381 := nl_ hg BK379; have NB381_379 := ng_ hg BK379; have NB380_381 := nl_ hg BK380; have NB381_380 := ng_ hg BK380; replace BK379 := kb_ BK379 hb; replace BK380 := kb_ BK380 hb; replace HB := bs_ HB hb; clear hb hbox hg; have hnb6 := NB379_380.out; have hnc6 := NB380_379.out; have hnb7 := NB379_381.out; have hnc7 := NB381_379.out; have hcz8_0 : w5.cell? ⟨gb379, 0, none⟩ = some (.int .i64 a0_0) := (blk_cell BK379.out 0).trans rfl; have hcz8_1 : w5.cell? ⟨gb379, 1, none⟩ = some (.int .i64 a0_1) := (blk_cell BK379.out 1).trans rfl; have hfz8_0 := blk_frozen BK379.out 0; have hfz8_1 := blk_frozen BK379.out 1; have hnb9 := NB380_381.out; have hnc9 := NB381_380.out; have hcz10_0 : w5.cell? ⟨gb380, 0, none⟩ = some (.int .i64 a1_0) := (blk_cell BK380.out 0).trans rfl; have hcz10_1 : w5.cell? ⟨gb380, 1, none⟩ = some (.int .i64 a1_1) := (blk_cell BK380.out 1).trans rfl; have hfz10_0 := blk_frozen BK380.out 0; have hfz10_1 := blk_frozen BK380.out 1; have hcz11_0 : w5.cell? ⟨gb381, 0, none⟩ = some (.int .i64 0) := (blk_cell BK381.out 0).trans rfl; have hcz11_1 : w5.cell? ⟨gb381, 1, none⟩ = some (.int .i64 0) := (blk_cell BK381.out 1).trans rfl; have hfz11_0 := blk_frozen BK381.out 0; have hfz11_1 := blk_frozen BK381.out 1))
 refine bodyPost_ret (results_cell_row rfl _ _ gb381 24 #[.int .i64 (wrap64 (a0_0 - a1_1)), .int .i64 (wrap64 (a0_1 - a1_0))] (0, 0) _ rfl (by (with_reducible repeat (first | refine blk_drewN ?_ _ | refine blk_drew ?_ | refine blk_alloc ?_ _)); refine blk_put (cs := #[.int .i64 (wrap64 (a0_0 - a1_1)), .int .i64 0]) ?_ 1 _ rfl; (with_reducible repeat (first | refine blk_drewN ?_ _ | refine blk_drew ?_ | refine blk_alloc ?_ _)); refine blk_put (cs := #[.int .i64 0, .int .i64 0]) ?_ 0 _ rfl; (with_reducible repeat (first | refine blk_drewN ?_ _ | refine blk_drew ?_ | refine blk_alloc ?_ _)); exact BK381.out) Try.underlying24 rfl (by kernel_rfl)) rfl ?_
 exact ⟨by first | rfl | (simp [errW_none, errW_some] <;> rfl) | (simp [*, errW_none, errW_some] <;> rfl), (be_ HB).out⟩
end Go.Proofs.Ytmahlfjnejbcnaa.PAll
end
section
namespace Go.Proofs.Ytmahlfjnejbcnaa.PAll
open Go.RowKit YtmahlfjnejbcnaaW.PrintWords YtmahlfjnejbcnaaW.PrintLast YtmahlfjnejbcnaaW.PrintMore More2 Sq
attribute [local go_sem] max2_int min2_int max_two min_two max_three min_three max_four min_four tdiv2e18_ tdiv1e18_ cellSS_  -- for this text's walks alone
def trig_root.l0 : Nat → Int → Int → Int → Option (Int)
 | 0, _, _, _ => none
 | k + 1, x0, x3, x4 => if x3 < x4 then (if (wrap64 (Int.tdiv (wrap64 ((wrap64 (x3 + x4)) + 1)) 2)) = 0 then (none) else (if (wrap64 (Int.tdiv (wrap64 ((wrap64 (x3 + x4)) + 1)) 2)) ≤ (wrap64 (Int.tdiv x0 (wrap64 (Int.tdiv (wrap64 ((wrap64 (x3 + x4)) + 1)) 2)))) then (trig_root.l0 k x0 (wrap64 (Int.tdiv (wrap64 ((wrap64 (x3 + x4)) + 1)) 2)) x4) else (trig_root.l0 k x0 x3 (wrap64 ((wrap64 (Int.tdiv (wrap64 ((wrap64 (x3 + x4)) + 1)) 2)) - 1))))) else (some x3)
def trig_root.f (k : Nat) (a0 : Int) : Option (Int) := trig_root.l0 k a0 0 2147483648
theorem trig_root.calls (k : Nat) (a0 : Int) (r : Int) (w : World) (h : trig_root.f k a0 = some r) :
  Calls Try.prog 99 #[.int .i64 a0] w fun e w' => e = .returned (.int .i64 r) ∧ Drawn0 w w' := by
 have H : (trig_root.l0 k a0 0 2147483648) = some r := h
 clear h
 have H' := Aside0.mk H
 clear H
 go_enter Try.func99, Try.ntmps99
 go_wp2
 go_loopg [3, 4] k (fun kq v3 v4 w' => ∃ (x3_1 : Int) (x4_1 : Int), v3 = .int .i64 x3_1 ∧ v4 = .int .i64 x4_1 ∧ Aside0 (trig_root.l0 kq a0 x3_1 x4_1 = some r) ∧ Aside0 (kq ≤ k) ∧ Drawn0 w w')
 case atStart => exact ⟨(0), (2147483648), (by first | rfl | (simp; done) | (simp [*]; done)), (by first | rfl | (simp; done) | (simp [*]; done)), H', ⟨Nat.le_refl _⟩, by repeat (first | exact Drawn0.refl _ | apply Drawn0.step)⟩
 case round =>
  clear H'
  obtain ⟨x3_1, x4_1, rfl, rfl, HA, HK1, ⟨m1, rfl⟩⟩ := hrel
  cases gk with
  | zero => exact absurd HA.out (by simp [trig_root.l0])
  | succ k1 =>
   have H := HA.out
   clear HA
   simp only [trig_root.l0] at H
   by_cases c2 : x3_1 < x4_1
   ·rw [if_pos c2] at H
    have c2b0 : decide (x3_1 < x4_1) = true := decide_eq_true c2
    clear c2
    by_cases c3 : (wrap64 (Int.tdiv (wrap64 ((wrap64 (x3_1 + x4_1)) + 1)) 2)) = 0
    ·rw [if_pos c3] at H
     exact absurd H (by simp)
    ·rw [if_neg c3] at H
     have c3b0 : ((wrap64 (Int.tdiv (wrap64 ((wrap64 (x3_1 + x4_1)) + 1)) 2)) == 0) = false := beq_eq_false_iff_ne.mpr c3
     have c3b1 : ((wrap64 (Int.tdiv (wrap64 ((wrap64 (x3_1 + x4_1)) + 1)) 2)) != 0) = true := bne_iff_ne.mpr c3
     by_cases c4 : (wrap64 (Int.tdiv (wrap64 ((wrap64 (x3_1 + x4_1)) + 1)) 2)) ≤ (wrap64 (Int.tdiv a0 (wrap64 (Int.tdiv (wrap64 ((wrap64 (x3_1 + x4_1)) + 1)) 2))))
     ·rw [if_pos c4] at H
      have c4b0 : decide ((wrap64 (Int.tdiv (wrap64 ((wrap64 (x3_1 + x4_1)) + 1)) 2)) ≤ (wrap64 (Int.tdiv a0 (wrap64 (Int.tdiv (wrap64 ((wrap64 (x3_1 + x4_1)) + 1)) 2))))) = true := decide_eq_true c4
      clear c4
      have H' := Aside0.mk H
      clear H
      go_wp2
      go_roundg k1
      case measure => have := HK1.out; omega
      case rel => exact ⟨(wrap64 (Int.tdiv (wrap64 ((wrap64 (x3_1 + x4_1)) + 1)) 2)), (x4_1), (by first | rfl | (simp; done) | (simp [*]; done)), (by first | rfl | (simp; done) | (simp [*]; done)), H', ⟨by have := HK1.out; omega⟩, by repeat (first | exact Drawn0.refl _ | apply Drawn0.step)⟩
     ·rw [if_neg c4] at H
      have c4b0 : decide ((wrap64 (Int.tdiv (wrap64 ((wrap64 (x3_1 + x4_1)) + 1)) 2)) ≤ (wrap64 (Int.tdiv a0 (wrap64 (Int.tdiv (wrap64 ((wrap64 (x3_1 + x4_1)) + 1)) 2))))) = false := decide_eq_false c4
      clear c4
      have H' := Aside0.mk H
      clear H
      go_wp2
      go_roundg k1
      case measure => have := HK1.out; omega
      case rel => exact ⟨(x3_1), (wrap64 ((wrap64 (Int.tdiv (wrap64 ((wrap64 (x3_1 + x4_1)) + 1)) 2)) - 1)), (by first | rfl | (simp; done) | (simp [*]; done)), (by first | rfl | (simp; done) | (simp [*]; done)), H', ⟨by have := HK1.out; omega⟩, by repeat (first | exact Drawn0.refl _ | apply Drawn0.step)⟩
   ·rw [if_neg c2] at H
    have c2b0 : decide (x3_1 < x4_1) = false := decide_eq_false c2
    clear c2
    obtain rfl := Option.some.inj H
    simp only [Option.some.injEq, Prod.mk.injEq] at H
    obtain ⟨rfl⟩ := H
    go_wp2
    go_ret
    exact ⟨by first | rfl | (simp; done) | (simp [*]; done), by repeat (first | exact Drawn0.refl _ | apply Drawn0.step)⟩
end Go.Proofs.Ytmahlfjnejbcnaa.PAll
end
section
namespace Go.Proofs.Ytmahlfjnejbcnaa.PAll
open Go Go.RowKit YtmahlfjnejbcnaaW.PrintWords Sx
def trig_ArcSin.f (k : Nat) (a0_0 : Int) (a0_1 : Int) : Option (Int × Int × Int) :=
  ob (interval_Check.f k a0_0 a0_1) fun t1 =>
  oif ((t1 != 0) = true) (
   some (0, 0, t1)) (
   ob (trig_root.f k (IntKind.i64.wrap (1000000000000000000 - IntKind.i64.wrap ((if (if a0_0 < 1000000000 then a0_0 else 1000000000) > -1000000000 then if a0_0 < 1000000000 then a0_0 else 1000000000 else -1000000000) * if (if a0_0 < 1000000000 then a0_0 else 1000000000) > -1000000000 then if a0_0 < 1000000000 then a0_0 else 1000000000 else -1000000000)))) fun t2 =>
   ob (trig_direction.f k (if (if a0_0 < 1000000000 then a0_0 else 1000000000) > -1000000000 then if a0_0 < 1000000000 then a0_0 else 1000000000 else -1000000000) t2) fun t3 =>
   ob (trig_root.f k (IntKind.i64.wrap (1000000000000000000 - IntKind.i64.wrap ((if (if a0_1 < 1000000000 then a0_1 else 1000000000) > -1000000000 then if a0_1 < 1000000000 then a0_1 else 1000000000 else -1000000000) * if (if a0_1 < 1000000000 then a0_1 else 1000000000) > -1000000000 then if a0_1 < 1000000000 then a0_1 else 1000000000 else -1000000000)))) fun t4 =>
   ob (trig_direction.f k (if (if a0_1 < 1000000000 then a0_1 else 1000000000) > -1000000000 then if a0_1 < 1000000000 then a0_1 else 1000000000 else -1000000000) t4) fun t5 =>
   some (if IntKind.i64.wrap (t3.fst - 1) > -250000000 then IntKind.i64.wrap (t3.fst - 1) else -250000000, if IntKind.i64.wrap (t5.snd + 1) < 250000000 then IntKind.i64.wrap (t5.snd + 1) else 250000000, 0))
def trig_ArcSin.OQ {R : Type} (k : Nat) : OraQ R := fun g args K => match g with
  | 65 => (match args with | [.agg ⟨[.int .i64 a0_0, .int .i64 a0_1]⟩] => (interval_Check.f k a0_0 a0_1).bind fun q => K (.int .i64 q) | _ => none)
  | 98 => (match args with | [.int .i64 a0, .int .i64 a1] => (trig_direction.f k a0 a1).bind fun q => K (.agg ⟨[.int .i64 q.1, .int .i64 q.2]⟩) | _ => none)
  | 99 => (match args with | [.int .i64 a0] => (trig_root.f k a0).bind fun q => K (.int .i64 q) | _ => none)
  | _ => none
theorem trig_ArcSin.OQ_ok (k : Nat) (Φ : World → Prop) (base : Nat) {R : Type} : OraQOk Try.prog (fun _ => undef) Φ base (trig_ArcSin.OQ (R := R) k) := by
  intro g args K r h
  unfold trig_ArcSin.OQ at h
  split at h
  · split at h
    · obtain ⟨q, hq, h⟩ := Option.bind_eq_some_iff.mp h
      exact ⟨_, h, callQ_of rfl rfl fun w => (interval_Check.calls k _ _ _ w hq).mono fun e w' he => ⟨he.1, he.2⟩⟩
    · cases h
  · split at h
    · obtain ⟨q, hq, h⟩ := Option.bind_eq_some_iff.mp h
      exact ⟨_, h, callQ_of rfl rfl fun w => (trig_direction.calls k _ _ _ _ w hq).mono fun e w' he => ⟨he.1, he.2⟩⟩
    · cases h
  · split at h
    · obtain ⟨q, hq, h⟩ := Option.bind_eq_some_iff.mp h
      exact ⟨_, h, callQ_of rfl rfl fun w => (trig_root.calls k _ _ w hq).mono fun e w' he => ⟨he.1, he.2.below⟩⟩
    · cases h
  · cases h
def trig_ArcSin.F (v : Value) (_ : Mem) : Option (Int × Int × Int) := match v with | .tuple ⟨[.agg ⟨[.int .i64 r1, .int .i64 r2]⟩, .int .i64 r3]⟩ => some (r1, r2, r3) | _ => none
theorem trig_ArcSin.run (k : Nat) (a0_0 : Int) (a0_1 : Int) : runM Try.prog (liftQ (trig_ArcSin.OQ k)) (drawQ Try.prog (trig_ArcSin.OQ k)) (fun _ => none) (atEnd Try.prog Try.f83 trig_ArcSin.F) 5000 [.code (Try.f83.body.getD .skip)] ([.agg ⟨[.int .i64 a0_0, .int .i64 a0_1]⟩] ++ List.replicate (Try.f83.ntmps - ([.agg ⟨[.int .i64 a0_0, .int .i64 a0_1]⟩] : List Value).length) undef) [] = trig_ArcSin.f k a0_0 a0_1 := by kernel_rfl
theorem trig_ArcSin.calls (k : Nat) (a0_0 : Int) (a0_1 : Int) (r1 : Int) (r2 : Int) (r3 : Int) (w : World) (h : trig_ArcSin.f k a0_0 a0_1 = some (r1, r2, r3)) :
    Calls Try.prog 83 #[.agg #[.int .i64 a0_0, .int .i64 a0_1]] w fun e w' => e = .returned (.tuple #[.agg #[.int .i64 r1, .int .i64 r2], .int .i64 r3]) ∧ Below w.heap.size w w' := by
  refine calls_closed (OQ := trig_ArcSin.OQ k) (LF := fun _ => none) (F := trig_ArcSin.F) (r := (r1, r2, r3)) (Checked.mixed Try.checked) (fun Φ base _ => trig_ArcSin.OQ_ok k Φ base) (LS := fun _ => True) (fun Φ base _ c _ live len f e => by cases e) Try.func83 rfl (fun _ _ => trivial) rfl (fun u m hu => ?_) rfl (((trig_ArcSin.run k a0_0 a0_1).trans h)) w
  unfold trig_ArcSin.F at hu
  split at hu
  · cases hu; rfl
  · cases hu
end Go.Proofs.Ytmahlfjnejbcnaa.PAll
end
section
namespace Go.Proofs.Ytmahlfjnejbcnaa.PAll
open Go Go.RowKit YtmahlfjnejbcnaaW.PrintWords Sx
def sun_Equator.f (k : Nat) (a0_0 : Int) (a0_1 : Int) (a1_0 : Int) (a1_1 : Int) : Option (Int × Int × Int × Int × Int) :=
  ob (interval_Check.f k a0_0 a0_1) fun t1 =>
  oif ((t1 != 0) = true) (
   some (0, 0, 0, 0, t1)) (
   ob (interval_Check.f k a1_0 a1_1) fun t2 =>
   oif ((t2 != 0) = true) (
    some (0, 0, 0, 0, t2)) (
    oif (decide (a1_0 < -125000000) = true) (
     some (0, 0, 0, 0, 3)) (
     oif (decide (a1_1 > 125000000) = true) (
      some (0, 0, 0, 0, 3)) (
      ob (trig_Sin.f k 65109000) fun t3 =>
      ob (trig_Cos.f k 65109000) fun t4 =>
      ob (trig_SinOver.f k a0_0 a0_1) fun t5 =>
      ob (trig_CosOver.f k a0_0 a0_1) fun t6 =>
      ob (trig_SinOver.f k a1_0 a1_1) fun t7 =>
      ob (trig_CosOver.f k a1_0 a1_1) fun t8 =>
      ob (sun_Unit.f k t8.fst t8.snd.fst t5.fst t5.snd.fst) fun t9 =>
      ob (sun_Unit.f k t9.fst t9.snd t3.fst t3.snd.fst) fun t10 =>
      ob (sun_Unit.f k t7.fst t7.snd.fst t4.fst t4.snd.fst) fun t11 =>
      ob (sun_plus.f t10.fst t10.snd t11.fst t11.snd) fun t12 =>
      ob (sun_Unit.f k t9.fst t9.snd t4.fst t4.snd.fst) fun t13 =>
      ob (sun_Unit.f k t7.fst t7.snd.fst t3.fst t3.snd.fst) fun t14 =>
      ob (sun_less.f t13.fst t13.snd t14.fst t14.snd) fun t15 =>
      ob (sun_Unit.f k t8.fst t8.snd.fst t6.fst t6.snd.fst) fun t16 =>
      ob (trig_Arc.f k t15.fst t15.snd t16.fst t16.snd) fun t17 =>
      oif ((t17.snd.snd != 0) = true) (
       some (0, 0, 0, 0, t17.snd.snd)) (
       ob (trig_ArcSin.f k t12.fst t12.snd) fun t18 =>
       some (t17.fst, t17.snd.fst, t18.fst, t18.snd.fst, 0))))))
def sun_Equator.OQ {R : Type} (k : Nat) : OraQ R := fun g args K => match g with
  | 60 => (match args with | [.agg ⟨[.int .i64 a0_0, .int .i64 a0_1]⟩] => (trig_CosOver.f k a0_0 a0_1).bind fun q => K (.tuple ⟨[.agg ⟨[.int .i64 q.1, .int .i64 q.2.1]⟩, .int .i64 q.2.2]⟩) | _ => none)
  | 65 => (match args with | [.agg ⟨[.int .i64 a0_0, .int .i64 a0_1]⟩] => (interval_Check.f k a0_0 a0_1).bind fun q => K (.int .i64 q) | _ => none)
  | 76 => (match args with | [.agg ⟨[.int .i64 a0_0, .int .i64 a0_1]⟩] => (trig_SinOver.f k a0_0 a0_1).bind fun q => K (.tuple ⟨[.agg ⟨[.int .i64 q.1, .int .i64 q.2.1]⟩, .int .i64 q.2.2]⟩) | _ => none)
  | 77 => (match args with | [.int .i64 a0] => (trig_Sin.f k a0).bind fun q => K (.tuple ⟨[.agg ⟨[.int .i64 q.1, .int .i64 q.2.1]⟩, .int .i64 q.2.2]⟩) | _ => none)
  | 78 => (match args with | [.int .i64 a0] => (trig_Cos.f k a0).bind fun q => K (.tuple ⟨[.agg ⟨[.int .i64 q.1, .int .i64 q.2.1]⟩, .int .i64 q.2.2]⟩) | _ => none)
  | 79 => (match args with | [.agg ⟨[.int .i64 a0_0, .int .i64 a0_1]⟩, .agg ⟨[.int .i64 a1_0, .int .i64 a1_1]⟩] => (sun_Unit.f k a0_0 a0_1 a1_0 a1_1).bind fun q => K (.agg ⟨[.int .i64 q.1, .int .i64 q.2]⟩) | _ => none)
  | 80 => (match args with | [.agg ⟨[.int .i64 a0_0, .int .i64 a0_1]⟩, .agg ⟨[.int .i64 a1_0, .int .i64 a1_1]⟩] => (sun_plus.f a0_0 a0_1 a1_0 a1_1).bind fun q => K (.agg ⟨[.int .i64 q.1, .int .i64 q.2]⟩) | _ => none)
  | 81 => (match args with | [.agg ⟨[.int .i64 a0_0, .int .i64 a0_1]⟩, .agg ⟨[.int .i64 a1_0, .int .i64 a1_1]⟩] => (trig_Arc.f k a0_0 a0_1 a1_0 a1_1).bind fun q => K (.tuple ⟨[.agg ⟨[.int .i64 q.1, .int .i64 q.2.1]⟩, .int .i64 q.2.2]⟩) | _ => none)
  | 82 => (match args with | [.agg ⟨[.int .i64 a0_0, .int .i64 a0_1]⟩, .agg ⟨[.int .i64 a1_0, .int .i64 a1_1]⟩] => (sun_less.f a0_0 a0_1 a1_0 a1_1).bind fun q => K (.agg ⟨[.int .i64 q.1, .int .i64 q.2]⟩) | _ => none)
  | 83 => (match args with | [.agg ⟨[.int .i64 a0_0, .int .i64 a0_1]⟩] => (trig_ArcSin.f k a0_0 a0_1).bind fun q => K (.tuple ⟨[.agg ⟨[.int .i64 q.1, .int .i64 q.2.1]⟩, .int .i64 q.2.2]⟩) | _ => none)
  | _ => none
theorem sun_Equator.OQ_ok (k : Nat) (Φ : World → Prop) (base : Nat) {R : Type} : OraQOk Try.prog (fun _ => undef) Φ base (sun_Equator.OQ (R := R) k) := by
  intro g args K r h
  unfold sun_Equator.OQ at h
  split at h
  · split at h
    · obtain ⟨q, hq, h⟩ := Option.bind_eq_some_iff.mp h
      exact ⟨_, h, callQ_of rfl rfl fun w => (trig_CosOver.calls k _ _ _ _ _ w hq).mono fun e w' he => ⟨he.1, he.2⟩⟩
    · cases h
  · split at h
    · obtain ⟨q, hq, h⟩ := Option.bind_eq_some_iff.mp h
      exact ⟨_, h, callQ_of rfl rfl fun w => (interval_Check.calls k _ _ _ w hq).mono fun e w' he => ⟨he.1, he.2⟩⟩
    · cases h
  · split at h
    · obtain ⟨q, hq, h⟩ := Option.bind_eq_some_iff.mp h
      exact ⟨_, h, callQ_of rfl rfl fun w => (trig_SinOver.calls k _ _ _ _ _ w hq).mono fun e w' he => ⟨he.1, he.2⟩⟩
    · cases h
  · split at h
    · obtain ⟨q, hq, h⟩ := Option.bind_eq_some_iff.mp h
      exact ⟨_, h, callQ_of rfl rfl fun w => (trig_Sin.calls k _ _ _ _ w hq).mono fun e w' he => ⟨he.1, he.2⟩⟩
    · cases h
  · split at h
    · obtain ⟨q, hq, h⟩ := Option.bind_eq_some_iff.mp h
      exact ⟨_, h, callQ_of rfl rfl fun w => (trig_Cos.calls k _ _ _ _ w hq).mono fun e w' he => ⟨he.1, he.2⟩⟩
    · cases h
  · split at h
    · obtain ⟨q, hq, h⟩ := Option.bind_eq_some_iff.mp h
      exact ⟨_, h, callQ_of rfl rfl fun w => (sun_Unit.calls k _ _ _ _ _ _ w hq).mono fun e w' he => ⟨he.1, he.2⟩⟩
    · cases h
  · split at h
    · obtain ⟨q, hq, h⟩ := Option.bind_eq_some_iff.mp h
      exact ⟨_, h, callQ_of rfl rfl fun w => (sun_plus.calls _ _ _ _ _ _ w hq).mono fun e w' he => ⟨he.1, he.2⟩⟩
    · cases h
  · split at h
    · obtain ⟨q, hq, h⟩ := Option.bind_eq_some_iff.mp h
      exact ⟨_, h, callQ_of rfl rfl fun w => (trig_Arc.calls k _ _ _ _ _ _ _ w hq).mono fun e w' he => ⟨he.1, he.2⟩⟩
    · cases h
  · split at h
    · obtain ⟨q, hq, h⟩ := Option.bind_eq_some_iff.mp h
      exact ⟨_, h, callQ_of rfl rfl fun w => (sun_less.calls _ _ _ _ _ _ w hq).mono fun e w' he => ⟨he.1, he.2⟩⟩
    · cases h
  · split at h
    · obtain ⟨q, hq, h⟩ := Option.bind_eq_some_iff.mp h
      exact ⟨_, h, callQ_of rfl rfl fun w => (trig_ArcSin.calls k _ _ _ _ _ w hq).mono fun e w' he => ⟨he.1, he.2⟩⟩
    · cases h
  · cases h
def sun_Equator.F (v : Value) (_ : Mem) : Option (Int × Int × Int × Int × Int) := match v with | .tuple ⟨[.agg ⟨[.int .i64 r1, .int .i64 r2]⟩, .agg ⟨[.int .i64 r3, .int .i64 r4]⟩, .int .i64 r5]⟩ => some (r1, r2, r3, r4, r5) | _ => none
theorem sun_Equator.run (k : Nat) (a0_0 : Int) (a0_1 : Int) (a1_0 : Int) (a1_1 : Int) : runM Try.prog (liftQ (sun_Equator.OQ k)) (drawQ Try.prog (sun_Equator.OQ k)) (fun _ => none) (atEnd Try.prog Try.f62 sun_Equator.F) 5000 [.code (Try.f62.body.getD .skip)] ([.agg ⟨[.int .i64 a0_0, .int .i64 a0_1]⟩, .agg ⟨[.int .i64 a1_0, .int .i64 a1_1]⟩] ++ List.replicate (Try.f62.ntmps - ([.agg ⟨[.int .i64 a0_0, .int .i64 a0_1]⟩, .agg ⟨[.int .i64 a1_0, .int .i64 a1_1]⟩] : List Value).length) undef) [] = sun_Equator.f k a0_0 a0_1 a1_0 a1_1 := by kernel_rfl
theorem sun_Equator.calls (k : Nat) (a0_0 : Int) (a0_1 : Int) (a1_0 : Int) (a1_1 : Int) (r1 : Int) (r2 : Int) (r3 : Int) (r4 : Int) (r5 : Int) (w : World) (h : sun_Equator.f k a0_0 a0_1 a1_0 a1_1 = some (r1, r2, r3, r4, r5)) :
    Calls Try.prog 62 #[.agg #[.int .i64 a0_0, .int .i64 a0_1], .agg #[.int .i64 a1_0, .int .i64 a1_1]] w fun e w' => e = .returned (.tuple #[.agg #[.int .i64 r1, .int .i64 r2], .agg #[.int .i64 r3, .int .i64 r4], .int .i64 r5]) ∧ Below w.heap.size w w' := by
  refine calls_closed (OQ := sun_Equator.OQ k) (LF := fun _ => none) (F := sun_Equator.F) (r := (r1, r2, r3, r4, r5)) (Checked.mixed Try.checked) (fun Φ base _ => sun_Equator.OQ_ok k Φ base) (LS := fun _ => True) (fun Φ base _ c _ live len f e => by cases e) Try.func62 rfl (fun _ _ => trivial) rfl (fun u m hu => ?_) rfl (((sun_Equator.run k a0_0 a0_1 a1_0 a1_1).trans h)) w
  unfold sun_Equator.F at hu
  split at hu
  · cases hu; rfl
  · cases hu
end Go.Proofs.Ytmahlfjnejbcnaa.PAll
end
section
namespace Go.Proofs.Ytmahlfjnejbcnaa.PAll
open Go Go.RowKit YtmahlfjnejbcnaaW.PrintWords Sx
def sun_At.f (k : Nat) (a0 : Int) : Option (Int × Int × Int × Int × Int) :=
  ob (sun_Longitude.f k a0) fun t1 =>
  oif ((t1.snd.snd != 0) = true) (
   some (0, 0, 0, 0, t1.snd.snd)) (
   ob (sun_Equator.f k t1.fst t1.snd.fst 0 0) fun t2 =>
   some (t2.fst, t2.snd.fst, t2.snd.snd.fst, t2.snd.snd.snd.fst, t2.snd.snd.snd.snd))
def sun_At.OQ {R : Type} (k : Nat) : OraQ R := fun g args K => match g with
  | 37 => (match args with | [.int .i64 a0] => (sun_Longitude.f k a0).bind fun q => K (.tuple ⟨[.agg ⟨[.int .i64 q.1, .int .i64 q.2.1]⟩, .int .i64 q.2.2]⟩) | _ => none)
  | 62 => (match args with | [.agg ⟨[.int .i64 a0_0, .int .i64 a0_1]⟩, .agg ⟨[.int .i64 a1_0, .int .i64 a1_1]⟩] => (sun_Equator.f k a0_0 a0_1 a1_0 a1_1).bind fun q => K (.tuple ⟨[.agg ⟨[.int .i64 q.1, .int .i64 q.2.1]⟩, .agg ⟨[.int .i64 q.2.2.1, .int .i64 q.2.2.2.1]⟩, .int .i64 q.2.2.2.2]⟩) | _ => none)
  | _ => none
theorem sun_At.OQ_ok (k : Nat) (Φ : World → Prop) (base : Nat) {R : Type} : OraQOk Try.prog (fun _ => undef) Φ base (sun_At.OQ (R := R) k) := by
  intro g args K r h
  unfold sun_At.OQ at h
  split at h
  · split at h
    · obtain ⟨q, hq, h⟩ := Option.bind_eq_some_iff.mp h
      exact ⟨_, h, callQ_of rfl rfl fun w => (sun_Longitude.calls k _ _ _ _ w hq).mono fun e w' he => ⟨he.1, he.2⟩⟩
    · cases h
  · split at h
    · obtain ⟨q, hq, h⟩ := Option.bind_eq_some_iff.mp h
      exact ⟨_, h, callQ_of rfl rfl fun w => (sun_Equator.calls k _ _ _ _ _ _ _ _ _ w hq).mono fun e w' he => ⟨he.1, he.2⟩⟩
    · cases h
  · cases h
def sun_At.F (v : Value) (_ : Mem) : Option (Int × Int × Int × Int × Int) := match v with | .tuple ⟨[.agg ⟨[.int .i64 r1, .int .i64 r2]⟩, .agg ⟨[.int .i64 r3, .int .i64 r4]⟩, .int .i64 r5]⟩ => some (r1, r2, r3, r4, r5) | _ => none
theorem sun_At.run (k : Nat) (a0 : Int) : runM Try.prog (liftQ (sun_At.OQ k)) (drawQ Try.prog (sun_At.OQ k)) (fun _ => none) (atEnd Try.prog Try.f30 sun_At.F) 5000 [.code (Try.f30.body.getD .skip)] ([.int .i64 a0] ++ List.replicate (Try.f30.ntmps - ([.int .i64 a0] : List Value).length) undef) [] = sun_At.f k a0 := by kernel_rfl
theorem sun_At.calls (k : Nat) (a0 : Int) (r1 : Int) (r2 : Int) (r3 : Int) (r4 : Int) (r5 : Int) (w : World) (h : sun_At.f k a0 = some (r1, r2, r3, r4, r5)) :
    Calls Try.prog 30 #[.int .i64 a0] w fun e w' => e = .returned (.tuple #[.agg #[.int .i64 r1, .int .i64 r2], .agg #[.int .i64 r3, .int .i64 r4], .int .i64 r5]) ∧ Below w.heap.size w w' := by
  refine calls_closed (OQ := sun_At.OQ k) (LF := fun _ => none) (F := sun_At.F) (r := (r1, r2, r3, r4, r5)) (Checked.mixed Try.checked) (fun Φ base _ => sun_At.OQ_ok k Φ base) (LS := fun _ => True) (fun Φ base _ c _ live len f e => by cases e) Try.func30 rfl (fun _ _ => trivial) rfl (fun u m hu => ?_) rfl (((sun_At.run k a0).trans h)) w
  unfold sun_At.F at hu
  split at hu
  · cases hu; rfl
  · cases hu
end Go.Proofs.Ytmahlfjnejbcnaa.PAll
end
section
namespace Go.Proofs.Ytmahlfjnejbcnaa.PAll
open Go.RowKit YtmahlfjnejbcnaaW.PrintWords YtmahlfjnejbcnaaW.PrintLast YtmahlfjnejbcnaaW.PrintMore More2 Sq
attribute [local go_sem] max2_int min2_int max_two min_two max_three min_three max_four min_four tdiv2e18_ tdiv1e18_ cellSS_  -- for this text's walks alone
def ephemeristop_sMeets.f (a0_0 : Int) (a0_1 : Int) (a1_0 : Int) (a1_1 : Int) : Option (Bool) := if a0_0 ≤ a1_1 then (some (decide (a1_0 ≤ a0_1))) else (some false)
theorem ephemeristop_sMeets.calls (a0_0 : Int) (a0_1 : Int) (a1_0 : Int) (a1_1 : Int) (r : Bool) (w : World) (h : ephemeristop_sMeets.f a0_0 a0_1 a1_0 a1_1 = some r) :
  Calls Try.prog 32 #[.agg #[.int .i64 a0_0, .int .i64 a0_1], .agg #[.int .i64 a1_0, .int .i64 a1_1]] w fun e w' => e = .returned (.bool r) ∧ Below w.heap.size w w' := by
 have hu24 := Try.underlying24
 have HB := Aside0.mk (Below.refl w.heap.size w)
 have H : (if a0_0 ≤ a1_1 then (some (decide (a1_0 ≤ a0_1))) else (some false)) = some r := h
 clear h
 by_cases c3 : a0_0 ≤ a1_1
 ·rw [if_pos c3] at H
  have c3b0 : decide (a0_0 ≤ a1_1) = true := decide_eq_true c3
  clear c3
  obtain rfl := Option.some.inj H
  simp only [Option.some.injEq, Prod.mk.injEq] at H
  obtain ⟨rfl⟩ := H
  go_enter Try.func32, Try.ntmps32
  go_wp2_with (first | ((with_reducible refine gate_dst (N := 2) rfl ?_); refine box_event ?hg (N := 2) ?hd (cs := #[.int .i64 a0_0, .int .i64 a0_1]) (t := 24) ?hr ?_; (case hd => rfl); (case hg => rfl); (case hr => first | (go_simp; done) | (go_simp; rfl)); intro gb393 hg w4 hbox hb; have BK393 := Aside0.mk (hbox); have GW393 := ge_ hg HB; have GE393 := ge_ hg HB; replace HB := bs_ HB hb; clear hb hbox hg) | ((with_reducible refine gate_dst (N := 3) rfl ?_); refine box_event ?hg (N := 3) ?hd (cs := #[.int .i64 a1_0, .int .i64 a1_1]) (t := 24) ?hr ?_; (case hd => rfl); (case hg => rfl); (case hr => first | (go_simp; done) | (go_simp; rfl)); intro gb394 hg w5 hbox hb; have BK394 := Aside0.mk (hbox); have GW394 := ge_ hg HB; have GE394 := ge_ hg HB; have NB393_394 := nl_ hg BK393; have NB394_393 := ng_ hg BK393; replace BK393 := kb_ BK393 hb; replace HB := bs_ HB hb; clear hb hbox hg; have hnb6 := NB393_394.out; have hnc6 := NB394_393.out; have hcz7_0 : w5.cell? ⟨gb393, 0, none⟩ = some (.int .i64 a0_0) := (blk_cell BK393.out 0).trans rfl; have hcz7_1 : w5.cell? ⟨gb393, 1, none⟩ = some (.int .i64 a0_1) := (blk_cell BK393.out 1).trans rfl; have hfz7_0 := blk_frozen BK393.out 0; have hfz7_1 := blk_frozen BK393.out 1; have hcz8_0 : w5.cell? ⟨gb394, 0, none⟩ = some (.int .i64 a1_0) := (blk_cell BK394.out 0).trans rfl; have hcz8_1 : w5.cell? ⟨gb394, 1, none⟩ = some (.int .i64 a1_1) := (blk_cell BK394.out 1).trans rfl; have hfz8_0 := blk_frozen BK394.out 0; have hfz8_1 := blk_frozen BK394.out 1))
  go_ret
  exact ⟨by first | rfl | (simp [errW_none, errW_some] <;> rfl) | (simp [*, errW_none, errW_some] <;> rfl), (be_ HB).out⟩
 ·rw [if_neg c3] at H
  have c3b0 : decide (a0_0 ≤ a1_1) = false := decide_eq_false c3
  clear c3
  obtain rfl := Option.some.inj H
  simp only [Option.some.injEq, Prod.mk.injEq] at H
  obtain ⟨rfl⟩ := H
  go_enter Try.func32, Try.ntmps32
  go_wp2_with (first | ((with_reducible refine gate_dst (N := 2) rfl ?_); refine box_event ?hg (N := 2) ?hd (cs := #[.int .i64 a0_0, .int .i64 a0_1]) (t := 24) ?hr ?_; (case hd => rfl); (case hg => rfl); (case hr => first | (go_simp; done) | (go_simp; rfl)); intro gb393 hg w9 hbox hb; have BK393 := Aside0.mk (hbox); have GW393 := ge_ hg HB; have GE393 := ge_ hg HB; replace HB := bs_ HB hb; clear hb hbox hg) | ((with_reducible refine gate_dst (N := 3) rfl ?_); refine box_event ?hg (N := 3) ?hd (cs := #[.int .i64 a1_0, .int .i64 a1_1]) (t := 24) ?hr ?_; (case hd => rfl); (case hg => rfl); (case hr => first | (go_simp; done) | (go_simp; rfl)); intro gb394 hg w10 hbox hb; have BK394 := Aside0.mk (hbox); have GW394 := ge_ hg HB; have GE394 := ge_ hg HB; have NB393_394 := nl_ hg BK393; have NB394_393 := ng_ hg BK393; replace BK393 := kb_ BK393 hb; replace HB := bs_ HB hb; clear hb hbox hg; have hnb11 := NB393_394.out; have hnc11 := NB394_393.out; have hcz12_0 : w10.cell? ⟨gb393, 0, none⟩ = some (.int .i64 a0_0) := (blk_cell BK393.out 0).trans rfl; have hcz12_1 : w10.cell? ⟨gb393, 1, none⟩ = some (.int .i64 a0_1) := (blk_cell BK393.out 1).trans rfl; have hfz12_0 := blk_frozen BK393.out 0; have hfz12_1 := blk_frozen BK393.out 1; have hcz13_0 : w10.cell? ⟨gb394, 0, none⟩ = some (.int .i64 a1_0) := (blk_cell BK394.out 0).trans rfl; have hcz13_1 : w10.cell? ⟨gb394, 1, none⟩ = some (.int .i64 a1_1) := (blk_cell BK394.out 1).trans rfl; have hfz13_0 := blk_frozen BK394.out 0; have hfz13_1 := blk_frozen BK394.out 1))
  go_ret
  exact ⟨by first | rfl | (simp [errW_none, errW_some] <;> rfl) | (simp [*, errW_none, errW_some] <;> rfl), (be_ HB).out⟩
end Go.Proofs.Ytmahlfjnejbcnaa.PAll
end
section
namespace Go.Proofs.Ytmahlfjnejbcnaa.PAll
open Go Go.RowKit YtmahlfjnejbcnaaW.PrintWords Sx
def ephemeristop_TopSeasons.f (k : Nat) (a0 : Int) (a1 : Int) : Option (Bool) :=
  ob (ephemeristop_sSky.f k) fun t1 =>
  oif ((!t1) = true) (
   some (false)) (
   ob (ephemeristop_sAt.f a0 4) fun t2 =>
   ob (ephemeristop_sAt.f a1 18000) fun t3 =>
   ob (season_Find.f k t2 (IntKind.i64.wrap (t3 - 9000))) fun t4 =>
   ob (sun_At.f k t4.fst) fun t5 =>
   oif (t2 = 0) (
    ob (ephemeristop_sAt.f (IntKind.i64.wrap (t2 + 1)) 4) fun t6 =>
    ob (season_Next.f k (IntKind.i64.wrap (t6 * 250000000)) t4.snd.fst) fun t7 =>
    oif ((t4.snd.snd == 0) = true) (
     oif ((t5.snd.snd.snd.snd == 0) = true) (
      ob (ephemeristop_sMeets.f t5.snd.snd.fst t5.snd.snd.snd.fst (IntKind.i64.wrap (0 - 15000)) (IntKind.i64.wrap (0 + 15000))) fun t8 =>
      oif (t8 = true) (
       oif ((t7.snd.snd == 0) = true) (
        oif (decide (IntKind.i64.wrap (t7.fst - t4.snd.fst) > 7603200000) = true) (
         some (decide (IntKind.i64.wrap (t7.snd.fst - t4.fst) < 8208000000))) (
         some (false))) (
        some (false))) (
       some (false))) (
      some (false))) (
     some (false))) (
    oif (t2 - 1 = 0) (
     ob (ephemeristop_sAt.f (IntKind.i64.wrap (t2 + 1)) 4) fun t9 =>
     ob (season_Next.f k (IntKind.i64.wrap (t9 * 250000000)) t4.snd.fst) fun t10 =>
     oif ((t4.snd.snd == 0) = true) (
      oif ((t5.snd.snd.snd.snd == 0) = true) (
       ob (ephemeristop_sMeets.f t5.snd.snd.fst t5.snd.snd.snd.fst (IntKind.i64.wrap (65109000 - 15000)) (IntKind.i64.wrap (65109000 + 15000))) fun t11 =>
       oif (t11 = true) (
        oif ((t10.snd.snd == 0) = true) (
         oif (decide (IntKind.i64.wrap (t10.fst - t4.snd.fst) > 7603200000) = true) (
          some (decide (IntKind.i64.wrap (t10.snd.fst - t4.fst) < 8208000000))) (
          some (false))) (
         some (false))) (
        some (false))) (
       some (false))) (
      some (false))) (
     oif (t2 - 1 - 1 = 0) (
      ob (ephemeristop_sAt.f (IntKind.i64.wrap (t2 + 1)) 4) fun t12 =>
      ob (season_Next.f k (IntKind.i64.wrap (t12 * 250000000)) t4.snd.fst) fun t13 =>
      oif ((t4.snd.snd == 0) = true) (
       oif ((t5.snd.snd.snd.snd == 0) = true) (
        ob (ephemeristop_sMeets.f t5.snd.snd.fst t5.snd.snd.snd.fst (IntKind.i64.wrap (0 - 15000)) (IntKind.i64.wrap (0 + 15000))) fun t14 =>
        oif (t14 = true) (
         oif ((t13.snd.snd == 0) = true) (
          oif (decide (IntKind.i64.wrap (t13.fst - t4.snd.fst) > 7603200000) = true) (
           some (decide (IntKind.i64.wrap (t13.snd.fst - t4.fst) < 8208000000))) (
           some (false))) (
          some (false))) (
         some (false))) (
        some (false))) (
       some (false))) (
      oif (t2 - 1 - 1 - 1 = 0) (
       ob (ephemeristop_sAt.f (IntKind.i64.wrap (t2 + 1)) 4) fun t15 =>
       ob (season_Next.f k (IntKind.i64.wrap (t15 * 250000000)) t4.snd.fst) fun t16 =>
       oif ((t4.snd.snd == 0) = true) (
        oif ((t5.snd.snd.snd.snd == 0) = true) (
         ob (ephemeristop_sMeets.f t5.snd.snd.fst t5.snd.snd.snd.fst (IntKind.i64.wrap (-65109000 - 15000)) (IntKind.i64.wrap (-65109000 + 15000))) fun t17 =>
         oif (t17 = true) (
          oif ((t16.snd.snd == 0) = true) (
           oif (decide (IntKind.i64.wrap (t16.fst - t4.snd.fst) > 7603200000) = true) (
            some (decide (IntKind.i64.wrap (t16.snd.fst - t4.fst) < 8208000000))) (
            some (false))) (
           some (false))) (
          some (false))) (
         some (false))) (
        some (false))) (
       none)))))
def ephemeristop_TopSeasons.OQ {R : Type} (k : Nat) : OraQ R := fun g args K => match g with
  | 12 => (match args with | [.int .i64 a0, .int .i64 a1] => (season_Find.f k a0 a1).bind fun q => K (.tuple ⟨[.agg ⟨[.int .i64 q.1, .int .i64 q.2.1]⟩, .int .i64 q.2.2]⟩) | _ => none)
  | 26 => (match args with | [] => (ephemeristop_sSky.f k).bind fun q => K (.bool q) | _ => none)
  | 27 => (match args with | [.int .i64 a0, .int .i64 a1] => (ephemeristop_sAt.f a0 a1).bind fun q => K (.int .i64 q) | _ => none)
  | 30 => (match args with | [.int .i64 a0] => (sun_At.f k a0).bind fun q => K (.tuple ⟨[.agg ⟨[.int .i64 q.1, .int .i64 q.2.1]⟩, .agg ⟨[.int .i64 q.2.2.1, .int .i64 q.2.2.2.1]⟩, .int .i64 q.2.2.2.2]⟩) | _ => none)
  | 31 => (match args with | [.int .i64 a0, .int .i64 a1] => (season_Next.f k a0 a1).bind fun q => K (.tuple ⟨[.agg ⟨[.int .i64 q.1, .int .i64 q.2.1]⟩, .int .i64 q.2.2]⟩) | _ => none)
  | 32 => (match args with | [.agg ⟨[.int .i64 a0_0, .int .i64 a0_1]⟩, .agg ⟨[.int .i64 a1_0, .int .i64 a1_1]⟩] => (ephemeristop_sMeets.f a0_0 a0_1 a1_0 a1_1).bind fun q => K (.bool q) | _ => none)
  | _ => none
theorem ephemeristop_TopSeasons.OQ_ok (k : Nat) (Φ : World → Prop) (base : Nat) {R : Type} : OraQOk Try.prog (fun _ => undef) Φ base (ephemeristop_TopSeasons.OQ (R := R) k) := by
  intro g args K r h
  unfold ephemeristop_TopSeasons.OQ at h
  split at h
  · split at h
    · obtain ⟨q, hq, h⟩ := Option.bind_eq_some_iff.mp h
      exact ⟨_, h, callQ_of rfl rfl fun w => (season_Find.calls k _ _ _ _ _ w hq).mono fun e w' he => ⟨he.1, he.2⟩⟩
    · cases h
  · split at h
    · obtain ⟨q, hq, h⟩ := Option.bind_eq_some_iff.mp h
      exact ⟨_, h, callQ_of rfl rfl fun w => (ephemeristop_sSky.calls k _ w hq).mono fun e w' he => ⟨he.1, he.2⟩⟩
    · cases h
  · split at h
    · obtain ⟨q, hq, h⟩ := Option.bind_eq_some_iff.mp h
      exact ⟨_, h, callQ_of rfl rfl fun w => (ephemeristop_sAt.calls _ _ _ w hq).mono fun e w' he => ⟨he.1, he.2.below⟩⟩
    · cases h
  · split at h
    · obtain ⟨q, hq, h⟩ := Option.bind_eq_some_iff.mp h
      exact ⟨_, h, callQ_of rfl rfl fun w => (sun_At.calls k _ _ _ _ _ _ w hq).mono fun e w' he => ⟨he.1, he.2⟩⟩
    · cases h
  · split at h
    · obtain ⟨q, hq, h⟩ := Option.bind_eq_some_iff.mp h
      exact ⟨_, h, callQ_of rfl rfl fun w => (season_Next.calls k _ _ _ _ _ w hq).mono fun e w' he => ⟨he.1, he.2⟩⟩
    · cases h
  · split at h
    · obtain ⟨q, hq, h⟩ := Option.bind_eq_some_iff.mp h
      exact ⟨_, h, callQ_of rfl rfl fun w => (ephemeristop_sMeets.calls _ _ _ _ _ w hq).mono fun e w' he => ⟨he.1, he.2⟩⟩
    · cases h
  · cases h
def ephemeristop_TopSeasons.F (v : Value) (_ : Mem) : Option (Bool) := match v with | .bool r => some (r) | _ => none
theorem ephemeristop_TopSeasons.run (k : Nat) (a0 : Int) (a1 : Int) : runM Try.prog (liftQ (ephemeristop_TopSeasons.OQ k)) (drawQ Try.prog (ephemeristop_TopSeasons.OQ k)) (fun _ => none) (atEnd Try.prog Try.f9 ephemeristop_TopSeasons.F) 5000 [.code (Try.f9.body.getD .skip)] ([.int .i64 a0, .int .i64 a1] ++ List.replicate (Try.f9.ntmps - ([.int .i64 a0, .int .i64 a1] : List Value).length) undef) [] = ephemeristop_TopSeasons.f k a0 a1 := by kernel_rfl
theorem ephemeristop_TopSeasons.calls (k : Nat) (a0 : Int) (a1 : Int) (r : Bool) (w : World) (h : ephemeristop_TopSeasons.f k a0 a1 = some (r)) (hT : r = true) :
    Calls Try.prog 9 #[.int .i64 a0, .int .i64 a1] w fun e w' => e = .returned (.bool r) ∧ Below w.heap.size w w' := by
  refine calls_closed (OQ := ephemeristop_TopSeasons.OQ k) (LF := fun _ => none) (F := ephemeristop_TopSeasons.F) (r := (r)) (Checked.mixed Try.checked) (fun Φ base _ => ephemeristop_TopSeasons.OQ_ok k Φ base) (LS := fun _ => True) (fun Φ base _ c _ live len f e => by cases e) Try.func9 rfl (fun _ _ => trivial) rfl (fun u m hu => ?_) rfl (((ephemeristop_TopSeasons.run k a0 a1).trans h)) w
  unfold ephemeristop_TopSeasons.F at hu
  split at hu
  · cases hu; rfl
  · cases hu
end Go.Proofs.Ytmahlfjnejbcnaa.PAll
end
section
namespace Go.Proofs.Ytmahlfjnejbcnaa.PAll
open Go.RowKit YtmahlfjnejbcnaaW.PrintWords YtmahlfjnejbcnaaW.PrintLast YtmahlfjnejbcnaaW.PrintMore More2 Sq
attribute [local go_sem] max2_int min2_int max_two min_two max_three min_three max_four min_four tdiv2e18_ tdiv1e18_ cellSS_  -- for this text's walks alone
def ephemerisref2_Mod.f (a0 : Int) (a1 : Int) : Option (Int) := if a1 = 0 then (none) else (if (Int.tmod a0 a1) < 0 then (some (wrap64 ((Int.tmod a0 a1) + a1))) else (some (Int.tmod a0 a1)))
end Go.Proofs.Ytmahlfjnejbcnaa.PAll
end
section
namespace Go.Proofs.Ytmahlfjnejbcnaa.PAll
open Go.RowKit YtmahlfjnejbcnaaW.PrintWords YtmahlfjnejbcnaaW.PrintLast YtmahlfjnejbcnaaW.PrintMore More2 Sq
attribute [local go_sem] max2_int min2_int max_two min_two max_three min_three max_four min_four tdiv2e18_ tdiv1e18_ cellSS_  -- for this text's walks alone
def ephemerisref2_Mul.f (a0 : Int) (a1 : Int) : Option (Int) := if a0 < 0 then (if a1 < 0 then (some (wrap64 ((-(-1)) * (wrap64 ((wrap64 (((wrap64 (-a0)) / 1073741824) * ((wrap64 (-a1)) / 1073741824))) + ((wrap64 ((wrap64 ((wrap64 (((wrap64 (-a0)) / 1073741824) * (Go.bits .and .i64 (wrap64 (-a1)) 1073741823))) + (wrap64 ((Go.bits .and .i64 (wrap64 (-a0)) 1073741823) * ((wrap64 (-a1)) / 1073741824))))) + ((wrap64 ((Go.bits .and .i64 (wrap64 (-a0)) 1073741823) * (Go.bits .and .i64 (wrap64 (-a1)) 1073741823))) / 1073741824))) / 1073741824)))))) else (some (wrap64 ((-1) * (wrap64 ((wrap64 (((wrap64 (-a0)) / 1073741824) * (a1 / 1073741824))) + ((wrap64 ((wrap64 ((wrap64 (((wrap64 (-a0)) / 1073741824) * (Go.bits .and .i64 a1 1073741823))) + (wrap64 ((Go.bits .and .i64 (wrap64 (-a0)) 1073741823) * (a1 / 1073741824))))) + ((wrap64 ((Go.bits .and .i64 (wrap64 (-a0)) 1073741823) * (Go.bits .and .i64 a1 1073741823))) / 1073741824))) / 1073741824))))))) else (if a1 < 0 then (some (wrap64 ((-1) * (wrap64 ((wrap64 ((a0 / 1073741824) * ((wrap64 (-a1)) / 1073741824))) + ((wrap64 ((wrap64 ((wrap64 ((a0 / 1073741824) * (Go.bits .and .i64 (wrap64 (-a1)) 1073741823))) + (wrap64 ((Go.bits .and .i64 a0 1073741823) * ((wrap64 (-a1)) / 1073741824))))) + ((wrap64 ((Go.bits .and .i64 a0 1073741823) * (Go.bits .and .i64 (wrap64 (-a1)) 1073741823))) / 1073741824))) / 1073741824)))))) else (some (wrap64 (1 * (wrap64 ((wrap64 ((a0 / 1073741824) * (a1 / 1073741824))) + ((wrap64 ((wrap64 ((wrap64 ((a0 / 1073741824) * (Go.bits .and .i64 a1 1073741823))) + (wrap64 ((Go.bits .and .i64 a0 1073741823) * (a1 / 1073741824))))) + ((wrap64 ((Go.bits .and .i64 a0 1073741823) * (Go.bits .and .i64 a1 1073741823))) / 1073741824))) / 1073741824)))))))
end Go.Proofs.Ytmahlfjnejbcnaa.PAll
end
