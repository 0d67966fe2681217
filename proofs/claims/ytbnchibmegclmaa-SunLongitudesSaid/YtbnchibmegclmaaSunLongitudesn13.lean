/- Written by a program of this session out of the translation. -/
import Derived.Test.YtbnchibmegclmaaSunLongitudesn2
import Derived.Test.YtbnchibmegclmaaSunLongitudesn3
import Derived.Test.YtbnchibmegclmaaSunLongitudesn4
import Derived.Test.YtbnchibmegclmaaSunLongitudesn12
namespace Go.Proofs.Ytbnchibmegclmaa.PAll
open Go.RowKit Go.Proofs.YtbnchibmegclmaaW.PrintWords Go.Proofs.YtbnchibmegclmaaW.PrintLast Go.Proofs.YtbnchibmegclmaaW.PrintMore Go.Proofs.Ytbnchibmegclmaa.More2 Go.Proofs.Ytbnchibmegclmaa.Sq
attribute [local go_sem] max2_int min2_int max_two min_two max_three min_three max_four min_four tdiv2e18_ tdiv1e18_ cellSS_  -- for this text's walks alone
set_option linter.unusedVariables false
set_option linter.unusedSimpArgs false
mutual
def trig_Arc.j0 : Nat → Bool → Int → Int → Int → Int → Option (Int × Int × Int)
 | 0, _, _, _, _, _ => none
 | k + 1, x44, x277000, x277001, x278000, x278001 => if x44 = true then (some (0, 0, 11)) else ((trig_direction.f k x277000 x278000).bind fun bt281 => (trig_Arc.l0 k 0 x278001 x277001 x278000 x277001 x278001 x277000 bt281.1 bt281.2 bt281.1 bt281.2))
def trig_Arc.l0 : Nat → Int → Int → Int → Int → Int → Int → Int → Int → Int → Int → Int → Option (Int × Int × Int)
 | 0, _, _, _, _, _, _, _, _, _, _, _ => none
 | k + 1, x68, x994, x995, x996, x997, x998, x999, x284000, x284001, x285000, x285001 => if x68 < 3 then (if 0 ≤ x68 then ((trig_direction.f k (rd [x999, x997, x995] x68) (rd [x998, x996, x994] x68)).bind fun bt286 => ((interval_Floor.f (wrap64 ((wrap64 (bt286.1 - x284000)) + 500000000)) 1000000000).bind fun t289 => (trig_Arc.l0 k (wrap64 (x68 + 1)) x994 x995 x996 x997 x998 x999 x284000 x284001 (mn x285000 (wrap64 (bt286.1 - (wrap64 (t289 * 1000000000))))) (mx x285001 (wrap64 (bt286.2 - (wrap64 (t289 * 1000000000)))))))) else (none)) else (if (wrap64 (x285001 - x285000)) > 400000000 then (some (0, 0, 11)) else ((interval_Floor.f x285000 1000000000).bind fun t290 => (some (wrap64 (x285000 - (wrap64 (t290 * 1000000000))), wrap64 (x285001 - (wrap64 (t290 * 1000000000))), 0))))
end
def trig_Arc.f (k : Nat) (a0_0 : Int) (a0_1 : Int) (a1_0 : Int) (a1_1 : Int) : Option (Int × Int × Int) := (interval_Check.f k a0_0 a0_1).bind fun t279 => (if t279 = 0 then ((interval_Check.f k a1_0 a1_1).bind fun t280 => (if t280 = 0 then (if a0_0 ≤ 0 then (if a0_1 ≥ 0 then (if a1_0 ≤ 0 then (trig_Arc.j0 k (decide (a1_1 ≥ 0)) a0_0 a0_1 a1_0 a1_1) else (trig_Arc.j0 k false a0_0 a0_1 a1_0 a1_1)) else (trig_Arc.j0 k false a0_0 a0_1 a1_0 a1_1)) else (trig_Arc.j0 k false a0_0 a0_1 a1_0 a1_1)) else (some (0, 0, t280)))) else (some (0, 0, t279)))
theorem trig_Arc.mono_l : ∀ k, (∀ y0 y1 y2 y3 y4, LeO (trig_Arc.j0 k y0 y1 y2 y3 y4) (trig_Arc.j0 (k + 1) y0 y1 y2 y3 y4)) ∧ (∀ y0 y1 y2 y3 y4 y5 y6 y7 y8 y9 y10, LeO (trig_Arc.l0 k y0 y1 y2 y3 y4 y5 y6 y7 y8 y9 y10) (trig_Arc.l0 (k + 1) y0 y1 y2 y3 y4 y5 y6 y7 y8 y9 y10))
 | 0 => ⟨fun _ _ _ _ _ r h => by simp [trig_Arc.j0] at h, fun _ _ _ _ _ _ _ _ _ _ _ r h => by simp [trig_Arc.l0] at h⟩
 | k + 1 => by
  obtain ⟨ih0, ih1⟩ := trig_Arc.mono_l k
  refine ⟨?_, ?_⟩
  ·intro y0 y1 y2 y3 y4
   unfold trig_Arc.j0
   repeat' first
   | (with_reducible exact ih0 _ _ _ _ _)
   | (with_reducible exact ih1 _ _ _ _ _ _ _ _ _ _ _)
   | (with_reducible exact interval_Check.mono _ _ _)
   | (with_reducible exact trig_direction.mono _ _ _)
   | (with_reducible exact LeO.refl _)
   | (with_reducible exact LeO.none _)
   | (with_reducible refine LeO.ite ?_ ?_)
   | (with_reducible refine LeO.bind ?_ (fun _ => ?_))
   | exact ih0 _ _ _ _ _
   | exact ih1 _ _ _ _ _ _ _ _ _ _ _
   | exact interval_Check.mono _ _ _
   | exact trig_direction.mono _ _ _
   | exact LeO.none _
   | refine LeO.ite ?_ ?_
   | refine LeO.bind ?_ (fun _ => ?_)
  ·intro y0 y1 y2 y3 y4 y5 y6 y7 y8 y9 y10
   unfold trig_Arc.l0
   repeat' first
   | (with_reducible exact ih0 _ _ _ _ _)
   | (with_reducible exact ih1 _ _ _ _ _ _ _ _ _ _ _)
   | (with_reducible exact interval_Check.mono _ _ _)
   | (with_reducible exact trig_direction.mono _ _ _)
   | (with_reducible exact LeO.refl _)
   | (with_reducible exact LeO.none _)
   | (with_reducible refine LeO.ite ?_ ?_)
   | (with_reducible refine LeO.bind ?_ (fun _ => ?_))
   | exact ih0 _ _ _ _ _
   | exact ih1 _ _ _ _ _ _ _ _ _ _ _
   | exact interval_Check.mono _ _ _
   | exact trig_direction.mono _ _ _
   | exact LeO.none _
   | refine LeO.ite ?_ ?_
   | refine LeO.bind ?_ (fun _ => ?_)
theorem trig_Arc.mono : ∀ a0 a1 a2 a3 k, LeO (trig_Arc.f k a0 a1 a2 a3) (trig_Arc.f (k + 1) a0 a1 a2 a3) := by
 intro a0 a1 a2 a3 k
 obtain ⟨ih0, ih1⟩ := trig_Arc.mono_l k
 unfold trig_Arc.f
 repeat' first
   | (with_reducible exact ih0 _ _ _ _ _)
   | (with_reducible exact ih1 _ _ _ _ _ _ _ _ _ _ _)
   | (with_reducible exact interval_Check.mono _ _ _)
   | (with_reducible exact trig_direction.mono _ _ _)
   | (with_reducible exact LeO.refl _)
   | (with_reducible exact LeO.none _)
   | (with_reducible refine LeO.ite ?_ ?_)
   | (with_reducible refine LeO.bind ?_ (fun _ => ?_))
   | exact ih0 _ _ _ _ _
   | exact ih1 _ _ _ _ _ _ _ _ _ _ _
   | exact interval_Check.mono _ _ _
   | exact trig_direction.mono _ _ _
   | exact LeO.none _
   | refine LeO.ite ?_ ?_
   | refine LeO.bind ?_ (fun _ => ?_)
def trig_Arc.T16 : Bool × List (List Nat × List Nat) := (true, [([], []), ([0], [0]), ([], []), ([2], [2]), ([], []), ([3, 4], [3, 4]), ([1, 5], [1, 5]), ([], []), ([7], [7]), ([], []), ([9], [9]), ([], []), ([10, 11], [10, 11]), ([8, 12], [8, 12]), ([0, 1, 2, 3, 4, 5, 6, 7, 8], []), ([14, 6, 0, 1, 2, 3, 4, 5, 6, 7, 8], [6, 14]), ([0, 1, 2, 3, 4, 5, 6, 7, 8, 9, 10, 11, 12, 13, 14, 15], []), ([16, 13, 15, 0, 1, 2, 3, 4, 5, 6, 7, 8, 9, 10, 11, 12, 13, 14, 15], [13, 16])])
def trig_Arc.B16 : List Nat := [0, 1, 0, 4, 0, 28, 63, 0, 128, 0, 512, 0, 3584, 8064, 511, 16895, 65535, 131071]
theorem trig_Arc.tab16 : rtab .any (opsOf Try.f59 16) = trig_Arc.T16 := by kernel_rfl
theorem trig_Arc.bits16 : waitsOk trig_Arc.T16.2 trig_Arc.B16 = true := by kernel_rfl
set_option maxHeartbeats 8000000 in
set_option maxRecDepth 100000 in
theorem trig_Arc.calls (k : Nat) (a0_0 : Int) (a0_1 : Int) (a1_0 : Int) (a1_1 : Int) (r1 : Int) (r2 : Int) (r3 : Int) (w : World) (h : trig_Arc.f k a0_0 a0_1 a1_0 a1_1 = some (r1, r2, r3)) :
  Calls Try.prog 59 #[.agg #[.int .i64 a0_0, .int .i64 a0_1], .agg #[.int .i64 a1_0, .int .i64 a1_1]] w fun e w' => e = .returned (.tuple #[.agg #[.int .i64 r1, .int .i64 r2], .int .i64 r3]) ∧ Below w.heap.size w w' := by
 have hu24 := Try.underlying24
 have hu87 := Try.underlying87
 have hu88 := Try.underlying88
 have HB := Aside0.mk (Below.refl w.heap.size w)
 have H : ((interval_Check.f k a0_0 a0_1).bind fun t279 => (if t279 = 0 then ((interval_Check.f k a1_0 a1_1).bind fun t280 => (if t280 = 0 then (if a0_0 ≤ 0 then (if a0_1 ≥ 0 then (if a1_0 ≤ 0 then (trig_Arc.j0 k (decide (a1_1 ≥ 0)) a0_0 a0_1 a1_0 a1_1) else (trig_Arc.j0 k false a0_0 a0_1 a1_0 a1_1)) else (trig_Arc.j0 k false a0_0 a0_1 a1_0 a1_1)) else (trig_Arc.j0 k false a0_0 a0_1 a1_0 a1_1)) else (some (0, 0, t280)))) else (some (0, 0, t279)))) = some (r1, r2, r3) := h
 clear h
 replace H := Option.bind_eq_some_iff.mp H
 obtain ⟨t279, A30, H⟩ := H
 replace H : (if t279 = 0 then ((interval_Check.f k a1_0 a1_1).bind fun t280 => (if t280 = 0 then (if a0_0 ≤ 0 then (if a0_1 ≥ 0 then (if a1_0 ≤ 0 then (trig_Arc.j0 k (decide (a1_1 ≥ 0)) a0_0 a0_1 a1_0 a1_1) else (trig_Arc.j0 k false a0_0 a0_1 a1_0 a1_1)) else (trig_Arc.j0 k false a0_0 a0_1 a1_0 a1_1)) else (trig_Arc.j0 k false a0_0 a0_1 a1_0 a1_1)) else (some (0, 0, t280)))) else (some (0, 0, t279))) = some (r1, r2, r3) := H
 have A3 := Aside0.mk A30
 clear A30
 have HC4 := Aside0.mk H
 clear H
 go_enter Try.func59, Try.ntmps59
 go_upto_if 18 with (first | ((with_reducible refine gate_dst (N := 2) rfl ?_); refine box_event ?hg (N := 2) ?hd (cs := #[.int .i64 a0_0, .int .i64 a0_1]) (t := 24) ?hr ?_; (case hd => rfl); (case hg => rfl); (case hr => first | (go_simp; done) | (go_simp; rfl)); intro gb276 hg w5 hbox hb; have BK276 := Aside0.mk (hbox); have GW276 := ge_ hg HB; have GE276 := ge_ hg HB; replace HB := bs_ HB hb; clear hb hbox hg) | ((with_reducible refine gate_dst (N := 3) rfl ?_); refine box_event ?hg (N := 3) ?hd (cs := #[.int .i64 a1_0, .int .i64 a1_1]) (t := 24) ?hr ?_; (case hd => rfl); (case hg => rfl); (case hr => first | (go_simp; done) | (go_simp; rfl)); intro gb277 hg w6 hbox hb; have BK277 := Aside0.mk (hbox); have GW277 := ge_ hg HB; have GE277 := ge_ hg HB; have NB276_277 := nl_ hg BK276; have NB277_276 := ng_ hg BK276; replace BK276 := kb_ BK276 hb; replace HB := bs_ HB hb; clear hb hbox hg) | ((with_reducible refine gate_dst (N := 4) rfl ?_); refine box_event ?hg (N := 4) ?hd (cs := #[.int .i64 0, .int .i64 0]) (t := 24) ?hr ?_; (case hd => rfl); (case hg => rfl); (case hr => first | (go_simp; done) | (go_simp; rfl)); intro gb278 hg w7 hbox hb; have BK278 := Aside0.mk (hbox); have GW278 := ge_ hg HB; have GE278 := ge_ hg HB; have NB276_278 := nl_ hg BK276; have NB278_276 := ng_ hg BK276; have NB277_278 := nl_ hg BK277; have NB278_277 := ng_ hg BK277; replace BK276 := kb_ BK276 hb; replace BK277 := kb_ BK277 hb; replace HB := bs_ HB hb; clear hb hbox hg; have hnb8 := NB276_277.out; have hnc8 := NB277_276.out; have hnb9 := NB276_278.out; have hnc9 := NB278_276.out; have hcz10_0 : w7.cell? ⟨gb276, 0, none⟩ = some (.int .i64 a0_0) := (blk_cell BK276.out 0).trans rfl; have hcz10_1 : w7.cell? ⟨gb276, 1, none⟩ = some (.int .i64 a0_1) := (blk_cell BK276.out 1).trans rfl; have hfz10_0 := blk_frozen BK276.out 0; have hfz10_1 := blk_frozen BK276.out 1) | ((with_reducible refine gate_callee (f := 52) rfl ?_); refine goesL_ (some 16) rfl rfl Try.func52 (by kernel_rfl) rfl #[.agg #[.int .i64 a0_0, .int .i64 a0_1]] rfl (by (try simp only [List.map_toArray, List.map_cons, List.map_nil]); first | done | rfl | (simp only [List.length_drop, List.length_take]; rfl)) ?_; (with_reducible refine (interval_Check.calls k a0_0 a0_1 t279 _ A3.out).mono ?_); rintro e w11 ⟨rfl, hb⟩; refine ⟨_, rfl, ?_⟩; replace BK276 := kb_ BK276 hb; replace BK277 := kb_ BK277 hb; replace BK278 := kb_ BK278 hb; replace HB := bs_ HB hb; (try clear hb); (try clear hb2); (try clear hk); (try clear hi)))
 (try simp only [Act.put, List.setIfInBounds_toArray, List.set_cons_zero, List.set_cons_succ])
 have H := HC4.out
 clear HC4
 by_cases c12 : t279 = 0
 ·rw [if_pos c12] at H
  have c12b0 : (t279 == 0) = true := beq_iff_eq.mpr c12
  have c12b1 : (t279 != 0) = false := bne_eq_false_iff_eq.mpr c12
  clear c12
  (first | rw [c12b0] | (simp only [i64_w, i32_w]; rw [c12b0]) | skip)
  replace H := Option.bind_eq_some_iff.mp H
  obtain ⟨t280, A130, H⟩ := H
  replace H : (if t280 = 0 then (if a0_0 ≤ 0 then (if a0_1 ≥ 0 then (if a1_0 ≤ 0 then (trig_Arc.j0 k (decide (a1_1 ≥ 0)) a0_0 a0_1 a1_0 a1_1) else (trig_Arc.j0 k false a0_0 a0_1 a1_0 a1_1)) else (trig_Arc.j0 k false a0_0 a0_1 a1_0 a1_1)) else (trig_Arc.j0 k false a0_0 a0_1 a1_0 a1_1)) else (some (0, 0, t280))) = some (r1, r2, r3) := H
  have A13 := Aside0.mk A130
  clear A130
  by_cases c14 : t280 = 0
  ·rw [if_pos c14] at H
   have c14b0 : (t280 == 0) = true := beq_iff_eq.mpr c14
   have c14b1 : (t280 != 0) = false := bne_eq_false_iff_eq.mpr c14
   clear c14
   have HC15 := Aside0.mk H
   clear H
   have hnb16 := NB277_276.out
   have hnc16 := NB276_277.out
   have hnb17 := NB277_278.out
   have hnc17 := NB278_277.out
   have hcz18_0 : w11.cell? ⟨gb277, 0, none⟩ = some (.int .i64 a1_0) := (blk_cell BK277.out 0).trans rfl
   have hcz18_1 : w11.cell? ⟨gb277, 1, none⟩ = some (.int .i64 a1_1) := (blk_cell BK277.out 1).trans rfl
   have hfz18_0 := blk_frozen BK277.out 0
   have hfz18_1 := blk_frozen BK277.out 1
   go_upto_region 7 with (first | ((with_reducible refine gate_callee (f := 52) rfl ?_); refine goesL_ (some 22) rfl rfl Try.func52 (by kernel_rfl) rfl #[.agg #[.int .i64 a1_0, .int .i64 a1_1]] rfl (by (try simp only [List.map_toArray, List.map_cons, List.map_nil]); first | done | rfl | (simp only [List.length_drop, List.length_take]; rfl)) ?_; (with_reducible refine (interval_Check.calls k a1_0 a1_1 t280 _ A13.out).mono ?_); rintro e w19 ⟨rfl, hb⟩; refine ⟨_, rfl, ?_⟩; replace BK276 := kb_ BK276 hb; replace BK277 := kb_ BK277 hb; replace BK278 := kb_ BK278 hb; replace HB := bs_ HB hb; (try clear hb); (try clear hb2); (try clear hk); (try clear hi)))
   (try simp only [Act.put, List.setIfInBounds_toArray, List.set_cons_zero, List.set_cons_succ])
   go_cut [44] (fun v44 wc => ∃ (kq : Nat) (x44_14 : Bool), v44 = .bool x44_14 ∧ Aside0 (trig_Arc.j0 kq x44_14 a0_0 a0_1 a1_0 a1_1 = some (r1, r2, r3)) ∧ Aside0 (kq ≤ k) ∧ Aside0 (wc.heap[gb276]? = some (.cells #[.int .i64 a0_0, .int .i64 a0_1] 24 (0, 0))) ∧ Aside0 (wc.heap[gb277]? = some (.cells #[.int .i64 a1_0, .int .i64 a1_1] 24 (0, 0))) ∧ Aside0 (wc.heap[gb278]? = some (.cells #[.int .i64 0, .int .i64 0] 24 (0, 0))) ∧ Aside0 (Below w.heap.size w wc))
   case first =>
    have H := HC15.out
    clear HC15
    by_cases c20 : a0_0 ≤ 0
    ·rw [if_pos c20] at H
     have c20b0 : decide (a0_0 ≤ 0) = true := decide_eq_true c20
     clear c20
     (first | rw [c20b0] | (simp only [i64_w, i32_w]; rw [c20b0]) | skip)
     by_cases c21 : a0_1 ≥ 0
     ·rw [if_pos c21] at H
      have c21b0 : decide (0 ≤ a0_1) = true := decide_eq_true c21
      clear c21
      by_cases c22 : a1_0 ≤ 0
      ·rw [if_pos c22] at H
       have c22b0 : decide (a1_0 ≤ 0) = true := decide_eq_true c22
       clear c22
       have H' := Aside0.mk H
       clear H
       have hnb23 := NB276_277.out
       have hnc23 := NB277_276.out
       have hnb24 := NB276_278.out
       have hnc24 := NB278_276.out
       have hcz25_0 : w19.cell? ⟨gb276, 0, none⟩ = some (.int .i64 a0_0) := (blk_cell BK276.out 0).trans rfl
       have hcz25_1 : w19.cell? ⟨gb276, 1, none⟩ = some (.int .i64 a0_1) := (blk_cell BK276.out 1).trans rfl
       have hfz25_0 := blk_frozen BK276.out 0
       have hfz25_1 := blk_frozen BK276.out 1
       have hnb26 := NB277_278.out
       have hnc26 := NB278_277.out
       have hcz27_0 : w19.cell? ⟨gb277, 0, none⟩ = some (.int .i64 a1_0) := (blk_cell BK277.out 0).trans rfl
       have hcz27_1 : w19.cell? ⟨gb277, 1, none⟩ = some (.int .i64 a1_1) := (blk_cell BK277.out 1).trans rfl
       have hfz27_0 := blk_frozen BK277.out 0
       have hfz27_1 := blk_frozen BK277.out 1
       go_wp2
       go_meet
       case rel => exact ⟨_, (decide (a1_1 ≥ 0)), (by first | rfl | (simp; done) | (simp [*]; done)), H', ⟨by first | omega | exact Nat.le_refl _⟩, ⟨kk_ BK276⟩, ⟨kk_ BK277⟩, ⟨kk_ BK278⟩, (be_ HB)⟩
      ·rw [if_neg c22] at H
       have c22b0 : decide (a1_0 ≤ 0) = false := decide_eq_false c22
       clear c22
       have H' := Aside0.mk H
       clear H
       have hnb28 := NB276_277.out
       have hnc28 := NB277_276.out
       have hnb29 := NB276_278.out
       have hnc29 := NB278_276.out
       have hcz30_0 : w19.cell? ⟨gb276, 0, none⟩ = some (.int .i64 a0_0) := (blk_cell BK276.out 0).trans rfl
       have hcz30_1 : w19.cell? ⟨gb276, 1, none⟩ = some (.int .i64 a0_1) := (blk_cell BK276.out 1).trans rfl
       have hfz30_0 := blk_frozen BK276.out 0
       have hfz30_1 := blk_frozen BK276.out 1
       have hnb31 := NB277_278.out
       have hnc31 := NB278_277.out
       have hcz32_0 : w19.cell? ⟨gb277, 0, none⟩ = some (.int .i64 a1_0) := (blk_cell BK277.out 0).trans rfl
       have hcz32_1 : w19.cell? ⟨gb277, 1, none⟩ = some (.int .i64 a1_1) := (blk_cell BK277.out 1).trans rfl
       have hfz32_0 := blk_frozen BK277.out 0
       have hfz32_1 := blk_frozen BK277.out 1
       go_wp2
       go_meet
       case rel => exact ⟨_, (false), (by first | rfl | (simp; done) | (simp [*]; done)), H', ⟨by first | omega | exact Nat.le_refl _⟩, ⟨kk_ BK276⟩, ⟨kk_ BK277⟩, ⟨kk_ BK278⟩, (be_ HB)⟩
     ·rw [if_neg c21] at H
      have c21b0 : decide (0 ≤ a0_1) = false := decide_eq_false c21
      clear c21
      have H' := Aside0.mk H
      clear H
      have hnb33 := NB276_277.out
      have hnc33 := NB277_276.out
      have hnb34 := NB276_278.out
      have hnc34 := NB278_276.out
      have hcz35_0 : w19.cell? ⟨gb276, 0, none⟩ = some (.int .i64 a0_0) := (blk_cell BK276.out 0).trans rfl
      have hcz35_1 : w19.cell? ⟨gb276, 1, none⟩ = some (.int .i64 a0_1) := (blk_cell BK276.out 1).trans rfl
      have hfz35_0 := blk_frozen BK276.out 0
      have hfz35_1 := blk_frozen BK276.out 1
      go_wp2
      go_meet
      case rel => exact ⟨_, (false), (by first | rfl | (simp; done) | (simp [*]; done)), H', ⟨by first | omega | exact Nat.le_refl _⟩, ⟨kk_ BK276⟩, ⟨kk_ BK277⟩, ⟨kk_ BK278⟩, (be_ HB)⟩
    ·rw [if_neg c20] at H
     have c20b0 : decide (a0_0 ≤ 0) = false := decide_eq_false c20
     clear c20
     (first | rw [c20b0] | (simp only [i64_w, i32_w]; rw [c20b0]) | skip)
     have H' := Aside0.mk H
     clear H
     have hnb36 := NB276_277.out
     have hnc36 := NB277_276.out
     have hnb37 := NB276_278.out
     have hnc37 := NB278_276.out
     have hcz38_0 : w19.cell? ⟨gb276, 0, none⟩ = some (.int .i64 a0_0) := (blk_cell BK276.out 0).trans rfl
     have hcz38_1 : w19.cell? ⟨gb276, 1, none⟩ = some (.int .i64 a0_1) := (blk_cell BK276.out 1).trans rfl
     have hfz38_0 := blk_frozen BK276.out 0
     have hfz38_1 := blk_frozen BK276.out 1
     go_wp2
     go_meet
     case rel => exact ⟨_, (false), (by first | rfl | (simp; done) | (simp [*]; done)), H', ⟨by first | omega | exact Nat.le_refl _⟩, ⟨kk_ BK276⟩, ⟨kk_ BK277⟩, ⟨kk_ BK278⟩, (be_ HB)⟩
   case rest =>
    clear HC15
    try clear c1
    try clear c2
    try clear p2
    try clear c3
    try clear c5
    try clear c8
    try clear c9
    try clear c12
    try clear c12b0
    try clear c12b1
    try clear c14
    try clear c14b0
    try clear c14b1
    try clear c16
    try clear c17
    try clear c20
    try clear c20b0
    try clear c21
    try clear c21b0
    try clear c22
    try clear c22b0
    try clear c23
    try clear c24
    try clear c26
    try clear c28
    try clear c29
    try clear c31
    try clear c33
    try clear c34
    try clear c36
    try clear c37
    try clear hcz10_0
    try clear hcz10_1
    try clear hcz18_0
    try clear hcz18_1
    try clear hcz25_0
    try clear hcz25_1
    try clear hcz27_0
    try clear hcz27_1
    try clear hcz30_0
    try clear hcz30_1
    try clear hcz32_0
    try clear hcz32_1
    try clear hcz35_0
    try clear hcz35_1
    try clear hcz38_0
    try clear hcz38_1
    try clear hfz10_0
    try clear hfz10_1
    try clear hfz18_0
    try clear hfz18_1
    try clear hfz25_0
    try clear hfz25_1
    try clear hfz27_0
    try clear hfz27_1
    try clear hfz30_0
    try clear hfz30_1
    try clear hfz32_0
    try clear hfz32_1
    try clear hfz35_0
    try clear hfz35_1
    try clear hfz38_0
    try clear hfz38_1
    obtain ⟨kq, x44_14, rfl, HA, HJ14, BK276, BK277, BK278, HB⟩ := hcut
    cases kq with
    | zero => exact absurd HA.out (by simp [trig_Arc.j0])
    | succ kj14 =>
     have H := HA.out
     clear HA
     simp only [trig_Arc.j0] at H
     by_cases c39 : x44_14 = true
     ·subst c39
      have H1 : (some (0, 0, 11)) = some (r1, r2, r3) := by rw [if_pos rfl] at H; exact H
      clear H
      have H := H1
      clear H1
      simp only [Option.some.injEq, Prod.mk.injEq] at H
      obtain ⟨rfl, rfl, rfl⟩ := H
      have hnb40 := NB278_276.out
      have hnc40 := NB276_278.out
      have hnb41 := NB278_277.out
      have hnc41 := NB277_278.out
      have hcz42_0 : wc.cell? ⟨gb278, 0, none⟩ = some (.int .i64 0) := (blk_cell BK278.out 0).trans rfl
      have hcz42_1 : wc.cell? ⟨gb278, 1, none⟩ = some (.int .i64 0) := (blk_cell BK278.out 1).trans rfl
      have hfz42_0 := blk_frozen BK278.out 0
      have hfz42_1 := blk_frozen BK278.out 1
      go_wp2
      refine bodyPost_ret (results_ct rfl _ _ gb278 24 #[.int .i64 0, .int .i64 0] (0, 0) _ rfl (by (with_reducible repeat (first | refine blk_drewN ?_ _ | refine blk_drew ?_ | refine blk_alloc ?_ _)); refine blk_put (cs := #[.int .i64 0, .int .i64 0]) ?_ 1 _ rfl; (with_reducible repeat (first | refine blk_drewN ?_ _ | refine blk_drew ?_ | refine blk_alloc ?_ _)); refine blk_put (cs := #[.int .i64 0, .int .i64 0]) ?_ 0 _ rfl; (with_reducible repeat (first | refine blk_drewN ?_ _ | refine blk_drew ?_ | refine blk_alloc ?_ _)); exact BK278.out) Try.underlying24 rfl (by kernel_rfl)) rfl ?_
      exact ⟨by first | rfl | (simp [errW_none, errW_some] <;> rfl) | (simp [*, errW_none, errW_some] <;> rfl), (be_ HB).out⟩
     ·replace c39 := Bool.eq_false_iff.mpr c39
      subst c39
      have H1 : ((trig_direction.f kj14 a0_0 a1_0).bind fun bt281 => (trig_Arc.l0 kj14 0 a1_1 a0_1 a1_0 a0_1 a1_1 a0_0 bt281.1 bt281.2 bt281.1 bt281.2)) = some (r1, r2, r3) := by rw [if_neg (show ¬ (false = true) by decide)] at H; exact H
      clear H
      have H := H1
      clear H1
      replace H := Option.bind_eq_some_iff.mp H
      obtain ⟨⟨t281, t282⟩, A430, H⟩ := H
      replace H : (trig_Arc.l0 kj14 0 a1_1 a0_1 a1_0 a0_1 a1_1 a0_0 t281 t282 t281 t282) = some (r1, r2, r3) := H
      have A43 := Aside0.mk A430
      clear A430
      have H' := Aside0.mk H
      clear H
      have hnb44 := NB276_277.out
      have hnc44 := NB277_276.out
      have hnb45 := NB276_278.out
      have hnc45 := NB278_276.out
      have hcz46_0 : wc.cell? ⟨gb276, 0, none⟩ = some (.int .i64 a0_0) := (blk_cell BK276.out 0).trans rfl
      have hcz46_1 : wc.cell? ⟨gb276, 1, none⟩ = some (.int .i64 a0_1) := (blk_cell BK276.out 1).trans rfl
      have hfz46_0 := blk_frozen BK276.out 0
      have hfz46_1 := blk_frozen BK276.out 1
      have hnb47 := NB277_278.out
      have hnc47 := NB278_277.out
      have hcz48_0 : wc.cell? ⟨gb277, 0, none⟩ = some (.int .i64 a1_0) := (blk_cell BK277.out 0).trans rfl
      have hcz48_1 : wc.cell? ⟨gb277, 1, none⟩ = some (.int .i64 a1_1) := (blk_cell BK277.out 1).trans rfl
      have hfz48_0 := blk_frozen BK277.out 0
      have hfz48_1 := blk_frozen BK277.out 1
      go_wp2_with (first | ((with_reducible refine gate_callee (f := 95) rfl ?_); refine goesL_ (some 50) rfl rfl Try.func95 (by kernel_rfl) rfl #[.int .i64 a0_0, .int .i64 a1_0] rfl (by (try simp only [List.map_toArray, List.map_cons, List.map_nil]); first | done | rfl | (simp only [List.length_drop, List.length_take]; rfl)) ?_; (with_reducible refine (trig_direction.calls kj14 a0_0 a1_0 t281 t282 _ A43.out).mono ?_); rintro e w49 ⟨rfl, hb⟩; refine ⟨_, rfl, ?_⟩; replace BK276 := kb_ BK276 hb; replace BK277 := kb_ BK277 hb; replace BK278 := kb_ BK278 hb; replace HB := bs_ HB hb; (try clear hb); (try clear hb2); (try clear hk); (try clear hi)) | ((with_reducible refine gate_dst (N := 8) rfl ?_); refine box_event ?hg (N := 8) ?hd (cs := #[.int .i64 0, .int .i64 0]) (t := 24) ?hr ?_; (case hd => rfl); (case hg => rfl); (case hr => first | (go_simp; done) | (go_simp; rfl)); intro gb283 hg w50 hbox hb; have BK283 := Aside0.mk (hbox); have GW283 := ge_ hg HB; have GE283 := ge_ hg HB; have NB276_283 := nl_ hg BK276; have NB283_276 := ng_ hg BK276; have NB277_283 := nl_ hg BK277; have NB283_277 := ng_ hg BK277; have NB278_283 := nl_ hg BK278; have NB283_278 := ng_ hg BK278; replace BK276 := kb_ BK276 hb; replace BK277 := kb_ BK277 hb; replace BK278 := kb_ BK278 hb; replace HB := bs_ HB hb; clear hb hbox hg; have hnb51 := NB283_276.out; have hnc51 := NB276_283.out; have hnb52 := NB283_277.out; have hnc52 := NB277_283.out; have hnb53 := NB283_278.out; have hnc53 := NB278_283.out; have hcz54_0 : w50.cell? ⟨gb283, 0, none⟩ = some (.int .i64 0) := (blk_cell BK283.out 0).trans rfl; have hcz54_1 : w50.cell? ⟨gb283, 1, none⟩ = some (.int .i64 0) := (blk_cell BK283.out 1).trans rfl; have hfz54_0 := blk_frozen BK283.out 0; have hfz54_1 := blk_frozen BK283.out 1) | ((with_reducible refine gate_dst (N := 9) rfl ?_); refine box_event ?hg (N := 9) ?hd (cs := #[.int .i64 0, .int .i64 0]) (t := 24) ?hr ?_; (case hd => rfl); (case hg => rfl); (case hr => first | (go_simp; done) | (go_simp; rfl)); intro gb284 hg w55 hbox hb; have n0_ := kb_ BK276 hb; have n1_ := kb_ BK277 hb; have n2_ := kb_ BK278 hb; have n3_ := Aside0.mk (blk_below (g := gb283) (o := .cells #[.int .i64 t281, .int .i64 t282] 24 (0, 0)) (by (with_reducible repeat (first | refine blk_drewN ?_ _ | refine blk_drew ?_ | refine blk_alloc ?_ _)); refine blk_put (cs := #[.int .i64 t281, .int .i64 0]) ?_ 1 _ rfl; (with_reducible repeat (first | refine blk_drewN ?_ _ | refine blk_drew ?_ | refine blk_alloc ?_ _)); refine blk_put (cs := #[.int .i64 0, .int .i64 0]) ?_ 0 _ rfl; (with_reducible repeat (first | refine blk_drewN ?_ _ | refine blk_drew ?_ | refine blk_alloc ?_ _)); exact BK283.out) hb); have n4_ := bs_ HB hb; have n5_ := Aside0.mk (hbox); have n6_ := ge_ hg HB; have n7_ := ge_ hg HB; have n8_ := nl_ hg BK276; have n9_ := ng_ hg BK276; have n10_ := nl_ hg BK277; have n11_ := ng_ hg BK277; have n12_ := nl_ hg BK278; have n13_ := ng_ hg BK278; have n14_ := Aside0.mk ((by rw [hg]; exact Nat.ne_of_lt (blk_lt (g := gb283) (o := .cells #[.int .i64 t281, .int .i64 t282] 24 (0, 0)) (by (with_reducible repeat (first | refine blk_drewN ?_ _ | refine blk_drew ?_ | refine blk_alloc ?_ _)); refine blk_put (cs := #[.int .i64 t281, .int .i64 0]) ?_ 1 _ rfl; (with_reducible repeat (first | refine blk_drewN ?_ _ | refine blk_drew ?_ | refine blk_alloc ?_ _)); refine blk_put (cs := #[.int .i64 0, .int .i64 0]) ?_ 0 _ rfl; (with_reducible repeat (first | refine blk_drewN ?_ _ | refine blk_drew ?_ | refine blk_alloc ?_ _)); exact BK283.out)) : gb283 ≠ gb284)); have n15_ := Aside0.mk ((by rw [hg]; exact Nat.ne_of_gt (blk_lt (g := gb283) (o := .cells #[.int .i64 t281, .int .i64 t282] 24 (0, 0)) (by (with_reducible repeat (first | refine blk_drewN ?_ _ | refine blk_drew ?_ | refine blk_alloc ?_ _)); refine blk_put (cs := #[.int .i64 t281, .int .i64 0]) ?_ 1 _ rfl; (with_reducible repeat (first | refine blk_drewN ?_ _ | refine blk_drew ?_ | refine blk_alloc ?_ _)); refine blk_put (cs := #[.int .i64 0, .int .i64 0]) ?_ 0 _ rfl; (with_reducible repeat (first | refine blk_drewN ?_ _ | refine blk_drew ?_ | refine blk_alloc ?_ _)); exact BK283.out)) : gb284 ≠ gb283)); clear BK276; clear BK277; clear BK278; clear BK283; clear HB; have BK276 := n0_; have BK277 := n1_; have BK278 := n2_; have BK283 := n3_; have HB := n4_; have BK284 := n5_; have GW284 := n6_; have GE284 := n7_; have NB276_284 := n8_; have NB284_276 := n9_; have NB277_284 := n10_; have NB284_277 := n11_; have NB278_284 := n12_; have NB284_278 := n13_; have NB283_284 := n14_; have NB284_283 := n15_; clear n0_ n1_ n2_ n3_ n4_ n5_ n6_ n7_ n8_ n9_ n10_ n11_ n12_ n13_ n14_ n15_; clear hb hbox hg; have hnb56 := NB284_276.out; have hnc56 := NB276_284.out; have hnb57 := NB284_277.out; have hnc57 := NB277_284.out; have hnb58 := NB284_278.out; have hnc58 := NB278_284.out; have hnb59 := NB284_283.out; have hnc59 := NB283_284.out; have hcz60_0 : w55.cell? ⟨gb284, 0, none⟩ = some (.int .i64 0) := (blk_cell BK284.out 0).trans rfl; have hcz60_1 : w55.cell? ⟨gb284, 1, none⟩ = some (.int .i64 0) := (blk_cell BK284.out 1).trans rfl; have hfz60_0 := blk_frozen BK284.out 0; have hfz60_1 := blk_frozen BK284.out 1; have hcz61_0 : w55.cell? ⟨gb276, 0, none⟩ = some (.int .i64 a0_0) := (blk_cell BK276.out 0).trans rfl; have hcz61_1 : w55.cell? ⟨gb276, 1, none⟩ = some (.int .i64 a0_1) := (blk_cell BK276.out 1).trans rfl; have hfz61_0 := blk_frozen BK276.out 0; have hfz61_1 := blk_frozen BK276.out 1; have hcz62_0 : w55.cell? ⟨gb277, 0, none⟩ = some (.int .i64 a1_0) := (blk_cell BK277.out 0).trans rfl; have hcz62_1 : w55.cell? ⟨gb277, 1, none⟩ = some (.int .i64 a1_1) := (blk_cell BK277.out 1).trans rfl; have hfz62_0 := blk_frozen BK277.out 0; have hfz62_1 := blk_frozen BK277.out 1))
      go_loopg [68] kj14 (fun kq v68 w' => ∃ (x68_2 : Int) (x285000_2 : Int) (x285001_2 : Int), v68 = .int .i64 x68_2 ∧ Aside0 (trig_Arc.l0 kq x68_2 a1_1 a0_1 a1_0 a0_1 a1_1 a0_0 t281 t282 x285000_2 x285001_2 = some (r1, r2, r3)) ∧ Aside0 (kq ≤ kj14) ∧ Aside0 (w'.heap[gb276]? = some (.cells #[.int .i64 a0_0, .int .i64 a0_1] 24 (0, 0))) ∧ Aside0 (w'.heap[gb277]? = some (.cells #[.int .i64 a1_0, .int .i64 a1_1] 24 (0, 0))) ∧ Aside0 (w'.heap[gb278]? = some (.cells #[.int .i64 0, .int .i64 0] 24 (0, 0))) ∧ Aside0 (w'.heap[gb283]? = some (.cells #[.int .i64 t281, .int .i64 t282] 24 (0, 0))) ∧ Aside0 (w'.heap[gb284]? = some (.cells #[.int .i64 x285000_2, .int .i64 x285001_2] 24 (0, 0))) ∧ Aside0 (Below w.heap.size w w'))
      case atStart => exact ⟨(0), (t281), (t282), (by first | rfl | (simp; done) | (simp [*]; done)), H', ⟨Nat.le_refl _⟩, ⟨kk_ BK276⟩, ⟨kk_ BK277⟩, ⟨kk_ BK278⟩, ⟨kk_ BK283⟩, ⟨by (with_reducible repeat (first | refine blk_drewN ?_ _ | refine blk_drew ?_ | refine blk_alloc ?_ _)); refine blk_put (cs := #[.int .i64 t281, .int .i64 0]) ?_ 1 _ rfl; (with_reducible repeat (first | refine blk_drewN ?_ _ | refine blk_drew ?_ | refine blk_alloc ?_ _)); refine blk_put (cs := #[.int .i64 0, .int .i64 0]) ?_ 0 _ rfl; (with_reducible repeat (first | refine blk_drewN ?_ _ | refine blk_drew ?_ | refine blk_alloc ?_ _)); exact BK284.out⟩, (be_ HB)⟩
      case round =>
       clear H'
       try clear c1
       try clear c2
       try clear p2
       try clear c3
       try clear c4
       try clear c5
       try clear c8
       try clear c9
       try clear c12
       try clear c12b0
       try clear c12b1
       try clear c14
       try clear c14b0
       try clear c14b1
       try clear c16
       try clear c17
       try clear c20
       try clear c20b0
       try clear c21
       try clear c21b0
       try clear c22
       try clear c22b0
       try clear c23
       try clear c24
       try clear c26
       try clear c28
       try clear c29
       try clear c31
       try clear c33
       try clear c34
       try clear c36
       try clear c37
       try clear c39
       try clear c40
       try clear c41
       try clear c44
       try clear c45
       try clear c47
       try clear c51
       try clear c52
       try clear c53
       try clear c56
       try clear c57
       try clear c58
       try clear c59
       try clear hcz10_0
       try clear hcz10_1
       try clear hcz18_0
       try clear hcz18_1
       try clear hcz25_0
       try clear hcz25_1
       try clear hcz27_0
       try clear hcz27_1
       try clear hcz30_0
       try clear hcz30_1
       try clear hcz32_0
       try clear hcz32_1
       try clear hcz35_0
       try clear hcz35_1
       try clear hcz38_0
       try clear hcz38_1
       try clear hcz42_0
       try clear hcz42_1
       try clear hcz46_0
       try clear hcz46_1
       try clear hcz48_0
       try clear hcz48_1
       try clear hcz54_0
       try clear hcz54_1
       try clear hcz60_0
       try clear hcz60_1
       try clear hcz61_0
       try clear hcz61_1
       try clear hcz62_0
       try clear hcz62_1
       try clear hfz10_0
       try clear hfz10_1
       try clear hfz18_0
       try clear hfz18_1
       try clear hfz25_0
       try clear hfz25_1
       try clear hfz27_0
       try clear hfz27_1
       try clear hfz30_0
       try clear hfz30_1
       try clear hfz32_0
       try clear hfz32_1
       try clear hfz35_0
       try clear hfz35_1
       try clear hfz38_0
       try clear hfz38_1
       try clear hfz42_0
       try clear hfz42_1
       try clear hfz46_0
       try clear hfz46_1
       try clear hfz48_0
       try clear hfz48_1
       try clear hfz54_0
       try clear hfz54_1
       try clear hfz60_0
       try clear hfz60_1
       try clear hfz61_0
       try clear hfz61_1
       try clear hfz62_0
       try clear hfz62_1
       try clear p2
       obtain ⟨x68_2, x285000_2, x285001_2, rfl, HA, HK2, BK276, BK277, BK278, BK283, BK284, HB⟩ := hrel
       cases gk with
       | zero => exact absurd HA.out (by simp [trig_Arc.l0])
       | succ k2 =>
        have H := HA.out
        clear HA
        simp only [trig_Arc.l0] at H
        by_cases c63 : x68_2 < 3
        ·rw [if_pos c63] at H
         have c63b0 : decide (x68_2 < 3) = true := decide_eq_true c63
         clear c63
         by_cases c64 : 0 ≤ x68_2
         ·rw [if_pos c64] at H
          have c64b0 : decide (0 ≤ x68_2) = true := decide_eq_true c64
          clear c64
          replace H := Option.bind_eq_some_iff.mp H
          obtain ⟨⟨t286, t287⟩, A660, H⟩ := H
          replace H : ((interval_Floor.f (wrap64 ((wrap64 (t286 - t281)) + 500000000)) 1000000000).bind fun t289 => (trig_Arc.l0 k2 (wrap64 (x68_2 + 1)) a1_1 a0_1 a1_0 a0_1 a1_1 a0_0 t281 t282 (mn x285000_2 (wrap64 (t286 - (wrap64 (t289 * 1000000000))))) (mx x285001_2 (wrap64 (t287 - (wrap64 (t289 * 1000000000))))))) = some (r1, r2, r3) := H
          have A66 := Aside0.mk A660
          clear A660
          replace H := Option.bind_eq_some_iff.mp H
          obtain ⟨t289, A670, H⟩ := H
          replace H : (trig_Arc.l0 k2 (wrap64 (x68_2 + 1)) a1_1 a0_1 a1_0 a0_1 a1_1 a0_0 t281 t282 (mn x285000_2 (wrap64 (t286 - (wrap64 (t289 * 1000000000))))) (mx x285001_2 (wrap64 (t287 - (wrap64 (t289 * 1000000000)))))) = some (r1, r2, r3) := H
          have A67 := Aside0.mk A670
          clear A670
          obtain ⟨ji68, hji68⟩ : ∃ j_ : Int, (mn x285000_2 (wrap64 (t286 - (wrap64 (t289 * 1000000000))))) = j_ := ⟨_, rfl⟩
          replace H : (trig_Arc.l0 k2 (wrap64 (x68_2 + 1)) a1_1 a0_1 a1_0 a0_1 a1_1 a0_0 t281 t282 ji68 (mx x285001_2 (wrap64 (t287 - (wrap64 (t289 * 1000000000)))))) = some (r1, r2, r3) := by first | (rw [hji68] at H; exact H) | (simp only [hji68] at H ⊢; exact H)
          (try rw [hji68] at A66)
          (try rw [hji68] at A67)
          have hji68_ : (if (wrap64 (t286 - (wrap64 (t289 * 1000000000)))) < x285000_2 then (wrap64 (t286 - (wrap64 (t289 * 1000000000)))) else x285000_2) = ji68 := hji68
          obtain ⟨ji69, hji69⟩ : ∃ j_ : Int, (mx x285001_2 (wrap64 (t287 - (wrap64 (t289 * 1000000000))))) = j_ := ⟨_, rfl⟩
          replace H : (trig_Arc.l0 k2 (wrap64 (x68_2 + 1)) a1_1 a0_1 a1_0 a0_1 a1_1 a0_0 t281 t282 ji68 ji69) = some (r1, r2, r3) := by first | (rw [hji69] at H; exact H) | (simp only [hji69] at H ⊢; exact H)
          (try rw [hji69] at A66)
          (try rw [hji69] at A67)
          have hji69_ : (if x285001_2 < (wrap64 (t287 - (wrap64 (t289 * 1000000000)))) then (wrap64 (t287 - (wrap64 (t289 * 1000000000)))) else x285001_2) = ji69 := hji69
          have H' := Aside0.mk H
          clear H
          have p65 : 0 ≤ (x68_2 : Int) := of_decide_eq_true (by first | (with_reducible assumption) | assumption)
          have q65 : (x68_2 : Int) < (3 : Int) := of_decide_eq_true (by first | (with_reducible assumption) | assumption)
          have hx65 : ∀ W : World, (Instr.index 88 (.agg #[.int .i64 a0_0, .int .i64 a1_1, .int .i64 a0_1, .int .i64 a1_0, .int .i64 a0_1, .int .i64 a1_1]) (.int .i64 x68_2)).run Try.prog W = .ok (.agg #[.int .i64 (rd [a0_0, a0_1, a0_1] x68_2), .int .i64 (rd [a1_1, a1_0, a1_1] x68_2)]) W := fun W => arrIdx32_ Try.underlying88 Try.sizeOf87 Try.isAgg87 _ _ _ _ _ _ x68_2 p65 q65 W
          replace p65 := eq_true p65
          replace q65 := eq_true q65
          try go_wp2_with (first | ((with_reducible refine gate_dst (N := 11) rfl ?_); refine box_event ?hg (N := 11) ?hd (cs := #[.int .i64 0, .int .i64 0]) (t := 87) ?hr ?_; (case hd => rfl); (case hg => rfl); (case hr => first | (go_simp; done) | (go_simp; rfl)); intro gb285 hg w70 hbox hb; have BK285 := Aside0.mk (hbox); have GW285 := ge_ hg HB; have GE285 := ge_ hg HB; have NB276_285 := nl_ hg BK276; have NB285_276 := ng_ hg BK276; have NB277_285 := nl_ hg BK277; have NB285_277 := ng_ hg BK277; have NB278_285 := nl_ hg BK278; have NB285_278 := ng_ hg BK278; have NB283_285 := nl_ hg BK283; have NB285_283 := ng_ hg BK283; have NB284_285 := nl_ hg BK284; have NB285_284 := ng_ hg BK284; replace BK276 := kb_ BK276 hb; replace BK277 := kb_ BK277 hb; replace BK278 := kb_ BK278 hb; replace BK283 := kb_ BK283 hb; replace BK284 := kb_ BK284 hb; replace HB := bs_ HB hb; clear hb hbox hg; have hnb71 := NB285_276.out; have hnc71 := NB276_285.out; have hnb72 := NB285_277.out; have hnc72 := NB277_285.out; have hnb73 := NB285_278.out; have hnc73 := NB278_285.out; have hnb74 := NB285_283.out; have hnc74 := NB283_285.out; have hnb75 := NB285_284.out; have hnc75 := NB284_285.out; have hcz76_0 : w70.cell? ⟨gb285, 0, none⟩ = some (.int .i64 0) := (blk_cell BK285.out 0).trans rfl; have hcz76_1 : w70.cell? ⟨gb285, 1, none⟩ = some (.int .i64 0) := (blk_cell BK285.out 1).trans rfl; have hfz76_0 := blk_frozen BK285.out 0; have hfz76_1 := blk_frozen BK285.out 1) | ((with_reducible refine gate_callee (f := 95) rfl ?_); refine goesL_ (some 75) rfl rfl Try.func95 (by kernel_rfl) rfl #[.int .i64 (rd [a0_0, a0_1, a0_1] x68_2), .int .i64 (rd [a1_1, a1_0, a1_1] x68_2)] rfl (by (try simp only [List.map_toArray, List.map_cons, List.map_nil]); first | done | rfl | (simp only [List.length_drop, List.length_take]; rfl)) ?_; (with_reducible refine (trig_direction.calls k2 (rd [a0_0, a0_1, a0_1] x68_2) (rd [a1_1, a1_0, a1_1] x68_2) t286 t287 _ A66.out).mono ?_); rintro e w77 ⟨rfl, hb⟩; refine ⟨_, rfl, ?_⟩; have n0_ := kb_ BK276 hb; have n1_ := kb_ BK277 hb; have n2_ := kb_ BK278 hb; have n3_ := kb_ BK283 hb; have n4_ := kb_ BK284 hb; have n5_ := Aside0.mk (blk_below (g := gb285) (o := .cells #[.int .i64 (rd [a0_0, a0_1, a0_1] x68_2), .int .i64 (rd [a1_1, a1_0, a1_1] x68_2)] 87 (0, 0)) (by (with_reducible repeat (first | refine blk_drewN ?_ _ | refine blk_drew ?_ | refine blk_alloc ?_ _)); refine blk_put (cs := #[.int .i64 (rd [a0_0, a0_1, a0_1] x68_2), .int .i64 0]) ?_ 1 _ rfl; (with_reducible repeat (first | refine blk_drewN ?_ _ | refine blk_drew ?_ | refine blk_alloc ?_ _)); refine blk_put (cs := #[.int .i64 0, .int .i64 0]) ?_ 0 _ rfl; (with_reducible repeat (first | refine blk_drewN ?_ _ | refine blk_drew ?_ | refine blk_alloc ?_ _)); exact BK285.out) hb); have n6_ := bs_ HB hb; clear BK276; clear BK277; clear BK278; clear BK283; clear BK284; clear BK285; clear HB; have BK276 := n0_; have BK277 := n1_; have BK278 := n2_; have BK283 := n3_; have BK284 := n4_; have BK285 := n5_; have HB := n6_; clear n0_ n1_ n2_ n3_ n4_ n5_ n6_; (try clear hb); (try clear hb2); (try clear hk); (try clear hi)) | ((with_reducible refine gate_dst (N := 12) rfl ?_); refine box_event ?hg (N := 12) ?hd (cs := #[.int .i64 0, .int .i64 0]) (t := 24) ?hr ?_; (case hd => rfl); (case hg => rfl); (case hr => first | (go_simp; done) | (go_simp; rfl)); intro gb288 hg w78 hbox hb; have BK288 := Aside0.mk (hbox); have GW288 := ge_ hg HB; have GE288 := ge_ hg HB; have NB276_288 := nl_ hg BK276; have NB288_276 := ng_ hg BK276; have NB277_288 := nl_ hg BK277; have NB288_277 := ng_ hg BK277; have NB278_288 := nl_ hg BK278; have NB288_278 := ng_ hg BK278; have NB283_288 := nl_ hg BK283; have NB288_283 := ng_ hg BK283; have NB284_288 := nl_ hg BK284; have NB288_284 := ng_ hg BK284; have NB285_288 := nl_ hg BK285; have NB288_285 := ng_ hg BK285; replace BK276 := kb_ BK276 hb; replace BK277 := kb_ BK277 hb; replace BK278 := kb_ BK278 hb; replace BK283 := kb_ BK283 hb; replace BK284 := kb_ BK284 hb; replace BK285 := kb_ BK285 hb; replace HB := bs_ HB hb; clear hb hbox hg; have hnb79 := NB288_276.out; have hnc79 := NB276_288.out; have hnb80 := NB288_277.out; have hnc80 := NB277_288.out; have hnb81 := NB288_278.out; have hnc81 := NB278_288.out; have hnb82 := NB288_283.out; have hnc82 := NB283_288.out; have hnb83 := NB288_284.out; have hnc83 := NB284_288.out; have hnb84 := NB288_285.out; have hnc84 := NB285_288.out; have hcz85_0 : w78.cell? ⟨gb288, 0, none⟩ = some (.int .i64 0) := (blk_cell BK288.out 0).trans rfl; have hcz85_1 : w78.cell? ⟨gb288, 1, none⟩ = some (.int .i64 0) := (blk_cell BK288.out 1).trans rfl; have hfz85_0 := blk_frozen BK288.out 0; have hfz85_1 := blk_frozen BK288.out 1; have hnb86 := NB283_276.out; have hnc86 := NB276_283.out; have hnb87 := NB283_277.out; have hnc87 := NB277_283.out; have hnb88 := NB283_278.out; have hnc88 := NB278_283.out; have hnb89 := NB283_284.out; have hnc89 := NB284_283.out; have hcz90_0 : w78.cell? ⟨gb283, 0, none⟩ = some (.int .i64 t281) := (blk_cell BK283.out 0).trans rfl; have hcz90_1 : w78.cell? ⟨gb283, 1, none⟩ = some (.int .i64 t282) := (blk_cell BK283.out 1).trans rfl; have hfz90_0 := blk_frozen BK283.out 0; have hfz90_1 := blk_frozen BK283.out 1) | ((with_reducible refine gate_callee (f := 96) rfl ?_); refine goesL_ (some 82) rfl rfl Try.func96 (by kernel_rfl) rfl #[.int .i64 (wrap64 ((wrap64 (t286 - t281)) + 500000000)), .int .i64 1000000000] rfl (by (try simp only [List.map_toArray, List.map_cons, List.map_nil]); first | done | rfl | (simp only [List.length_drop, List.length_take]; rfl)) ?_; (with_reducible refine (interval_Floor.calls (wrap64 ((wrap64 (t286 - t281)) + 500000000)) 1000000000 t289 _ A67.out).mono ?_); rintro e w' ⟨rfl, ⟨nd, rfl⟩⟩; refine ⟨_, rfl, ?_⟩))
          have n0_ : Aside0 (((w78.setCell ⟨gb288, 0, none⟩ (.int .i64 t286)).setCell ⟨gb288, 1, none⟩ (.int .i64 t287)).heap[gb276]? = some (.cells #[.int .i64 a0_0, .int .i64 a0_1] 24 (0, 0))) := ⟨kk_ BK276⟩
          have n1_ : Aside0 (((w78.setCell ⟨gb288, 0, none⟩ (.int .i64 t286)).setCell ⟨gb288, 1, none⟩ (.int .i64 t287)).heap[gb277]? = some (.cells #[.int .i64 a1_0, .int .i64 a1_1] 24 (0, 0))) := ⟨kk_ BK277⟩
          have n2_ : Aside0 (((w78.setCell ⟨gb288, 0, none⟩ (.int .i64 t286)).setCell ⟨gb288, 1, none⟩ (.int .i64 t287)).heap[gb278]? = some (.cells #[.int .i64 0, .int .i64 0] 24 (0, 0))) := ⟨kk_ BK278⟩
          have n3_ : Aside0 (((w78.setCell ⟨gb288, 0, none⟩ (.int .i64 t286)).setCell ⟨gb288, 1, none⟩ (.int .i64 t287)).heap[gb283]? = some (.cells #[.int .i64 t281, .int .i64 t282] 24 (0, 0))) := ⟨kk_ BK283⟩
          have n4_ : Aside0 (((w78.setCell ⟨gb288, 0, none⟩ (.int .i64 t286)).setCell ⟨gb288, 1, none⟩ (.int .i64 t287)).heap[gb284]? = some (.cells #[.int .i64 x285000_2, .int .i64 x285001_2] 24 (0, 0))) := ⟨kk_ BK284⟩
          have n5_ : Aside0 (((w78.setCell ⟨gb288, 0, none⟩ (.int .i64 t286)).setCell ⟨gb288, 1, none⟩ (.int .i64 t287)).heap[gb285]? = some (.cells #[.int .i64 (rd [a0_0, a0_1, a0_1] x68_2), .int .i64 (rd [a1_1, a1_0, a1_1] x68_2)] 87 (0, 0))) := ⟨kk_ BK285⟩
          have n6_ : Aside0 (((w78.setCell ⟨gb288, 0, none⟩ (.int .i64 t286)).setCell ⟨gb288, 1, none⟩ (.int .i64 t287)).heap[gb288]? = some (.cells #[.int .i64 t286, .int .i64 t287] 24 (0, 0))) := ⟨by (with_reducible repeat (first | refine blk_drewN ?_ _ | refine blk_drew ?_ | refine blk_alloc ?_ _)); refine blk_put (cs := #[.int .i64 t286, .int .i64 0]) ?_ 1 _ rfl; (with_reducible repeat (first | refine blk_drewN ?_ _ | refine blk_drew ?_ | refine blk_alloc ?_ _)); refine blk_put (cs := #[.int .i64 0, .int .i64 0]) ?_ 0 _ rfl; (with_reducible repeat (first | refine blk_drewN ?_ _ | refine blk_drew ?_ | refine blk_alloc ?_ _)); exact BK288.out⟩
          have n7_ : Aside0 (Below w.heap.size w ((w78.setCell ⟨gb288, 0, none⟩ (.int .i64 t286)).setCell ⟨gb288, 1, none⟩ (.int .i64 t287))) := (be_ HB)
          (try clear BK276)
          (try clear BK277)
          (try clear BK278)
          (try clear BK283)
          (try clear BK284)
          (try clear BK285)
          (try clear BK288)
          (try clear HB)
          generalize ((w78.setCell ⟨gb288, 0, none⟩ (.int .i64 t286)).setCell ⟨gb288, 1, none⟩ (.int .i64 t287)) = w91 at n0_ n1_ n2_ n3_ n4_ n5_ n6_ n7_ ⊢
          have BK276 := n0_
          have BK277 := n1_
          have BK278 := n2_
          have BK283 := n3_
          have BK284 := n4_
          have BK285 := n5_
          have BK288 := n6_
          have HB := n7_
          clear n0_ n1_ n2_ n3_ n4_ n5_ n6_ n7_
          (try (rw [drewN_self w91]; generalize hq_ : World.drewN w91 _ = w91; have n0_ : Aside0 (w91.heap[gb276]? = some (.cells #[.int .i64 a0_0, .int .i64 a0_1] 24 (0, 0))) := ⟨by rw [← hq_]; exact (kk_ BK276)⟩; have n1_ : Aside0 (w91.heap[gb277]? = some (.cells #[.int .i64 a1_0, .int .i64 a1_1] 24 (0, 0))) := ⟨by rw [← hq_]; exact (kk_ BK277)⟩; have n2_ : Aside0 (w91.heap[gb278]? = some (.cells #[.int .i64 0, .int .i64 0] 24 (0, 0))) := ⟨by rw [← hq_]; exact (kk_ BK278)⟩; have n3_ : Aside0 (w91.heap[gb283]? = some (.cells #[.int .i64 t281, .int .i64 t282] 24 (0, 0))) := ⟨by rw [← hq_]; exact (kk_ BK283)⟩; have n4_ : Aside0 (w91.heap[gb284]? = some (.cells #[.int .i64 x285000_2, .int .i64 x285001_2] 24 (0, 0))) := ⟨by rw [← hq_]; exact (kk_ BK284)⟩; have n5_ : Aside0 (w91.heap[gb285]? = some (.cells #[.int .i64 (rd [a0_0, a0_1, a0_1] x68_2), .int .i64 (rd [a1_1, a1_0, a1_1] x68_2)] 87 (0, 0))) := ⟨by rw [← hq_]; exact (kk_ BK285)⟩; have n6_ : Aside0 (w91.heap[gb288]? = some (.cells #[.int .i64 t286, .int .i64 t287] 24 (0, 0))) := ⟨by rw [← hq_]; exact (kk_ BK288)⟩; have n7_ : Aside0 (Below w.heap.size w w91) := ⟨by rw [← hq_]; exact (be_ HB).out⟩; clear BK276 BK277 BK278 BK283 BK284 BK285 BK288 HB hq_; have BK276 := n0_; have BK277 := n1_; have BK278 := n2_; have BK283 := n3_; have BK284 := n4_; have BK285 := n5_; have BK288 := n6_; have HB := n7_; clear n0_ n1_ n2_ n3_ n4_ n5_ n6_ n7_; have hcy276_0 : w91.cell? ⟨gb276, 0, none⟩ = some (.int .i64 a0_0) := (blk_cell BK276.out 0).trans rfl; have hfy276_0 := blk_frozen BK276.out 0; have hcy276_1 : w91.cell? ⟨gb276, 1, none⟩ = some (.int .i64 a0_1) := (blk_cell BK276.out 1).trans rfl; have hfy276_1 := blk_frozen BK276.out 1; have hcy277_0 : w91.cell? ⟨gb277, 0, none⟩ = some (.int .i64 a1_0) := (blk_cell BK277.out 0).trans rfl; have hfy277_0 := blk_frozen BK277.out 0; have hcy277_1 : w91.cell? ⟨gb277, 1, none⟩ = some (.int .i64 a1_1) := (blk_cell BK277.out 1).trans rfl; have hfy277_1 := blk_frozen BK277.out 1; have hcy278_0 : w91.cell? ⟨gb278, 0, none⟩ = some (.int .i64 0) := (blk_cell BK278.out 0).trans rfl; have hfy278_0 := blk_frozen BK278.out 0; have hcy278_1 : w91.cell? ⟨gb278, 1, none⟩ = some (.int .i64 0) := (blk_cell BK278.out 1).trans rfl; have hfy278_1 := blk_frozen BK278.out 1; have hcy283_0 : w91.cell? ⟨gb283, 0, none⟩ = some (.int .i64 t281) := (blk_cell BK283.out 0).trans rfl; have hfy283_0 := blk_frozen BK283.out 0; have hcy283_1 : w91.cell? ⟨gb283, 1, none⟩ = some (.int .i64 t282) := (blk_cell BK283.out 1).trans rfl; have hfy283_1 := blk_frozen BK283.out 1; have hcy284_0 : w91.cell? ⟨gb284, 0, none⟩ = some (.int .i64 x285000_2) := (blk_cell BK284.out 0).trans rfl; have hfy284_0 := blk_frozen BK284.out 0; have hcy284_1 : w91.cell? ⟨gb284, 1, none⟩ = some (.int .i64 x285001_2) := (blk_cell BK284.out 1).trans rfl; have hfy284_1 := blk_frozen BK284.out 1; have hcy285_0 : w91.cell? ⟨gb285, 0, none⟩ = some (.int .i64 (rd [a0_0, a0_1, a0_1] x68_2)) := (blk_cell BK285.out 0).trans rfl; have hfy285_0 := blk_frozen BK285.out 0; have hcy285_1 : w91.cell? ⟨gb285, 1, none⟩ = some (.int .i64 (rd [a1_1, a1_0, a1_1] x68_2)) := (blk_cell BK285.out 1).trans rfl; have hfy285_1 := blk_frozen BK285.out 1; have hcy288_0 : w91.cell? ⟨gb288, 0, none⟩ = some (.int .i64 t286) := (blk_cell BK288.out 0).trans rfl; have hfy288_0 := blk_frozen BK288.out 0; have hcy288_1 : w91.cell? ⟨gb288, 1, none⟩ = some (.int .i64 t287) := (blk_cell BK288.out 1).trans rfl; have hfy288_1 := blk_frozen BK288.out 1))
          replace BK276 := Aside0.mk (blk_drew BK276.out)
          replace BK277 := Aside0.mk (blk_drew BK277.out)
          replace BK278 := Aside0.mk (blk_drew BK278.out)
          replace BK283 := Aside0.mk (blk_drew BK283.out)
          replace BK284 := Aside0.mk (blk_drew BK284.out)
          replace BK285 := Aside0.mk (blk_drew BK285.out)
          replace BK288 := Aside0.mk (blk_drew BK288.out)
          replace HB := Aside0.mk (below_drew1 HB.out)
          refine start_ (n := 18) (S := fun w' => w'.cell? ⟨gb284, 0, none⟩ = some (.int .i64 x285000_2) ∧ w'.cell? ⟨gb284, 1, none⟩ = some (.int .i64 x285001_2) ∧ w'.cell? ⟨gb288, 0, none⟩ = some (.int .i64 t286) ∧ w'.cell? ⟨gb288, 1, none⟩ = some (.int .i64 t287)) (ds := [15, 17]) #[false, false, false, false, false, false, false, false, false, false, false, false, false, false, false, false, false, false] (by kernel_rfl) rfl rfl ⟨(blk_cell BK284.out 0).trans rfl, (blk_cell BK284.out 1).trans rfl, (blk_cell BK288.out 0).trans rfl, (blk_cell BK288.out 1).trans rfl⟩ (fun hHeld => ?_); refine with_tabW trig_Arc.tab16 trig_Arc.bits16 (fun HT_ HW_ => ?_)
          generalize w91.drew = w92 at BK276 BK277 BK278 BK283 BK284 BK285 BK288 HB hHeld ⊢
          refine pure_ (i := 0) (N := some 84) (v := ?_) (a' := ?_) #[true, false, false, false, false, false, false, false, false, false, false, false, false, false, false, false, false, false] rfl rfl (any_of HT_.out (by kernel_rfl)) (fun _ _ _ h => h) (Or.inl ⟨by rfl, ?_⟩) ?_ ?_
          rotate_left
          ·intro w'
           go_simp
           with_reducible rfl
          rotate_left
          ·simp only [Act.put, List.setIfInBounds_toArray, List.set_cons_zero, List.set_cons_succ, i64_w, i32_w]
           rfl
          refine pure_ (i := 2) (N := some 86) (v := ?_) (a' := ?_) #[true, false, true, false, false, false, false, false, false, false, false, false, false, false, false, false, false, false] rfl rfl (any_of HT_.out (by kernel_rfl)) (fun _ _ _ h => h) (Or.inl ⟨by rfl, ?_⟩) ?_ ?_
          rotate_left
          ·intro w'
           go_simp
           with_reducible rfl
          rotate_left
          ·simp only [Act.put, List.setIfInBounds_toArray, List.set_cons_zero, List.set_cons_succ, i64_w, i32_w]
           rfl
          refine pure_ (i := 4) (N := some 88) (v := ?_) (a' := ?_) #[true, false, true, false, true, false, false, false, false, false, false, false, false, false, false, false, false, false] rfl rfl (any_of HT_.out (by kernel_rfl)) (fun _ _ _ h => h) (Or.inl ⟨by rfl, ?_⟩) ?_ ?_
          rotate_left
          ·intro w'
           go_simp
           with_reducible rfl
          rotate_left
          ·simp only [Act.put, List.setIfInBounds_toArray, List.set_cons_zero, List.set_cons_succ, i64_w, i32_w]
           rfl
          refine pure_ (i := 7) (N := some 91) (v := ?_) (a' := ?_) #[true, false, true, false, true, false, false, true, false, false, false, false, false, false, false, false, false, false] rfl rfl (any_of HT_.out (by kernel_rfl)) (fun _ _ _ h => h) (Or.inl ⟨by rfl, ?_⟩) ?_ ?_
          rotate_left
          ·intro w'
           go_simp
           with_reducible rfl
          rotate_left
          ·simp only [Act.put, List.setIfInBounds_toArray, List.set_cons_zero, List.set_cons_succ, i64_w, i32_w]
           rfl
          refine pure_ (i := 9) (N := some 93) (v := ?_) (a' := ?_) #[true, false, true, false, true, false, false, true, false, true, false, false, false, false, false, false, false, false] rfl rfl (any_of HT_.out (by kernel_rfl)) (fun _ _ _ h => h) (Or.inl ⟨by rfl, ?_⟩) ?_ ?_
          rotate_left
          ·intro w'
           go_simp
           with_reducible rfl
          rotate_left
          ·simp only [Act.put, List.setIfInBounds_toArray, List.set_cons_zero, List.set_cons_succ, i64_w, i32_w]
           rfl
          refine pure_ (i := 11) (N := some 95) (v := ?_) (a' := ?_) #[true, false, true, false, true, false, false, true, false, true, false, true, false, false, false, false, false, false] rfl rfl (any_of HT_.out (by kernel_rfl)) (fun _ _ _ h => h) (Or.inl ⟨by rfl, ?_⟩) ?_ ?_
          rotate_left
          ·intro w'
           go_simp
           with_reducible rfl
          rotate_left
          ·simp only [Act.put, List.setIfInBounds_toArray, List.set_cons_zero, List.set_cons_succ, i64_w, i32_w]
           rfl
          refine take_ (i := 1) (N := some 85) (v := ?_) (a' := ?_) #[true, true, true, false, true, false, false, true, false, true, false, true, false, false, false, false, false, false] rfl rfl (take_ofW HT_.out HW_.out (by kernel_rfl)) (fun _ _ _ h => h) (Or.inl ⟨by rfl, ?_⟩) hHeld ?_ ?_
          rotate_left
          ·rintro w' ⟨s0, s1, s2, s3⟩
           go_simp
           with_reducible rfl
          rotate_left
          ·simp only [Act.put, List.setIfInBounds_toArray, List.set_cons_zero, List.set_cons_succ, i64_w, i32_w]
           rfl
          refine take_ (i := 3) (N := some 87) (v := ?_) (a' := ?_) #[true, true, true, true, true, false, false, true, false, true, false, true, false, false, false, false, false, false] rfl rfl (take_ofW HT_.out HW_.out (by kernel_rfl)) (fun _ _ _ h => h) (Or.inl ⟨by rfl, ?_⟩) hHeld ?_ ?_
          rotate_left
          ·rintro w' ⟨s0, s1, s2, s3⟩
           go_simp
           with_reducible rfl
          rotate_left
          ·simp only [Act.put, List.setIfInBounds_toArray, List.set_cons_zero, List.set_cons_succ, i64_w, i32_w]
           rfl
          refine pure_ (i := 5) (N := some 89) (v := ?_) (a' := ?_) #[true, true, true, true, true, true, false, true, false, true, false, true, false, false, false, false, false, false] rfl rfl (any_of HT_.out (by kernel_rfl)) (fun _ _ _ h => h) (Or.inl ⟨by rfl, ?_⟩) ?_ ?_
          rotate_left
          ·intro w'
           go_simp
           with_reducible rfl
          rotate_left
          ·simp only [Act.put, List.setIfInBounds_toArray, List.set_cons_zero, List.set_cons_succ, i64_w, i32_w]
           rfl
          refine pure_ (i := 6) (N := some 90) (v := ?_) (a' := ?_) #[true, true, true, true, true, true, true, true, false, true, false, true, false, false, false, false, false, false] rfl rfl (any_of HT_.out (by kernel_rfl)) (fun _ _ _ h => h) (Or.inl ⟨by rfl, ?_⟩) ?_ ?_
          rotate_left
          ·intro w'
           go_simp
           with_reducible rfl
          rotate_left
          ·simp only [Act.put, List.setIfInBounds_toArray, List.set_cons_zero, List.set_cons_succ, i64_w, i32_w]
           rfl
          refine take_ (i := 8) (N := some 92) (v := ?_) (a' := ?_) #[true, true, true, true, true, true, true, true, true, true, false, true, false, false, false, false, false, false] rfl rfl (take_ofW HT_.out HW_.out (by kernel_rfl)) (fun _ _ _ h => h) (Or.inl ⟨by rfl, ?_⟩) hHeld ?_ ?_
          rotate_left
          ·rintro w' ⟨s0, s1, s2, s3⟩
           go_simp
           with_reducible rfl
          rotate_left
          ·simp only [Act.put, List.setIfInBounds_toArray, List.set_cons_zero, List.set_cons_succ, i64_w, i32_w]
           rfl
          refine pure_ (i := 14) (N := some 98) (v := ?_) (a' := ?_) #[true, true, true, true, true, true, true, true, true, true, false, true, false, false, true, false, false, false] rfl rfl (any_of HT_.out (by kernel_rfl)) (fun _ _ _ h => h) (Or.inl ⟨by rfl, ?_⟩) ?_ ?_
          rotate_left
          ·intro w'
           go_simp
           with_reducible rfl
          rotate_left
          ·simp only [Act.put, List.setIfInBounds_toArray, List.set_cons_zero, List.set_cons_succ, i64_w, i32_w]
           rfl
          try simp only [] at hHeld
          obtain ⟨s0, s1, s2, s3⟩ := hHeld
          apply mergeQ_
          ·intro hQ
           refine readyQ_ [10, 15] (by kernel_rfl) (by simp) (consQ_ (i := 10) (N := some 94) #[true, true, true, true, true, true, true, true, true, true, true, true, false, false, true, false, false, false] rfl rfl (by kernel_rfl) (fun K hK => ?_) (consL_ (i := 15) (N := none) #[true, true, true, true, true, true, true, true, true, true, false, true, false, false, true, true, false, false] rfl rfl (by kernel_rfl) (by decide) (fun K hK => ?_) AllReadyL.nil))
           ·skip
            refine value_ (w1 := ?_) (v := ?_) (by rfl) rfl ?_ ?_
            rotate_left 2
            ·go_simp
             constructor
             ·rfl
             ·rfl
            refine hK.out _ _ (fun h_ => h_) ?_
            clear hK K
            refine norm_ (a' := ?_) ?_ ?_
            rotate_left
            ·show Act.put _ (some 94) _ = _
             simp only [Act.put, List.setIfInBounds_toArray, List.set_cons_zero, List.set_cons_succ, i64_w, i32_w]
             rfl
            refine pure_ (i := 12) (N := some 96) (v := ?_) (a' := ?_) #[true, true, true, true, true, true, true, true, true, true, true, true, true, false, true, false, false, false] rfl rfl (any_of HT_.out (by kernel_rfl)) (fun _ _ _ h => h) (Or.inl ⟨by rfl, ?_⟩) ?_ ?_
            rotate_left
            ·intro w'
             go_simp
             with_reducible rfl
            rotate_left
            ·simp only [Act.put, List.setIfInBounds_toArray, List.set_cons_zero, List.set_cons_succ, i64_w, i32_w]
             rfl
            refine pure_ (i := 13) (N := some 97) (v := ?_) (a' := ?_) #[true, true, true, true, true, true, true, true, true, true, true, true, true, true, true, false, false, false] rfl rfl (any_of HT_.out (by kernel_rfl)) (fun _ _ _ h => h) (Or.inl ⟨by rfl, ?_⟩) ?_ ?_
            rotate_left
            ·intro w'
             go_simp
             with_reducible rfl
            rotate_left
            ·simp only [Act.put, List.setIfInBounds_toArray, List.set_cons_zero, List.set_cons_succ, i64_w, i32_w]
             rfl
            refine readyQ_ [15] (by kernel_rfl) (by simp) (consL_ (i := 15) (N := none) #[true, true, true, true, true, true, true, true, true, true, true, true, true, true, true, true, false, false] rfl rfl (by kernel_rfl) (by decide) (fun K hK => ?_) AllReadyL.nil)
            have hs93 : w92.cell? ⟨gb284, 0, none⟩ = some (.int .i64 x285000_2) := (blk_cell BK284.out 0).trans rfl
            have hfs93 := blk_frozen BK284.out 0
            have hns93_0 := NB276_284.out
            have hns93_1 := NB277_284.out
            have hns93_2 := NB278_284.out
            have hns93_3 := NB283_284.out
            have hns93_5 := NB285_284.out
            have hns93_6 := NB288_284.out
            have hms93_0 := NB284_276.out
            have hms93_1 := NB284_277.out
            have hms93_2 := NB284_278.out
            have hms93_3 := NB284_283.out
            have hms93_5 := NB284_285.out
            have hms93_6 := NB284_288.out
            refine skip_ (w1 := ?_) (by rfl) rfl ?_ ?_
            rotate_left
            ·go_simp
             rfl
            refine hK.out _ _ ?_
            clear hK K
            refine pure_ (i := 16) (N := some 99) (v := ?_) (a' := ?_) #[true, true, true, true, true, true, true, true, true, true, true, true, true, true, true, true, true, false] rfl rfl (any_of HT_.out (by kernel_rfl)) (fun _ _ _ h => h) (Or.inl ⟨by rfl, ?_⟩) ?_ ?_
            rotate_left
            ·intro w'
             go_simp
             with_reducible rfl
            rotate_left
            ·simp only [Act.put, List.setIfInBounds_toArray, List.set_cons_zero, List.set_cons_succ, i64_w, i32_w]
             rfl
            refine readyQ_ [17] (by kernel_rfl) (by simp) (consL_ (i := 17) (N := none) #[true, true, true, true, true, true, true, true, true, true, true, true, true, true, true, true, true, true] rfl rfl (by kernel_rfl) (by decide) (fun K hK => ?_) AllReadyL.nil)
            have hs94 : w92.cell? ⟨gb284, 1, none⟩ = some (.int .i64 x285001_2) := (blk_cell BK284.out 1).trans rfl
            have hfs94 := blk_frozen BK284.out 1
            have hns94_0 := NB276_284.out
            have hns94_1 := NB277_284.out
            have hns94_2 := NB278_284.out
            have hns94_3 := NB283_284.out
            have hns94_5 := NB285_284.out
            have hns94_6 := NB288_284.out
            have hms94_0 := NB284_276.out
            have hms94_1 := NB284_277.out
            have hms94_2 := NB284_278.out
            have hms94_3 := NB284_283.out
            have hms94_5 := NB284_285.out
            have hms94_6 := NB284_288.out
            refine skip_ (w1 := ?_) (by rfl) rfl ?_ ?_
            rotate_left
            ·go_simp
             rfl
            refine hK.out _ _ ?_
            clear hK K
            exact hQ
           ·skip
            have hs93 : w92.cell? ⟨gb284, 0, none⟩ = some (.int .i64 x285000_2) := (blk_cell BK284.out 0).trans rfl
            have hfs93 := blk_frozen BK284.out 0
            have hns93_0 := NB276_284.out
            have hns93_1 := NB277_284.out
            have hns93_2 := NB278_284.out
            have hns93_3 := NB283_284.out
            have hns93_5 := NB285_284.out
            have hns93_6 := NB288_284.out
            have hms93_0 := NB284_276.out
            have hms93_1 := NB284_277.out
            have hms93_2 := NB284_278.out
            have hms93_3 := NB284_283.out
            have hms93_5 := NB284_285.out
            have hms93_6 := NB284_288.out
            refine skip_ (w1 := ?_) (by rfl) rfl ?_ ?_
            rotate_left
            ·go_simp
             rfl
            refine hK.out _ _ ?_
            clear hK K
            refine readyQ_ [10] (by kernel_rfl) (by simp) (consQ_ (i := 10) (N := some 94) #[true, true, true, true, true, true, true, true, true, true, true, true, false, false, true, true, false, false] rfl rfl (by kernel_rfl) (fun K hK => ?_) AllReadyL.nil)
            refine value_ (w1 := ?_) (v := ?_) (by rfl) rfl ?_ ?_
            rotate_left 2
            ·go_simp
             constructor
             ·rfl
             ·rfl
            refine hK.out _ _ (fun h_ => h_) ?_
            clear hK K
            refine norm_ (a' := ?_) ?_ ?_
            rotate_left
            ·show Act.put _ (some 94) _ = _
             simp only [Act.put, List.setIfInBounds_toArray, List.set_cons_zero, List.set_cons_succ, i64_w, i32_w]
             rfl
            refine pure_ (i := 12) (N := some 96) (v := ?_) (a' := ?_) #[true, true, true, true, true, true, true, true, true, true, true, true, true, false, true, true, false, false] rfl rfl (any_of HT_.out (by kernel_rfl)) (fun _ _ _ h => h) (Or.inl ⟨by rfl, ?_⟩) ?_ ?_
            rotate_left
            ·intro w'
             go_simp
             with_reducible rfl
            rotate_left
            ·simp only [Act.put, List.setIfInBounds_toArray, List.set_cons_zero, List.set_cons_succ, i64_w, i32_w]
             rfl
            refine pure_ (i := 13) (N := some 97) (v := ?_) (a' := ?_) #[true, true, true, true, true, true, true, true, true, true, true, true, true, true, true, true, false, false] rfl rfl (any_of HT_.out (by kernel_rfl)) (fun _ _ _ h => h) (Or.inl ⟨by rfl, ?_⟩) ?_ ?_
            rotate_left
            ·intro w'
             go_simp
             with_reducible rfl
            rotate_left
            ·simp only [Act.put, List.setIfInBounds_toArray, List.set_cons_zero, List.set_cons_succ, i64_w, i32_w]
             rfl
            refine pure_ (i := 16) (N := some 99) (v := ?_) (a' := ?_) #[true, true, true, true, true, true, true, true, true, true, true, true, true, true, true, true, true, false] rfl rfl (any_of HT_.out (by kernel_rfl)) (fun _ _ _ h => h) (Or.inl ⟨by rfl, ?_⟩) ?_ ?_
            rotate_left
            ·intro w'
             go_simp
             with_reducible rfl
            rotate_left
            ·simp only [Act.put, List.setIfInBounds_toArray, List.set_cons_zero, List.set_cons_succ, i64_w, i32_w]
             rfl
            refine readyQ_ [17] (by kernel_rfl) (by simp) (consL_ (i := 17) (N := none) #[true, true, true, true, true, true, true, true, true, true, true, true, true, true, true, true, true, true] rfl rfl (by kernel_rfl) (by decide) (fun K hK => ?_) AllReadyL.nil)
            have hs94 : w92.cell? ⟨gb284, 1, none⟩ = some (.int .i64 x285001_2) := (blk_cell BK284.out 1).trans rfl
            have hfs94 := blk_frozen BK284.out 1
            have hns94_0 := NB276_284.out
            have hns94_1 := NB277_284.out
            have hns94_2 := NB278_284.out
            have hns94_3 := NB283_284.out
            have hns94_5 := NB285_284.out
            have hns94_6 := NB288_284.out
            have hms94_0 := NB284_276.out
            have hms94_1 := NB284_277.out
            have hms94_2 := NB284_278.out
            have hms94_3 := NB284_283.out
            have hms94_5 := NB284_285.out
            have hms94_6 := NB284_288.out
            refine skip_ (w1 := ?_) (by rfl) rfl ?_ ?_
            rotate_left
            ·go_simp
             rfl
            refine hK.out _ _ ?_
            clear hK K
            exact hQ
          refine done_ (done_of HT_.out (by kernel_rfl)) ?_
          try go_wp2
          go_roundg k2
          case measure => have := HJ14.out; have := HK2.out; omega
          case rel => exact ⟨(wrap64 (x68_2 + 1)), (ji68), (ji69), (by first | rfl | (simp; done) | (simp [*]; done)), H', ⟨by have := HJ14.out; have := HK2.out; omega⟩, ⟨kk_ BK276⟩, ⟨kk_ BK277⟩, ⟨kk_ BK278⟩, ⟨kk_ BK283⟩, ⟨by (with_reducible repeat (first | refine blk_drewN ?_ _ | refine blk_drew ?_ | refine blk_alloc ?_ _)); refine blk_put (cs := #[.int .i64 ji68, .int .i64 x285001_2]) ?_ 1 _ rfl; (with_reducible repeat (first | refine blk_drewN ?_ _ | refine blk_drew ?_ | refine blk_alloc ?_ _)); refine blk_put (cs := #[.int .i64 x285000_2, .int .i64 x285001_2]) ?_ 0 _ rfl; (with_reducible repeat (first | refine blk_drewN ?_ _ | refine blk_drew ?_ | refine blk_alloc ?_ _)); exact BK284.out⟩, (be_ HB)⟩
         ·rw [if_neg c64] at H
          exact absurd H (by simp)
        ·rw [if_neg c63] at H
         have c63b0 : decide (x68_2 < 3) = false := decide_eq_false c63
         clear c63
         by_cases c95 : (wrap64 (x285001_2 - x285000_2)) > 400000000
         ·rw [if_pos c95] at H
          have c95b0 : decide (400000000 < (wrap64 (x285001_2 - x285000_2))) = true := decide_eq_true c95
          clear c95
          simp only [Option.some.injEq, Prod.mk.injEq] at H
          obtain ⟨rfl, rfl, rfl⟩ := H
          have hnb96 := NB284_276.out
          have hnc96 := NB276_284.out
          have hnb97 := NB284_277.out
          have hnc97 := NB277_284.out
          have hnb98 := NB284_278.out
          have hnc98 := NB278_284.out
          have hnb99 := NB284_283.out
          have hnc99 := NB283_284.out
          have hcz100_0 : wr.cell? ⟨gb284, 0, none⟩ = some (.int .i64 x285000_2) := (blk_cell BK284.out 0).trans rfl
          have hcz100_1 : wr.cell? ⟨gb284, 1, none⟩ = some (.int .i64 x285001_2) := (blk_cell BK284.out 1).trans rfl
          have hfz100_0 := blk_frozen BK284.out 0
          have hfz100_1 := blk_frozen BK284.out 1
          have hnb101 := NB278_276.out
          have hnc101 := NB276_278.out
          have hnb102 := NB278_277.out
          have hnc102 := NB277_278.out
          have hnb103 := NB278_283.out
          have hnc103 := NB283_278.out
          have hcz104_0 : wr.cell? ⟨gb278, 0, none⟩ = some (.int .i64 0) := (blk_cell BK278.out 0).trans rfl
          have hcz104_1 : wr.cell? ⟨gb278, 1, none⟩ = some (.int .i64 0) := (blk_cell BK278.out 1).trans rfl
          have hfz104_0 := blk_frozen BK278.out 0
          have hfz104_1 := blk_frozen BK278.out 1
          go_wp2
          refine bodyPost_ret (results_ct rfl _ _ gb278 24 #[.int .i64 0, .int .i64 0] (0, 0) _ rfl (by (with_reducible repeat (first | refine blk_drewN ?_ _ | refine blk_drew ?_ | refine blk_alloc ?_ _)); refine blk_put (cs := #[.int .i64 0, .int .i64 0]) ?_ 1 _ rfl; (with_reducible repeat (first | refine blk_drewN ?_ _ | refine blk_drew ?_ | refine blk_alloc ?_ _)); refine blk_put (cs := #[.int .i64 0, .int .i64 0]) ?_ 0 _ rfl; (with_reducible repeat (first | refine blk_drewN ?_ _ | refine blk_drew ?_ | refine blk_alloc ?_ _)); exact BK278.out) Try.underlying24 rfl (by kernel_rfl)) rfl ?_
          exact ⟨by first | rfl | (simp [errW_none, errW_some] <;> rfl) | (simp [*, errW_none, errW_some] <;> rfl), (be_ HB).out⟩
         ·rw [if_neg c95] at H
          have c95b0 : decide (400000000 < (wrap64 (x285001_2 - x285000_2))) = false := decide_eq_false c95
          clear c95
          replace H := Option.bind_eq_some_iff.mp H
          obtain ⟨t290, A1050, H⟩ := H
          replace H : (some (wrap64 (x285000_2 - (wrap64 (t290 * 1000000000))), wrap64 (x285001_2 - (wrap64 (t290 * 1000000000))), 0)) = some (r1, r2, r3) := H
          have A105 := Aside0.mk A1050
          clear A1050
          simp only [Option.some.injEq, Prod.mk.injEq] at H
          obtain ⟨rfl, rfl, rfl⟩ := H
          have hnb106 := NB284_276.out
          have hnc106 := NB276_284.out
          have hnb107 := NB284_277.out
          have hnc107 := NB277_284.out
          have hnb108 := NB284_278.out
          have hnc108 := NB278_284.out
          have hnb109 := NB284_283.out
          have hnc109 := NB283_284.out
          have hcz110_0 : wr.cell? ⟨gb284, 0, none⟩ = some (.int .i64 x285000_2) := (blk_cell BK284.out 0).trans rfl
          have hcz110_1 : wr.cell? ⟨gb284, 1, none⟩ = some (.int .i64 x285001_2) := (blk_cell BK284.out 1).trans rfl
          have hfz110_0 := blk_frozen BK284.out 0
          have hfz110_1 := blk_frozen BK284.out 1
          go_wp2_with (first | ((with_reducible refine gate_callee (f := 96) rfl ?_); refine goesL_ (some 110) rfl rfl Try.func96 (by kernel_rfl) rfl #[.int .i64 x285000_2, .int .i64 1000000000] rfl (by (try simp only [List.map_toArray, List.map_cons, List.map_nil]); first | done | rfl | (simp only [List.length_drop, List.length_take]; rfl)) ?_; (with_reducible refine (interval_Floor.calls x285000_2 1000000000 t290 _ A105.out).mono ?_); rintro e w' ⟨rfl, ⟨nd, rfl⟩⟩; refine ⟨_, rfl, ?_⟩; (try (rw [drewN_self wr]; generalize hq_ : World.drewN wr _ = wr; have n0_ : Aside0 (wr.heap[gb276]? = some (.cells #[.int .i64 a0_0, .int .i64 a0_1] 24 (0, 0))) := ⟨by rw [← hq_]; exact (kk_ BK276)⟩; have n1_ : Aside0 (wr.heap[gb277]? = some (.cells #[.int .i64 a1_0, .int .i64 a1_1] 24 (0, 0))) := ⟨by rw [← hq_]; exact (kk_ BK277)⟩; have n2_ : Aside0 (wr.heap[gb278]? = some (.cells #[.int .i64 0, .int .i64 0] 24 (0, 0))) := ⟨by rw [← hq_]; exact (kk_ BK278)⟩; have n3_ : Aside0 (wr.heap[gb283]? = some (.cells #[.int .i64 t281, .int .i64 t282] 24 (0, 0))) := ⟨by rw [← hq_]; exact (kk_ BK283)⟩; have n4_ : Aside0 (wr.heap[gb284]? = some (.cells #[.int .i64 x285000_2, .int .i64 x285001_2] 24 (0, 0))) := ⟨by rw [← hq_]; exact (kk_ BK284)⟩; have n5_ : Aside0 (Below w.heap.size w wr) := ⟨by rw [← hq_]; exact (be_ HB).out⟩; clear BK276 BK277 BK278 BK283 BK284 HB hq_; have BK276 := n0_; have BK277 := n1_; have BK278 := n2_; have BK283 := n3_; have BK284 := n4_; have HB := n5_; clear n0_ n1_ n2_ n3_ n4_ n5_; have hcy276_0 : wr.cell? ⟨gb276, 0, none⟩ = some (.int .i64 a0_0) := (blk_cell BK276.out 0).trans rfl; have hfy276_0 := blk_frozen BK276.out 0; have hcy276_1 : wr.cell? ⟨gb276, 1, none⟩ = some (.int .i64 a0_1) := (blk_cell BK276.out 1).trans rfl; have hfy276_1 := blk_frozen BK276.out 1; have hcy277_0 : wr.cell? ⟨gb277, 0, none⟩ = some (.int .i64 a1_0) := (blk_cell BK277.out 0).trans rfl; have hfy277_0 := blk_frozen BK277.out 0; have hcy277_1 : wr.cell? ⟨gb277, 1, none⟩ = some (.int .i64 a1_1) := (blk_cell BK277.out 1).trans rfl; have hfy277_1 := blk_frozen BK277.out 1; have hcy278_0 : wr.cell? ⟨gb278, 0, none⟩ = some (.int .i64 0) := (blk_cell BK278.out 0).trans rfl; have hfy278_0 := blk_frozen BK278.out 0; have hcy278_1 : wr.cell? ⟨gb278, 1, none⟩ = some (.int .i64 0) := (blk_cell BK278.out 1).trans rfl; have hfy278_1 := blk_frozen BK278.out 1; have hcy283_0 : wr.cell? ⟨gb283, 0, none⟩ = some (.int .i64 t281) := (blk_cell BK283.out 0).trans rfl; have hfy283_0 := blk_frozen BK283.out 0; have hcy283_1 : wr.cell? ⟨gb283, 1, none⟩ = some (.int .i64 t282) := (blk_cell BK283.out 1).trans rfl; have hfy283_1 := blk_frozen BK283.out 1; have hcy284_0 : wr.cell? ⟨gb284, 0, none⟩ = some (.int .i64 x285000_2) := (blk_cell BK284.out 0).trans rfl; have hfy284_0 := blk_frozen BK284.out 0; have hcy284_1 : wr.cell? ⟨gb284, 1, none⟩ = some (.int .i64 x285001_2) := (blk_cell BK284.out 1).trans rfl; have hfy284_1 := blk_frozen BK284.out 1)); have hnb111 := NB278_276.out; have hnc111 := NB276_278.out; have hnb112 := NB278_277.out; have hnc112 := NB277_278.out; have hnb113 := NB278_283.out; have hnc113 := NB283_278.out; have hcz114_0 : wr.cell? ⟨gb278, 0, none⟩ = some (.int .i64 0) := (blk_cell BK278.out 0).trans rfl; have hcz114_1 : wr.cell? ⟨gb278, 1, none⟩ = some (.int .i64 0) := (blk_cell BK278.out 1).trans rfl; have hfz114_0 := blk_frozen BK278.out 0; have hfz114_1 := blk_frozen BK278.out 1))
          refine bodyPost_ret (results_ct rfl _ _ gb278 24 #[.int .i64 (wrap64 (x285000_2 - (wrap64 (t290 * 1000000000)))), .int .i64 (wrap64 (x285001_2 - (wrap64 (t290 * 1000000000))))] (0, 0) _ rfl (by (with_reducible repeat (first | refine blk_drewN ?_ _ | refine blk_drew ?_ | refine blk_alloc ?_ _)); refine blk_put (cs := #[.int .i64 (wrap64 (x285000_2 - (wrap64 (t290 * 1000000000)))), .int .i64 0]) ?_ 1 _ rfl; (with_reducible repeat (first | refine blk_drewN ?_ _ | refine blk_drew ?_ | refine blk_alloc ?_ _)); refine blk_put (cs := #[.int .i64 0, .int .i64 0]) ?_ 0 _ rfl; (with_reducible repeat (first | refine blk_drewN ?_ _ | refine blk_drew ?_ | refine blk_alloc ?_ _)); exact BK278.out) Try.underlying24 rfl (by kernel_rfl)) rfl ?_
          exact ⟨by first | rfl | (simp [errW_none, errW_some] <;> rfl) | (simp [*, errW_none, errW_some] <;> rfl), (be_ HB).out⟩
  ·rw [if_neg c14] at H
   have c14b0 : (t280 == 0) = false := beq_eq_false_iff_ne.mpr c14
   have c14b1 : (t280 != 0) = true := bne_iff_ne.mpr c14
   simp only [Option.some.injEq, Prod.mk.injEq] at H
   obtain ⟨rfl, rfl, rfl⟩ := H
   have hnb115 := NB277_276.out
   have hnc115 := NB276_277.out
   have hnb116 := NB277_278.out
   have hnc116 := NB278_277.out
   have hcz117_0 : w11.cell? ⟨gb277, 0, none⟩ = some (.int .i64 a1_0) := (blk_cell BK277.out 0).trans rfl
   have hcz117_1 : w11.cell? ⟨gb277, 1, none⟩ = some (.int .i64 a1_1) := (blk_cell BK277.out 1).trans rfl
   have hfz117_0 := blk_frozen BK277.out 0
   have hfz117_1 := blk_frozen BK277.out 1
   go_wp2_with (first | ((with_reducible refine gate_callee (f := 52) rfl ?_); refine goesL_ (some 22) rfl rfl Try.func52 (by kernel_rfl) rfl #[.agg #[.int .i64 a1_0, .int .i64 a1_1]] rfl (by (try simp only [List.map_toArray, List.map_cons, List.map_nil]); first | done | rfl | (simp only [List.length_drop, List.length_take]; rfl)) ?_; (with_reducible refine (interval_Check.calls k a1_0 a1_1 t280 _ A13.out).mono ?_); rintro e w118 ⟨rfl, hb⟩; refine ⟨_, rfl, ?_⟩; replace BK276 := kb_ BK276 hb; replace BK277 := kb_ BK277 hb; replace BK278 := kb_ BK278 hb; replace HB := bs_ HB hb; (try clear hb); (try clear hb2); (try clear hk); (try clear hi); have hnb119 := NB278_276.out; have hnc119 := NB276_278.out; have hcz120_0 : w118.cell? ⟨gb278, 0, none⟩ = some (.int .i64 0) := (blk_cell BK278.out 0).trans rfl; have hcz120_1 : w118.cell? ⟨gb278, 1, none⟩ = some (.int .i64 0) := (blk_cell BK278.out 1).trans rfl; have hfz120_0 := blk_frozen BK278.out 0; have hfz120_1 := blk_frozen BK278.out 1))
   refine bodyPost_ret (results_ct rfl _ _ gb278 24 #[.int .i64 0, .int .i64 0] (0, 0) _ rfl (by (with_reducible repeat (first | refine blk_drewN ?_ _ | refine blk_drew ?_ | refine blk_alloc ?_ _)); refine blk_put (cs := #[.int .i64 0, .int .i64 0]) ?_ 1 _ rfl; (with_reducible repeat (first | refine blk_drewN ?_ _ | refine blk_drew ?_ | refine blk_alloc ?_ _)); refine blk_put (cs := #[.int .i64 0, .int .i64 0]) ?_ 0 _ rfl; (with_reducible repeat (first | refine blk_drewN ?_ _ | refine blk_drew ?_ | refine blk_alloc ?_ _)); exact BK278.out) Try.underlying24 rfl (by kernel_rfl)) rfl ?_
   exact ⟨by first | rfl | (simp [errW_none, errW_some] <;> rfl) | (simp [*, errW_none, errW_some] <;> rfl), (be_ HB).out⟩
 ·rw [if_neg c12] at H
  have c12b0 : (t279 == 0) = false := beq_eq_false_iff_ne.mpr c12
  have c12b1 : (t279 != 0) = true := bne_iff_ne.mpr c12
  (first | rw [c12b0] | (simp only [i64_w, i32_w]; rw [c12b0]) | skip)
  simp only [Option.some.injEq, Prod.mk.injEq] at H
  obtain ⟨rfl, rfl, rfl⟩ := H
  have hnb121 := NB278_276.out
  have hnc121 := NB276_278.out
  have hnb122 := NB278_277.out
  have hnc122 := NB277_278.out
  have hcz123_0 : w11.cell? ⟨gb278, 0, none⟩ = some (.int .i64 0) := (blk_cell BK278.out 0).trans rfl
  have hcz123_1 : w11.cell? ⟨gb278, 1, none⟩ = some (.int .i64 0) := (blk_cell BK278.out 1).trans rfl
  have hfz123_0 := blk_frozen BK278.out 0
  have hfz123_1 := blk_frozen BK278.out 1
  go_wp2
  refine bodyPost_ret (results_ct rfl _ _ gb278 24 #[.int .i64 0, .int .i64 0] (0, 0) _ rfl (by (with_reducible repeat (first | refine blk_drewN ?_ _ | refine blk_drew ?_ | refine blk_alloc ?_ _)); refine blk_put (cs := #[.int .i64 0, .int .i64 0]) ?_ 1 _ rfl; (with_reducible repeat (first | refine blk_drewN ?_ _ | refine blk_drew ?_ | refine blk_alloc ?_ _)); refine blk_put (cs := #[.int .i64 0, .int .i64 0]) ?_ 0 _ rfl; (with_reducible repeat (first | refine blk_drewN ?_ _ | refine blk_drew ?_ | refine blk_alloc ?_ _)); exact BK278.out) Try.underlying24 rfl (by kernel_rfl)) rfl ?_
  exact ⟨by first | rfl | (simp [errW_none, errW_some] <;> rfl) | (simp [*, errW_none, errW_some] <;> rfl), (be_ HB).out⟩
end Go.Proofs.Ytbnchibmegclmaa.PAll
