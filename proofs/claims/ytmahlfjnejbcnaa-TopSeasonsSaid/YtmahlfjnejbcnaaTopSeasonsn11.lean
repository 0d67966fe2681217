/- Written by a program of this session: what one law needs. -/
import Derived.Test.YtmahlfjnejbcnaaTopSeasonsn9
import Derived.Test.YtmahlfjnejbcnaaTopSeasonsn10
set_option maxHeartbeats 8000000
set_option maxRecDepth 100000
set_option linter.unusedSimpArgs false
set_option linter.unusedVariables false
section
namespace Go.Proofs.Ytmahlfjnejbcnaa.PAll
open Go.RowKit YtmahlfjnejbcnaaW.PrintWords YtmahlfjnejbcnaaW.PrintLast YtmahlfjnejbcnaaW.PrintMore More2 Sq
attribute [local go_sem] max2_int min2_int max_two min_two max_three min_three max_four min_four tdiv2e18_ tdiv1e18_ cellSS_  -- for this text's walks alone
def series_After.j0 : Nat → Int → Int → Bool → Option (Int)
 | 0, _, _, _ => none
 | k + 1, x5, x7, x25 => if x25 = true then (some 1) else (if x7 < 0 then (if x5 > (-500000000) then (some (-1)) else (some 0)) else (some 0))
def series_After.f (k : Nat) (a0_0 : Int) (a0_1 : Int) (a1 : Int) : Option (Int) := (interval_Floor.f (wrap64 ((wrap64 (a0_0 - a1)) + 500000000)) 1000000000).bind fun t215 => (if (wrap64 ((wrap64 (a0_0 - a1)) - (wrap64 (t215 * 1000000000)))) > 0 then (series_After.j0 k (wrap64 ((wrap64 (a0_0 - a1)) - (wrap64 (t215 * 1000000000)))) (wrap64 ((wrap64 (a0_1 - a1)) - (wrap64 (t215 * 1000000000)))) (decide ((wrap64 ((wrap64 (a0_1 - a1)) - (wrap64 (t215 * 1000000000)))) < 500000000))) else (series_After.j0 k (wrap64 ((wrap64 (a0_0 - a1)) - (wrap64 (t215 * 1000000000)))) (wrap64 ((wrap64 (a0_1 - a1)) - (wrap64 (t215 * 1000000000)))) false))
theorem series_After.mono_l : ∀ k, (∀ y0 y1 y2, LeO (series_After.j0 k y0 y1 y2) (series_After.j0 (k + 1) y0 y1 y2))
 | 0 => fun _ _ _ r h => by simp [series_After.j0] at h
 | k + 1 => by
  have ih0 := series_After.mono_l k
  ·intro y0 y1 y2
   unfold series_After.j0
   repeat' first
   | (with_reducible exact ih0 _ _ _)
   | (with_reducible exact LeO.refl _)
   | (with_reducible exact LeO.none _)
   | (with_reducible refine LeO.ite ?_ ?_)
   | (with_reducible refine LeO.bind ?_ (fun _ => ?_))
   | exact ih0 _ _ _
   | exact LeO.none _
   | refine LeO.ite ?_ ?_
   | refine LeO.bind ?_ (fun _ => ?_)
theorem series_After.mono : ∀ a0 a1 a2 k, LeO (series_After.f k a0 a1 a2) (series_After.f (k + 1) a0 a1 a2) := by
 intro a0 a1 a2 k
 have ih0 := series_After.mono_l k
 unfold series_After.f
 repeat' first
   | (with_reducible exact ih0 _ _ _)
   | (with_reducible exact LeO.refl _)
   | (with_reducible exact LeO.none _)
   | (with_reducible refine LeO.ite ?_ ?_)
   | (with_reducible refine LeO.bind ?_ (fun _ => ?_))
   | exact ih0 _ _ _
   | exact LeO.none _
   | refine LeO.ite ?_ ?_
   | refine LeO.bind ?_ (fun _ => ?_)
theorem series_After.calls (k : Nat) (a0_0 : Int) (a0_1 : Int) (a1 : Int) (r : Int) (w : World) (h : series_After.f k a0_0 a0_1 a1 = some r) :
  Calls Try.prog 38 #[.agg #[.int .i64 a0_0, .int .i64 a0_1], .int .i64 a1] w fun e w' => e = .returned (.int .i64 r) ∧ Below w.heap.size w w' := by
 have hu24 := Try.underlying24
 have HB := Aside0.mk (Below.refl w.heap.size w)
 have H : ((interval_Floor.f (wrap64 ((wrap64 (a0_0 - a1)) + 500000000)) 1000000000).bind fun t215 => (if (wrap64 ((wrap64 (a0_0 - a1)) - (wrap64 (t215 * 1000000000)))) > 0 then (series_After.j0 k (wrap64 ((wrap64 (a0_0 - a1)) - (wrap64 (t215 * 1000000000)))) (wrap64 ((wrap64 (a0_1 - a1)) - (wrap64 (t215 * 1000000000)))) (decide ((wrap64 ((wrap64 (a0_1 - a1)) - (wrap64 (t215 * 1000000000)))) < 500000000))) else (series_After.j0 k (wrap64 ((wrap64 (a0_0 - a1)) - (wrap64 (t215 * 1000000000)))) (wrap64 ((wrap64 (a0_1 - a1)) - (wrap64 (t215 * 1000000000)))) false))) = some r := h
 clear h
 replace H := Option.bind_eq_some_iff.mp H
 obtain ⟨t215, A30, H⟩ := H
 replace H : (if (wrap64 ((wrap64 (a0_0 - a1)) - (wrap64 (t215 * 1000000000)))) > 0 then (series_After.j0 k (wrap64 ((wrap64 (a0_0 - a1)) - (wrap64 (t215 * 1000000000)))) (wrap64 ((wrap64 (a0_1 - a1)) - (wrap64 (t215 * 1000000000)))) (decide ((wrap64 ((wrap64 (a0_1 - a1)) - (wrap64 (t215 * 1000000000)))) < 500000000))) else (series_After.j0 k (wrap64 ((wrap64 (a0_0 - a1)) - (wrap64 (t215 * 1000000000)))) (wrap64 ((wrap64 (a0_1 - a1)) - (wrap64 (t215 * 1000000000)))) false)) = some r := H
 have A3 := Aside0.mk A30
 clear A30
 have HC4 := Aside0.mk H
 clear H
 go_enter Try.func38, Try.ntmps38
 go_upto_region 4 with (first | ((with_reducible refine gate_dst (N := 2) rfl ?_); refine box_event ?hg (N := 2) ?hd (cs := #[.int .i64 a0_0, .int .i64 a0_1]) (t := 24) ?hr ?_; (case hd => rfl); (case hg => rfl); (case hr => first | (go_simp; done) | (go_simp; rfl)); intro gb214 hg w5 hbox hb; have BK214 := Aside0.mk (hbox); have GW214 := ge_ hg HB; have GE214 := ge_ hg HB; replace HB := bs_ HB hb; clear hb hbox hg; have hcz6_0 : w5.cell? ⟨gb214, 0, none⟩ = some (.int .i64 a0_0) := (blk_cell BK214.out 0).trans rfl; have hcz6_1 : w5.cell? ⟨gb214, 1, none⟩ = some (.int .i64 a0_1) := (blk_cell BK214.out 1).trans rfl; have hfz6_0 := blk_frozen BK214.out 0; have hfz6_1 := blk_frozen BK214.out 1) | (go_at_call 57; (with_reducible refine (interval_Floor.calls (wrap64 ((wrap64 (a0_0 - a1)) + 500000000)) 1000000000 t215 _ A3.out).mono ?_); rintro e w' ⟨rfl, ⟨nd, rfl⟩⟩; (try first | exact ⟨rfl, _, World.drewN_drewN _ _ _⟩ | exact ⟨rfl, _, Eq.trans (World.drewN_drewN _ _ _) (congrArg (World.drewN _) (Nat.add_assoc _ _ _))⟩)))
 repeat (go_quiet (first | ((with_reducible refine gate_dst (N := 2) rfl ?_); refine box_event ?hg (N := 2) ?hd (cs := #[.int .i64 a0_0, .int .i64 a0_1]) (t := 24) ?hr ?_; (case hd => rfl); (case hg => rfl); (case hr => first | (go_simp; done) | (go_simp; rfl)); intro gb214 hg w5 hbox hb; have BK214 := Aside0.mk (hbox); have GW214 := ge_ hg HB; have GE214 := ge_ hg HB; replace HB := bs_ HB hb; clear hb hbox hg; have hcz6_0 : w5.cell? ⟨gb214, 0, none⟩ = some (.int .i64 a0_0) := (blk_cell BK214.out 0).trans rfl; have hcz6_1 : w5.cell? ⟨gb214, 1, none⟩ = some (.int .i64 a0_1) := (blk_cell BK214.out 1).trans rfl; have hfz6_0 := blk_frozen BK214.out 0; have hfz6_1 := blk_frozen BK214.out 1) | (go_at_call 57; (with_reducible refine (interval_Floor.calls (wrap64 ((wrap64 (a0_0 - a1)) + 500000000)) 1000000000 t215 _ A3.out).mono ?_); rintro e w' ⟨rfl, ⟨nd, rfl⟩⟩; (try first | exact ⟨rfl, _, World.drewN_drewN _ _ _⟩ | exact ⟨rfl, _, Eq.trans (World.drewN_drewN _ _ _) (congrArg (World.drewN _) (Nat.add_assoc _ _ _))⟩))); go_upto_region 4 with (first | ((with_reducible refine gate_dst (N := 2) rfl ?_); refine box_event ?hg (N := 2) ?hd (cs := #[.int .i64 a0_0, .int .i64 a0_1]) (t := 24) ?hr ?_; (case hd => rfl); (case hg => rfl); (case hr => first | (go_simp; done) | (go_simp; rfl)); intro gb214 hg w5 hbox hb; have BK214 := Aside0.mk (hbox); have GW214 := ge_ hg HB; have GE214 := ge_ hg HB; replace HB := bs_ HB hb; clear hb hbox hg; have hcz6_0 : w5.cell? ⟨gb214, 0, none⟩ = some (.int .i64 a0_0) := (blk_cell BK214.out 0).trans rfl; have hcz6_1 : w5.cell? ⟨gb214, 1, none⟩ = some (.int .i64 a0_1) := (blk_cell BK214.out 1).trans rfl; have hfz6_0 := blk_frozen BK214.out 0; have hfz6_1 := blk_frozen BK214.out 1) | (go_at_call 57; (with_reducible refine (interval_Floor.calls (wrap64 ((wrap64 (a0_0 - a1)) + 500000000)) 1000000000 t215 _ A3.out).mono ?_); rintro e w' ⟨rfl, ⟨nd, rfl⟩⟩; (try first | exact ⟨rfl, _, World.drewN_drewN _ _ _⟩ | exact ⟨rfl, _, Eq.trans (World.drewN_drewN _ _ _) (congrArg (World.drewN _) (Nat.add_assoc _ _ _))⟩))))
 (try simp only [Act.put, List.setIfInBounds_toArray, List.set_cons_zero, List.set_cons_succ])
 go_cut [25] (fun v25 wc => ∃ (kq : Nat) (x25_3 : Bool), v25 = .bool x25_3 ∧ Aside0 (series_After.j0 kq (wrap64 ((wrap64 (a0_0 - a1)) - (wrap64 (t215 * 1000000000)))) (wrap64 ((wrap64 (a0_1 - a1)) - (wrap64 (t215 * 1000000000)))) x25_3 = some r) ∧ Aside0 (kq ≤ k) ∧ Aside0 (wc.heap[gb214]? = some (.cells #[.int .i64 a0_0, .int .i64 a0_1] 24 (0, 0))) ∧ Aside0 (Below w.heap.size w wc))
 case first =>
  have H := HC4.out
  clear HC4
  by_cases c7 : (wrap64 ((wrap64 (a0_0 - a1)) - (wrap64 (t215 * 1000000000)))) > 0
  ·rw [if_pos c7] at H
   have c7b0 : decide (0 < (wrap64 ((wrap64 (a0_0 - a1)) - (wrap64 (t215 * 1000000000))))) = true := decide_eq_true c7
   clear c7
   (first | rw [c7b0] | (simp only [i64_w, i32_w]; rw [c7b0]) | skip)
   have H' := Aside0.mk H
   clear H
   go_wp2
   repeat (go_quiet (fail); try go_wp2)
   go_meet
   case rel => exact ⟨_, (decide ((wrap64 ((wrap64 (a0_1 - a1)) - (wrap64 (t215 * 1000000000)))) < 500000000)), (by first | rfl | (simp; done) | (simp [*]; done)), H', ⟨by first | omega | exact Nat.le_refl _⟩, ⟨kk_ BK214⟩, (be_ HB)⟩
  ·rw [if_neg c7] at H
   have c7b0 : decide (0 < (wrap64 ((wrap64 (a0_0 - a1)) - (wrap64 (t215 * 1000000000))))) = false := decide_eq_false c7
   clear c7
   (first | rw [c7b0] | (simp only [i64_w, i32_w]; rw [c7b0]) | skip)
   have H' := Aside0.mk H
   clear H
   go_wp2
   repeat (go_quiet (fail); try go_wp2)
   go_meet
   case rel => exact ⟨_, (false), (by first | rfl | (simp; done) | (simp [*]; done)), H', ⟨by first | omega | exact Nat.le_refl _⟩, ⟨kk_ BK214⟩, (be_ HB)⟩
 case rest =>
  clear HC4
  try clear p2
  try clear c3
  try clear p6
  try clear c7
  try clear c7b0
  try clear hcz6_0
  try clear hcz6_1
  try clear hfz6_0
  try clear hfz6_1
  obtain ⟨kq, x25_3, rfl, HA, HJ3, BK214, HB⟩ := hcut
  cases kq with
  | zero => exact absurd HA.out (by simp [series_After.j0])
  | succ kj3 =>
   have H := HA.out
   clear HA
   simp only [series_After.j0] at H
   by_cases c8 : x25_3 = true
   ·subst c8
    have H1 : (some 1) = some r := by rw [if_pos rfl] at H; exact H
    clear H
    have H := H1
    clear H1
    obtain rfl := Option.some.inj H
    simp only [Option.some.injEq, Prod.mk.injEq] at H
    obtain ⟨rfl⟩ := H
    go_wp2
    repeat (go_quiet (fail); try go_wp2)
    go_ret
    exact ⟨by first | rfl | (simp [errW_none, errW_some] <;> rfl) | (simp [*, errW_none, errW_some] <;> rfl), (be_ HB).out⟩
   ·replace c8 := Bool.eq_false_iff.mpr c8
    subst c8
    have H1 : (if (wrap64 ((wrap64 (a0_1 - a1)) - (wrap64 (t215 * 1000000000)))) < 0 then (if (wrap64 ((wrap64 (a0_0 - a1)) - (wrap64 (t215 * 1000000000)))) > (-500000000) then (some (-1)) else (some 0)) else (some 0)) = some r := by rw [if_neg (show ¬ (false = true) by decide)] at H; exact H
    clear H
    have H := H1
    clear H1
    by_cases c9 : (wrap64 ((wrap64 (a0_1 - a1)) - (wrap64 (t215 * 1000000000)))) < 0
    ·rw [if_pos c9] at H
     have c9b0 : decide ((wrap64 ((wrap64 (a0_1 - a1)) - (wrap64 (t215 * 1000000000)))) < 0) = true := decide_eq_true c9
     clear c9
     by_cases c10 : (wrap64 ((wrap64 (a0_0 - a1)) - (wrap64 (t215 * 1000000000)))) > (-500000000)
     ·rw [if_pos c10] at H
      have c10b0 : decide ((-500000000) < (wrap64 ((wrap64 (a0_0 - a1)) - (wrap64 (t215 * 1000000000))))) = true := decide_eq_true c10
      clear c10
      obtain rfl := Option.some.inj H
      simp only [Option.some.injEq, Prod.mk.injEq] at H
      obtain ⟨rfl⟩ := H
      go_wp2
      repeat (go_quiet (fail); try go_wp2)
      go_ret
      exact ⟨by first | rfl | (simp [errW_none, errW_some] <;> rfl) | (simp [*, errW_none, errW_some] <;> rfl), (be_ HB).out⟩
     ·rw [if_neg c10] at H
      have c10b0 : decide ((-500000000) < (wrap64 ((wrap64 (a0_0 - a1)) - (wrap64 (t215 * 1000000000))))) = false := decide_eq_false c10
      clear c10
      obtain rfl := Option.some.inj H
      simp only [Option.some.injEq, Prod.mk.injEq] at H
      obtain ⟨rfl⟩ := H
      go_wp2
      repeat (go_quiet (fail); try go_wp2)
      go_ret
      exact ⟨by first | rfl | (simp [errW_none, errW_some] <;> rfl) | (simp [*, errW_none, errW_some] <;> rfl), (be_ HB).out⟩
    ·rw [if_neg c9] at H
     have c9b0 : decide ((wrap64 ((wrap64 (a0_1 - a1)) - (wrap64 (t215 * 1000000000)))) < 0) = false := decide_eq_false c9
     clear c9
     obtain rfl := Option.some.inj H
     simp only [Option.some.injEq, Prod.mk.injEq] at H
     obtain ⟨rfl⟩ := H
     go_wp2
     repeat (go_quiet (fail); try go_wp2)
     go_ret
     exact ⟨by first | rfl | (simp [errW_none, errW_some] <;> rfl) | (simp [*, errW_none, errW_some] <;> rfl), (be_ HB).out⟩
end Go.Proofs.Ytmahlfjnejbcnaa.PAll
end
section
namespace Go.Proofs.Ytmahlfjnejbcnaa.PAll
open Go.RowKit YtmahlfjnejbcnaaW.PrintWords YtmahlfjnejbcnaaW.PrintLast YtmahlfjnejbcnaaW.PrintMore More2 Sq
attribute [local go_sem] max2_int min2_int max_two min_two max_three min_three max_four min_four tdiv2e18_ tdiv1e18_ cellSS_  -- for this text's walks alone
def interval_Ceil.f (a0 : Int) (a1 : Int) : Option (Int) := (interval_Floor.f (wrap64 (-a0)) a1).bind fun t216 => (some (wrap64 (-t216)))
theorem interval_Ceil.calls (a0 : Int) (a1 : Int) (r : Int) (w : World) (h : interval_Ceil.f a0 a1 = some r) :
  Calls Try.prog 50 #[.int .i64 a0, .int .i64 a1] w fun e w' => e = .returned (.int .i64 r) ∧ Drawn0 w w' := by
 have H : ((interval_Floor.f (wrap64 (-a0)) a1).bind fun t216 => (some (wrap64 (-t216)))) = some r := h
 clear h
 replace H := Option.bind_eq_some_iff.mp H
 obtain ⟨t216, A30, H⟩ := H
 replace H : (some (wrap64 (-t216))) = some r := H
 have A3 := Aside0.mk A30
 clear A30
 obtain rfl := Option.some.inj H
 simp only [Option.some.injEq, Prod.mk.injEq] at H
 obtain ⟨rfl⟩ := H
 go_enter Try.func50, Try.ntmps50
 go_wp2_with (first | ((with_reducible refine gate_callee (f := 57) rfl ?_); refine goesL_ (some 8) rfl rfl Try.func57 (by kernel_rfl) rfl #[.int .i64 (wrap64 (-a0)), .int .i64 a1] rfl (by (try simp only [List.map_toArray, List.map_cons, List.map_nil]); first | done | rfl | (simp only [List.length_drop, List.length_take]; rfl)) ?_; (with_reducible refine (interval_Floor.calls (wrap64 (-a0)) a1 t216 _ A3.out).mono ?_); rintro e w' ⟨rfl, ⟨nd, rfl⟩⟩; refine ⟨_, rfl, ?_⟩))
 go_ret
 exact ⟨by first | rfl | (simp; done) | (simp [*]; done), by repeat (first | exact Drawn0.refl _ | apply Drawn0.step)⟩
end Go.Proofs.Ytmahlfjnejbcnaa.PAll
end
section
namespace Go.Proofs.Ytmahlfjnejbcnaa.PAll
open Go.RowKit YtmahlfjnejbcnaaW.PrintWords YtmahlfjnejbcnaaW.PrintLast YtmahlfjnejbcnaaW.PrintMore More2 Sq
attribute [local go_sem] max2_int min2_int max_two min_two max_three min_three max_four min_four tdiv2e18_ tdiv1e18_ cellSS_  -- for this text's walks alone
mutual
def series_Slope.l0 : Nat → Int → List (S71) → Int → Int → Int → Int → List (S71) → Int → Option (Int × Int × Int)
 | 0, _, _, _, _, _, _, _, _ => none
 | k + 1, x5, x17, x18, x19, x218000, x218001, x218002, x218003 => if x19 < x18 then (if 0 ≤ x19 then (if x19 < (x17.length : Int) then (if ((rd_T71 x17 x19).f0) < 0 then (series_Slope.j1 k x5 (wrap64 (-((rd_T71 x17 x19).f0))) ((rd_T71 x17 x19).f2) x17 x18 x19 x218000 x218001 x218002 x218003) else (series_Slope.j1 k x5 ((rd_T71 x17 x19).f0) ((rd_T71 x17 x19).f2) x17 x18 x19 x218000 x218001 x218002 x218003)) else (none)) else (none)) else ((interval_Floor.f x218001 1000000).bind fun t220 => ((interval_Ceil.f x218001 1000000).bind fun t221 => (some (wrap64 (t220 - x5), wrap64 (t221 + x5), 0))))
def series_Slope.j1 : Nat → Int → Int → Int → List (S71) → Int → Int → Int → Int → List (S71) → Int → Option (Int × Int × Int)
 | 0, _, _, _, _, _, _, _, _, _, _ => none
 | k + 1, x5, x8, x9, x17, x18, x19, x218000, x218001, x218002, x218003 => if x9 < 0 then ((interval_Ceil.f (wrap64 (-x9)) 1000000).bind fun t224 => ((interval_Ceil.f (wrap64 (x8 * t224)) 1000000000).bind fun t225 => ((interval_Ceil.f (wrap64 (t225 * 44)) 7).bind fun t226 => (series_Slope.l0 k (wrap64 (x5 + t226)) x17 x18 (wrap64 (x19 + 1)) x218000 x218001 x218002 x218003)))) else ((interval_Ceil.f x9 1000000).bind fun t227 => ((interval_Ceil.f (wrap64 (x8 * t227)) 1000000000).bind fun t228 => ((interval_Ceil.f (wrap64 (t228 * 44)) 7).bind fun t229 => (series_Slope.l0 k (wrap64 (x5 + t229)) x17 x18 (wrap64 (x19 + 1)) x218000 x218001 x218002 x218003))))
end
def series_Slope.f (k : Nat) (a0_0 : Int) (a0_1 : Int) (l0_2 : List (S71)) (a0_3 : Int) : Option (Int × Int × Int) := (series_Check.f k a0_0 a0_1 l0_2 a0_3).bind fun t219 => (if t219 = 0 then (series_Slope.l0 k 0 l0_2 (l0_2.length : Int) 0 a0_0 a0_1 l0_2 a0_3) else (some (0, 0, t219)))
theorem series_Slope.mono_l : ∀ k, (∀ y0 y1 y2 y3 y4 y5 y6 y7, LeO (series_Slope.l0 k y0 y1 y2 y3 y4 y5 y6 y7) (series_Slope.l0 (k + 1) y0 y1 y2 y3 y4 y5 y6 y7)) ∧ (∀ y0 y1 y2 y3 y4 y5 y6 y7 y8 y9, LeO (series_Slope.j1 k y0 y1 y2 y3 y4 y5 y6 y7 y8 y9) (series_Slope.j1 (k + 1) y0 y1 y2 y3 y4 y5 y6 y7 y8 y9))
 | 0 => ⟨fun _ _ _ _ _ _ _ _ r h => by simp [series_Slope.l0] at h, fun _ _ _ _ _ _ _ _ _ _ r h => by simp [series_Slope.j1] at h⟩
 | k + 1 => by
  obtain ⟨ih0, ih1⟩ := series_Slope.mono_l k
  refine ⟨?_, ?_⟩
  ·intro y0 y1 y2 y3 y4 y5 y6 y7
   unfold series_Slope.l0
   repeat' first
   | (with_reducible exact ih0 _ _ _ _ _ _ _ _)
   | (with_reducible exact ih1 _ _ _ _ _ _ _ _ _ _)
   | (with_reducible exact series_Check.mono _ _ _ _ _)
   | (with_reducible exact LeO.refl _)
   | (with_reducible exact LeO.none _)
   | (with_reducible refine LeO.ite ?_ ?_)
   | (with_reducible refine LeO.bind ?_ (fun _ => ?_))
   | exact ih0 _ _ _ _ _ _ _ _
   | exact ih1 _ _ _ _ _ _ _ _ _ _
   | exact series_Check.mono _ _ _ _ _
   | exact LeO.none _
   | refine LeO.ite ?_ ?_
   | refine LeO.bind ?_ (fun _ => ?_)
  ·intro y0 y1 y2 y3 y4 y5 y6 y7 y8 y9
   unfold series_Slope.j1
   repeat' first
   | (with_reducible exact ih0 _ _ _ _ _ _ _ _)
   | (with_reducible exact ih1 _ _ _ _ _ _ _ _ _ _)
   | (with_reducible exact series_Check.mono _ _ _ _ _)
   | (with_reducible exact LeO.refl _)
   | (with_reducible exact LeO.none _)
   | (with_reducible refine LeO.ite ?_ ?_)
   | (with_reducible refine LeO.bind ?_ (fun _ => ?_))
   | exact ih0 _ _ _ _ _ _ _ _
   | exact ih1 _ _ _ _ _ _ _ _ _ _
   | exact series_Check.mono _ _ _ _ _
   | exact LeO.none _
   | refine LeO.ite ?_ ?_
   | refine LeO.bind ?_ (fun _ => ?_)
theorem series_Slope.mono : ∀ a0 a1 a2 a3 k, LeO (series_Slope.f k a0 a1 a2 a3) (series_Slope.f (k + 1) a0 a1 a2 a3) := by
 intro a0 a1 a2 a3 k
 obtain ⟨ih0, ih1⟩ := series_Slope.mono_l k
 unfold series_Slope.f
 repeat' first
   | (with_reducible exact ih0 _ _ _ _ _ _ _ _)
   | (with_reducible exact ih1 _ _ _ _ _ _ _ _ _ _)
   | (with_reducible exact series_Check.mono _ _ _ _ _)
   | (with_reducible exact LeO.refl _)
   | (with_reducible exact LeO.none _)
   | (with_reducible refine LeO.ite ?_ ?_)
   | (with_reducible refine LeO.bind ?_ (fun _ => ?_))
   | exact ih0 _ _ _ _ _ _ _ _
   | exact ih1 _ _ _ _ _ _ _ _ _ _
   | exact series_Check.mono _ _ _ _ _
   | exact LeO.none _
   | refine LeO.ite ?_ ?_
   | refine LeO.bind ?_ (fun _ => ?_)
def series_Slope.T15 : Bool × List (List Nat × List Nat) := (true, [([], []), ([0], [0]), ([1], [1]), ([], []), ([2, 3], [2, 3]), ([], []), ([5], [5]), ([6, 2], [6]), ([], []), ([7, 8], [7, 8]), ([4, 9], [4, 9]), ([10, 7, 0, 1, 2, 3, 4, 5, 6, 7, 8, 9, 10], [10]), ([11, 0, 1, 2, 3, 4, 5, 6, 7, 8, 9, 10, 11], [])])
def series_Slope.B15 : List Nat := [0, 1, 3, 0, 15, 0, 32, 103, 0, 487, 1023, 2047, 4095]
theorem series_Slope.tab15 : rtab .any (opsOf Try.f48 15) = series_Slope.T15 := by kernel_rfl
theorem series_Slope.bits15 : waitsOk series_Slope.T15.2 series_Slope.B15 = true := by kernel_rfl
theorem series_Slope.calls (k : Nat) (a0_0 : Int) (a0_1 : Int) (A0_2 : Option Addr) (c0_2 : Nat) (l0_2 : List (S71)) (a0_3 : Int) (r1 : Int) (r2 : Int) (r3 : Int) (w : World) (hr0_2 : Kd.C k71 w A0_2 l0_2.length l0_2) (hc0_2 : l0_2.length ≤ c0_2) (h : series_Slope.f k a0_0 a0_1 l0_2 a0_3 = some (r1, r2, r3)) :
  Calls Try.prog 48 #[.agg #[.int .i64 a0_0, .int .i64 a0_1, .slice A0_2 l0_2.length c0_2, .int .i64 a0_3]] w fun e w' => e = .returned (.tuple #[.agg #[.int .i64 r1, .int .i64 r2], .int .i64 r3]) ∧ Below w.heap.size w w' := by
 have hu57 := Try.underlying57
 have hu24 := Try.underlying24
 have hu71 := Try.underlying71
 have HR0_2 := Aside0.mk hr0_2
 have HC0_2 := Aside0.mk hc0_2
 clear hr0_2 hc0_2
 have HB := Aside0.mk (Below.refl w.heap.size w)
 have H : ((series_Check.f k a0_0 a0_1 l0_2 a0_3).bind fun t219 => (if t219 = 0 then (series_Slope.l0 k 0 l0_2 (l0_2.length : Int) 0 a0_0 a0_1 l0_2 a0_3) else (some (0, 0, t219)))) = some (r1, r2, r3) := h
 clear h
 replace H := Option.bind_eq_some_iff.mp H
 obtain ⟨t219, A20, H⟩ := H
 replace H : (if t219 = 0 then (series_Slope.l0 k 0 l0_2 (l0_2.length : Int) 0 a0_0 a0_1 l0_2 a0_3) else (some (0, 0, t219))) = some (r1, r2, r3) := H
 have A2 := Aside0.mk A20
 clear A20
 by_cases c3 : t219 = 0
 ·rw [if_pos c3] at H
  have c3b0 : (t219 == 0) = true := beq_iff_eq.mpr c3
  have c3b1 : (t219 != 0) = false := bne_eq_false_iff_eq.mpr c3
  clear c3
  have H' := Aside0.mk H
  clear H
  go_enter Try.func48, Try.ntmps48
  go_wp2_with (first | ((with_reducible refine gate_dst (N := 1) rfl ?_); refine box_event ?hg (N := 1) ?hd (cs := #[.int .i64 a0_0, .int .i64 a0_1, .slice A0_2 l0_2.length c0_2, .int .i64 a0_3]) (t := 57) ?hr ?_; (case hd => rfl); (case hg => rfl); (case hr => first | (go_simp; done) | (go_simp; rfl)); intro gb217 hg w4 hbox hb; have BK217 := Aside0.mk (hbox); have GW217 := ge_ hg HB; have GE217 := ge_ hg HB; replace HB := bs_ HB hb; clear hb hbox hg) | ((with_reducible refine gate_dst (N := 2) rfl ?_); refine box_event ?hg (N := 2) ?hd (cs := #[.int .i64 0, .int .i64 0]) (t := 24) ?hr ?_; (case hd => rfl); (case hg => rfl); (case hr => first | (go_simp; done) | (go_simp; rfl)); intro gb218 hg w5 hbox hb; have BK218 := Aside0.mk (hbox); have GW218 := ge_ hg HB; have GE218 := ge_ hg HB; have NB217_218 := nl_ hg BK217; have NB218_217 := ng_ hg BK217; replace BK217 := kb_ BK217 hb; replace HB := bs_ HB hb; clear hb hbox hg; have hnb6 := NB217_218.out; have hnc6 := NB218_217.out; have hcz7_0 : w5.cell? ⟨gb217, 0, none⟩ = some (.int .i64 a0_0) := (blk_cell BK217.out 0).trans rfl; have hcz7_1 : w5.cell? ⟨gb217, 1, none⟩ = some (.int .i64 a0_1) := (blk_cell BK217.out 1).trans rfl; have hcz7_2 : w5.cell? ⟨gb217, 2, none⟩ = some (.slice A0_2 l0_2.length c0_2) := (blk_cell BK217.out 2).trans rfl; have hcz7_3 : w5.cell? ⟨gb217, 3, none⟩ = some (.int .i64 a0_3) := (blk_cell BK217.out 3).trans rfl; have hfz7_0 := blk_frozen BK217.out 0; have hfz7_1 := blk_frozen BK217.out 1; have hfz7_2 := blk_frozen BK217.out 2; have hfz7_3 := blk_frozen BK217.out 3) | ((with_reducible refine gate_callee (f := 70) rfl ?_); refine goesL_ (some 11) rfl rfl Try.func70 (by kernel_rfl) rfl #[.agg #[.int .i64 a0_0, .int .i64 a0_1, .slice A0_2 l0_2.length c0_2, .int .i64 a0_3]] rfl (by (try simp only [List.map_toArray, List.map_cons, List.map_nil]); first | done | rfl | (simp only [List.length_drop, List.length_take]; rfl)) ?_; (with_reducible refine (series_Check.calls k a0_0 a0_1 _ _ l0_2 a0_3 t219 _ ?side1 ?side2 A2.out).mono ?_); (case side1 => repeat (first | exact (Kd.C_below HR0_2.out HB.out) | (with_reducible refine Kd.C_alloc ?_ _) | (with_reducible refine Kd.C_drewN ?_ _) | (with_reducible refine Kd.C_drew ?_))); (case side2 => exact HC0_2.out); rintro e w8 ⟨rfl, hb⟩; refine ⟨_, rfl, ?_⟩; replace BK217 := kb_ BK217 hb; replace BK218 := kb_ BK218 hb; replace HB := bs_ HB hb; (try clear hb); (try clear hb2); (try clear hk); (try clear hi); have hcz9_0 : w8.cell? ⟨gb217, 0, none⟩ = some (.int .i64 a0_0) := (blk_cell BK217.out 0).trans rfl; have hcz9_1 : w8.cell? ⟨gb217, 1, none⟩ = some (.int .i64 a0_1) := (blk_cell BK217.out 1).trans rfl; have hcz9_2 : w8.cell? ⟨gb217, 2, none⟩ = some (.slice A0_2 l0_2.length c0_2) := (blk_cell BK217.out 2).trans rfl; have hcz9_3 : w8.cell? ⟨gb217, 3, none⟩ = some (.int .i64 a0_3) := (blk_cell BK217.out 3).trans rfl; have hfz9_0 := blk_frozen BK217.out 0; have hfz9_1 := blk_frozen BK217.out 1; have hfz9_2 := blk_frozen BK217.out 2; have hfz9_3 := blk_frozen BK217.out 3))
  go_loopg [5, 19] k (fun kq v5 v19 w' => ∃ (x5_1 : Int) (x19_1 : Int), v5 = .int .i64 x5_1 ∧ v19 = .int .i64 x19_1 ∧ Aside0 (series_Slope.l0 kq x5_1 l0_2 (l0_2.length : Int) x19_1 a0_0 a0_1 l0_2 a0_3 = some (r1, r2, r3)) ∧ Aside0 (kq ≤ k) ∧ Aside0 (w'.heap[gb217]? = some (.cells #[.int .i64 a0_0, .int .i64 a0_1, (.slice A0_2 l0_2.length c0_2), .int .i64 a0_3] 57 (0, 0))) ∧ Aside0 (w'.heap[gb218]? = some (.cells #[.int .i64 0, .int .i64 0] 24 (0, 0))) ∧ Aside0 (Below w.heap.size w w'))
  case atStart => exact ⟨(0), (0), (by first | rfl | (simp; done) | (simp [*]; done)), (by first | rfl | (simp; done) | (simp [*]; done)), H', ⟨Nat.le_refl _⟩, ⟨kk_ BK217⟩, ⟨kk_ BK218⟩, (be_ HB)⟩
  case round =>
   clear H'
   try clear p2
   try clear c3
   try clear c3b0
   try clear c3b1
   try clear c4
   try clear c6
   try clear c7
   try clear hcz7_0
   try clear hcz7_1
   try clear hcz7_2
   try clear hcz7_3
   try clear hcz9_0
   try clear hcz9_1
   try clear hcz9_2
   try clear hcz9_3
   try clear hfz7_0
   try clear hfz7_1
   try clear hfz7_2
   try clear hfz7_3
   try clear hfz9_0
   try clear hfz9_1
   try clear hfz9_2
   try clear hfz9_3
   obtain ⟨x5_1, x19_1, rfl, rfl, HA, HK1, BK217, BK218, HB⟩ := hrel
   cases gk with
   | zero => exact absurd HA.out (by simp [series_Slope.l0])
   | succ k1 =>
    have H := HA.out
    clear HA
    simp only [series_Slope.l0] at H
    by_cases c10 : x19_1 < (l0_2.length : Int)
    ·rw [if_pos c10] at H
     have c10b0 : decide (x19_1 < (l0_2.length : Int)) = true := decide_eq_true c10
     clear c10
     by_cases c11 : 0 ≤ x19_1
     ·rw [if_pos c11] at H
      have c11b0 : decide (0 ≤ x19_1) = true := decide_eq_true c11
      clear c11
      by_cases c12 : x19_1 < (l0_2.length : Int)
      ·rw [if_pos c12] at H
       have c12b0 : decide (x19_1 < (l0_2.length : Int)) = true := decide_eq_true c12
       clear c12
       have HC13 := Aside0.mk H
       clear H
       have p222 : 0 ≤ (x19_1 : Int) := of_decide_eq_true (by first | (with_reducible assumption) | assumption)
       have q222 : x19_1 < (l0_2.length : Int) := of_decide_eq_true (by first | (with_reducible assumption) | assumption)
       obtain ⟨ad222, e222, hx222_0, hx222_1, hx222_2⟩ := at_T71 HR0_2.out x19_1 p222 q222
       cases e222
       replace hx222_0 := (HB.out.cell (World.block_lt_of_cell? w _ hx222_0)).trans hx222_0
       replace hx222_1 := (HB.out.cell (World.block_lt_of_cell? w _ hx222_1)).trans hx222_1
       replace hx222_2 := (HB.out.cell (World.block_lt_of_cell? w _ hx222_2)).trans hx222_2
       replace p222 := eq_true p222
       replace q222 := eq_true q222
       try go_wp2_with (first | ((with_reducible refine gate_dst (N := 7) rfl ?_); refine box_event ?hg (N := 7) ?hd (cs := #[.int .i64 0, .int .i64 0, .int .i64 0]) (t := 71) ?hr ?_; (case hd => rfl); (case hg => rfl); (case hr => first | (go_simp; done) | (go_simp; rfl)); intro gb223 hg w14 hbox hb; have BK223 := Aside0.mk (hbox); have GW223 := ge_ hg HB; have GE223 := ge_ hg HB; have NB217_223 := nl_ hg BK217; have NB223_217 := ng_ hg BK217; have NB218_223 := nl_ hg BK218; have NB223_218 := ng_ hg BK218; replace BK217 := kb_ BK217 hb; replace BK218 := kb_ BK218 hb; replace HB := bs_ HB hb; clear hb hbox hg; have hnb15 := NB223_217.out; have hnc15 := NB217_223.out; have hnb16 := NB223_218.out; have hnc16 := NB218_223.out; have hcz17_0 : w14.cell? ⟨gb223, 0, none⟩ = some (.int .i64 0) := (blk_cell BK223.out 0).trans rfl; have hcz17_1 : w14.cell? ⟨gb223, 1, none⟩ = some (.int .i64 0) := (blk_cell BK223.out 1).trans rfl; have hcz17_2 : w14.cell? ⟨gb223, 2, none⟩ = some (.int .i64 0) := (blk_cell BK223.out 2).trans rfl; have hfz17_0 := blk_frozen BK223.out 0; have hfz17_1 := blk_frozen BK223.out 1; have hfz17_2 := blk_frozen BK223.out 2))
       have n0_ : Aside0 ((((w14.setCell ⟨gb223, 0, none⟩ (.int .i64 ((rd_T71 l0_2 x19_1).f0))).setCell ⟨gb223, 1, none⟩ (.int .i64 ((rd_T71 l0_2 x19_1).f1))).setCell ⟨gb223, 2, none⟩ (.int .i64 ((rd_T71 l0_2 x19_1).f2))).heap[gb217]? = some (.cells #[.int .i64 a0_0, .int .i64 a0_1, .slice (some ad222) l0_2.length c0_2, .int .i64 a0_3] 57 (0, 0))) := ⟨kk_ BK217⟩
       have n1_ : Aside0 ((((w14.setCell ⟨gb223, 0, none⟩ (.int .i64 ((rd_T71 l0_2 x19_1).f0))).setCell ⟨gb223, 1, none⟩ (.int .i64 ((rd_T71 l0_2 x19_1).f1))).setCell ⟨gb223, 2, none⟩ (.int .i64 ((rd_T71 l0_2 x19_1).f2))).heap[gb218]? = some (.cells #[.int .i64 0, .int .i64 0] 24 (0, 0))) := ⟨kk_ BK218⟩
       have n2_ : Aside0 ((((w14.setCell ⟨gb223, 0, none⟩ (.int .i64 ((rd_T71 l0_2 x19_1).f0))).setCell ⟨gb223, 1, none⟩ (.int .i64 ((rd_T71 l0_2 x19_1).f1))).setCell ⟨gb223, 2, none⟩ (.int .i64 ((rd_T71 l0_2 x19_1).f2))).heap[gb223]? = some (.cells #[.int .i64 ((rd_T71 l0_2 x19_1).f0), .int .i64 ((rd_T71 l0_2 x19_1).f1), .int .i64 ((rd_T71 l0_2 x19_1).f2)] 71 (0, 0))) := ⟨by (with_reducible repeat (first | refine blk_drewN ?_ _ | refine blk_drew ?_ | refine blk_alloc ?_ _)); refine blk_put (cs := #[.int .i64 ((rd_T71 l0_2 x19_1).f0), .int .i64 ((rd_T71 l0_2 x19_1).f1), .int .i64 0]) ?_ 2 _ rfl; (with_reducible repeat (first | refine blk_drewN ?_ _ | refine blk_drew ?_ | refine blk_alloc ?_ _)); refine blk_put (cs := #[.int .i64 ((rd_T71 l0_2 x19_1).f0), .int .i64 0, .int .i64 0]) ?_ 1 _ rfl; (with_reducible repeat (first | refine blk_drewN ?_ _ | refine blk_drew ?_ | refine blk_alloc ?_ _)); refine blk_put (cs := #[.int .i64 0, .int .i64 0, .int .i64 0]) ?_ 0 _ rfl; (with_reducible repeat (first | refine blk_drewN ?_ _ | refine blk_drew ?_ | refine blk_alloc ?_ _)); exact BK223.out⟩
       have n3_ : Aside0 (Below w.heap.size w (((w14.setCell ⟨gb223, 0, none⟩ (.int .i64 ((rd_T71 l0_2 x19_1).f0))).setCell ⟨gb223, 1, none⟩ (.int .i64 ((rd_T71 l0_2 x19_1).f1))).setCell ⟨gb223, 2, none⟩ (.int .i64 ((rd_T71 l0_2 x19_1).f2)))) := (be_ HB)
       (try clear BK217)
       (try clear BK218)
       (try clear BK223)
       (try clear HB)
       generalize (((w14.setCell ⟨gb223, 0, none⟩ (.int .i64 ((rd_T71 l0_2 x19_1).f0))).setCell ⟨gb223, 1, none⟩ (.int .i64 ((rd_T71 l0_2 x19_1).f1))).setCell ⟨gb223, 2, none⟩ (.int .i64 ((rd_T71 l0_2 x19_1).f2))) = w18 at n0_ n1_ n2_ n3_ ⊢
       have BK217 := n0_
       have BK218 := n1_
       have BK223 := n2_
       have HB := n3_
       clear n0_ n1_ n2_ n3_
       replace BK217 := Aside0.mk (blk_drew BK217.out)
       replace BK218 := Aside0.mk (blk_drew BK218.out)
       replace BK223 := Aside0.mk (blk_drew BK223.out)
       replace HB := Aside0.mk (below_drew1 HB.out)
       refine start_ (n := 6) (S := fun w' => w'.cell? ⟨gb223, 0, none⟩ = some (.int .i64 ((rd_T71 l0_2 x19_1).f0)) ∧ w'.cell? ⟨gb223, 1, none⟩ = some (.int .i64 ((rd_T71 l0_2 x19_1).f1)) ∧ w'.cell? ⟨gb223, 2, none⟩ = some (.int .i64 ((rd_T71 l0_2 x19_1).f2))) (ds := []) #[false, false, false, false, false, false] (by kernel_rfl) rfl rfl ⟨(blk_cell BK223.out 0).trans rfl, (blk_cell BK223.out 1).trans rfl, (blk_cell BK223.out 2).trans rfl⟩ (fun hHeld => ?_)
       generalize w18.drew = w19 at BK217 BK218 BK223 HB hHeld ⊢
       refine pure_ (i := 0) (N := some 23) (v := ?_) (a' := ?_) #[true, false, false, false, false, false] rfl rfl (by kernel_rfl) (fun _ _ _ h => h) (Or.inl ⟨by rfl, ?_⟩) ?_ ?_
       rotate_left
       ·intro w'
        go_simp
        with_reducible rfl
       rotate_left
       ·simp only [Act.put, List.setIfInBounds_toArray, List.set_cons_zero, List.set_cons_succ, i64_w, i32_w]
        rfl
       refine pure_ (i := 2) (N := some 25) (v := ?_) (a' := ?_) #[true, false, true, false, false, false] rfl rfl (by kernel_rfl) (fun _ _ _ h => h) (Or.inl ⟨by rfl, ?_⟩) ?_ ?_
       rotate_left
       ·intro w'
        go_simp
        with_reducible rfl
       rotate_left
       ·simp only [Act.put, List.setIfInBounds_toArray, List.set_cons_zero, List.set_cons_succ, i64_w, i32_w]
        rfl
       refine take_ (i := 1) (N := some 24) (v := ?_) (a' := ?_) #[true, true, true, false, false, false] rfl rfl (by kernel_rfl) (fun _ _ _ h => h) (Or.inl ⟨by rfl, ?_⟩) hHeld ?_ ?_
       rotate_left
       ·rintro w' ⟨s0, s1, s2⟩
        go_simp
        with_reducible rfl
       rotate_left
       ·simp only [Act.put, List.setIfInBounds_toArray, List.set_cons_zero, List.set_cons_succ, i64_w, i32_w]
        rfl
       refine pure_ (i := 4) (N := some 8) (v := ?_) (a' := ?_) #[true, true, true, false, true, false] rfl rfl (by kernel_rfl) (fun _ _ _ h => h) (Or.inl ⟨by rfl, ?_⟩) ?_ ?_
       rotate_left
       ·intro w'
        go_simp
        with_reducible rfl
       rotate_left
       ·simp only [Act.put, List.setIfInBounds_toArray, List.set_cons_zero, List.set_cons_succ, i64_w, i32_w]
        rfl
       refine take_ (i := 3) (N := some 26) (v := ?_) (a' := ?_) #[true, true, true, true, true, false] rfl rfl (by kernel_rfl) (fun _ _ _ h => h) (Or.inl ⟨by rfl, ?_⟩) hHeld ?_ ?_
       rotate_left
       ·rintro w' ⟨s0, s1, s2⟩
        go_simp
        with_reducible rfl
       rotate_left
       ·simp only [Act.put, List.setIfInBounds_toArray, List.set_cons_zero, List.set_cons_succ, i64_w, i32_w]
        rfl
       refine pure_ (i := 5) (N := some 9) (v := ?_) (a' := ?_) #[true, true, true, true, true, true] rfl rfl (by kernel_rfl) (fun _ _ _ h => h) (Or.inl ⟨by rfl, ?_⟩) ?_ ?_
       rotate_left
       ·intro w'
        go_simp
        with_reducible rfl
       rotate_left
       ·simp only [Act.put, List.setIfInBounds_toArray, List.set_cons_zero, List.set_cons_succ, i64_w, i32_w]
        rfl
       refine done_ (by kernel_rfl) ?_
       go_upto_if 28 with (fail)
       go_cut [8] (fun v8 wc => ∃ (kq : Nat) (x8_12 : Int), v8 = .int .i64 x8_12 ∧ Aside0 (series_Slope.j1 kq x5_1 x8_12 ((rd_T71 l0_2 x19_1).f2) l0_2 (l0_2.length : Int) x19_1 a0_0 a0_1 l0_2 a0_3 = some (r1, r2, r3)) ∧ Aside0 (kq ≤ k1) ∧ Aside0 (wc.heap[gb217]? = some (.cells #[.int .i64 a0_0, .int .i64 a0_1, (.slice (some ad222) l0_2.length c0_2), .int .i64 a0_3] 57 (0, 0))) ∧ Aside0 (wc.heap[gb218]? = some (.cells #[.int .i64 0, .int .i64 0] 24 (0, 0))) ∧ Aside0 (wc.heap[gb223]? = some (.cells #[.int .i64 ((rd_T71 l0_2 x19_1).f0), .int .i64 ((rd_T71 l0_2 x19_1).f1), .int .i64 ((rd_T71 l0_2 x19_1).f2)] 71 (0, 0))) ∧ Aside0 (Below w.heap.size w wc))
       case first =>
        have H := HC13.out
        clear HC13
        by_cases c20 : ((rd_T71 l0_2 x19_1).f0) < 0
        ·rw [if_pos c20] at H
         have c20b0 : decide (((rd_T71 l0_2 x19_1).f0) < 0) = true := decide_eq_true c20
         clear c20
         (first | rw [c20b0] | (simp only [i64_w, i32_w]; rw [c20b0]) | skip)
         have H' := Aside0.mk H
         clear H
         go_wp2
         go_meet
         case rel => exact ⟨_, (wrap64 (-((rd_T71 l0_2 x19_1).f0))), (by first | rfl | (simp; done) | (simp [*]; done)), H', ⟨by have := HK1.out; first | omega | exact Nat.le_refl _⟩, ⟨kk_ BK217⟩, ⟨kk_ BK218⟩, ⟨kk_ BK223⟩, (be_ HB)⟩
        ·rw [if_neg c20] at H
         have c20b0 : decide (((rd_T71 l0_2 x19_1).f0) < 0) = false := decide_eq_false c20
         clear c20
         (first | rw [c20b0] | (simp only [i64_w, i32_w]; rw [c20b0]) | skip)
         have H' := Aside0.mk H
         clear H
         go_wp2
         go_meet
         case rel => exact ⟨_, ((rd_T71 l0_2 x19_1).f0), (by first | rfl | (simp; done) | (simp [*]; done)), H', ⟨by have := HK1.out; first | omega | exact Nat.le_refl _⟩, ⟨kk_ BK217⟩, ⟨kk_ BK218⟩, ⟨kk_ BK223⟩, (be_ HB)⟩
       case rest =>
        clear HC13
        try clear c1
        try clear c2
        try clear p2
        try clear q2
        try clear hx2
        try clear c3
        try clear c3b0
        try clear c3b1
        try clear c4
        try clear c6
        try clear p6
        try clear c7
        try clear c10
        try clear c10b0
        try clear c11
        try clear c11b0
        try clear c12
        try clear c12b0
        try clear c15
        try clear c16
        try clear c20
        try clear c20b0
        try clear hcz17_0
        try clear hcz17_1
        try clear hcz17_2
        try clear hcz7_0
        try clear hcz7_1
        try clear hcz7_2
        try clear hcz7_3
        try clear hcz9_0
        try clear hcz9_1
        try clear hcz9_2
        try clear hcz9_3
        try clear hfz17_0
        try clear hfz17_1
        try clear hfz17_2
        try clear hfz7_0
        try clear hfz7_1
        try clear hfz7_2
        try clear hfz7_3
        try clear hfz9_0
        try clear hfz9_1
        try clear hfz9_2
        try clear hfz9_3
        try clear hx222_0
        try clear hx222_1
        try clear hx222_2
        try clear p2
        try clear p222
        try clear q222
        obtain ⟨kq, x8_12, rfl, HA, HJ12, BK217, BK218, BK223, HB⟩ := hcut
        cases kq with
        | zero => exact absurd HA.out (by simp [series_Slope.j1])
        | succ kj12 =>
         have H := HA.out
         clear HA
         simp only [series_Slope.j1] at H
         by_cases c21 : ((rd_T71 l0_2 x19_1).f2) < 0
         ·rw [if_pos c21] at H
          have c21b0 : decide (((rd_T71 l0_2 x19_1).f2) < 0) = true := decide_eq_true c21
          clear c21
          replace H := Option.bind_eq_some_iff.mp H
          obtain ⟨t224, A220, H⟩ := H
          replace H : ((interval_Ceil.f (wrap64 (x8_12 * t224)) 1000000000).bind fun t225 => ((interval_Ceil.f (wrap64 (t225 * 44)) 7).bind fun t226 => (series_Slope.l0 kj12 (wrap64 (x5_1 + t226)) l0_2 (l0_2.length : Int) (wrap64 (x19_1 + 1)) a0_0 a0_1 l0_2 a0_3))) = some (r1, r2, r3) := H
          have A22 := Aside0.mk A220
          clear A220
          replace H := Option.bind_eq_some_iff.mp H
          obtain ⟨t225, A230, H⟩ := H
          replace H : ((interval_Ceil.f (wrap64 (t225 * 44)) 7).bind fun t226 => (series_Slope.l0 kj12 (wrap64 (x5_1 + t226)) l0_2 (l0_2.length : Int) (wrap64 (x19_1 + 1)) a0_0 a0_1 l0_2 a0_3)) = some (r1, r2, r3) := H
          have A23 := Aside0.mk A230
          clear A230
          replace H := Option.bind_eq_some_iff.mp H
          obtain ⟨t226, A240, H⟩ := H
          replace H : (series_Slope.l0 kj12 (wrap64 (x5_1 + t226)) l0_2 (l0_2.length : Int) (wrap64 (x19_1 + 1)) a0_0 a0_1 l0_2 a0_3) = some (r1, r2, r3) := H
          have A24 := Aside0.mk A240
          clear A240
          have H' := Aside0.mk H
          clear H
          go_wp2_with (first | ((with_reducible refine gate_callee (f := 50) rfl ?_); refine goesL_ (some 38) rfl rfl Try.func50 (by kernel_rfl) rfl #[.int .i64 (wrap64 (-((rd_T71 l0_2 x19_1).f2))), .int .i64 1000000] rfl (by (try simp only [List.map_toArray, List.map_cons, List.map_nil]); first | done | rfl | (simp only [List.length_drop, List.length_take]; rfl)) ?_; (with_reducible refine (interval_Ceil.calls (wrap64 (-((rd_T71 l0_2 x19_1).f2))) 1000000 t224 _ A22.out).mono ?_); rintro e w' ⟨rfl, ⟨nd, rfl⟩⟩; refine ⟨_, rfl, ?_⟩) | ((with_reducible refine gate_callee (f := 50) rfl ?_); refine goesL_ (some 40) rfl rfl Try.func50 (by kernel_rfl) rfl #[.int .i64 (wrap64 (x8_12 * t224)), .int .i64 1000000000] rfl (by (try simp only [List.map_toArray, List.map_cons, List.map_nil]); first | done | rfl | (simp only [List.length_drop, List.length_take]; rfl)) ?_; (with_reducible refine (interval_Ceil.calls (wrap64 (x8_12 * t224)) 1000000000 t225 _ A23.out).mono ?_); rintro e w' ⟨rfl, ⟨nd, rfl⟩⟩; refine ⟨_, rfl, ?_⟩) | ((with_reducible refine gate_callee (f := 50) rfl ?_); refine goesL_ (some 42) rfl rfl Try.func50 (by kernel_rfl) rfl #[.int .i64 (wrap64 (t225 * 44)), .int .i64 7] rfl (by (try simp only [List.map_toArray, List.map_cons, List.map_nil]); first | done | rfl | (simp only [List.length_drop, List.length_take]; rfl)) ?_; (with_reducible refine (interval_Ceil.calls (wrap64 (t225 * 44)) 7 t226 _ A24.out).mono ?_); rintro e w' ⟨rfl, ⟨nd, rfl⟩⟩; refine ⟨_, rfl, ?_⟩))
          go_roundg kj12
          case measure => have := HK1.out; have := HJ12.out; omega
          case rel => exact ⟨(wrap64 (x5_1 + t226)), (wrap64 (x19_1 + 1)), (by first | rfl | (simp; done) | (simp [*]; done)), (by first | rfl | (simp; done) | (simp [*]; done)), H', ⟨by have := HK1.out; have := HJ12.out; omega⟩, ⟨kk_ BK217⟩, ⟨kk_ BK218⟩, (be_ HB)⟩
         ·rw [if_neg c21] at H
          have c21b0 : decide (((rd_T71 l0_2 x19_1).f2) < 0) = false := decide_eq_false c21
          clear c21
          replace H := Option.bind_eq_some_iff.mp H
          obtain ⟨t227, A250, H⟩ := H
          replace H : ((interval_Ceil.f (wrap64 (x8_12 * t227)) 1000000000).bind fun t228 => ((interval_Ceil.f (wrap64 (t228 * 44)) 7).bind fun t229 => (series_Slope.l0 kj12 (wrap64 (x5_1 + t229)) l0_2 (l0_2.length : Int) (wrap64 (x19_1 + 1)) a0_0 a0_1 l0_2 a0_3))) = some (r1, r2, r3) := H
          have A25 := Aside0.mk A250
          clear A250
          replace H := Option.bind_eq_some_iff.mp H
          obtain ⟨t228, A260, H⟩ := H
          replace H : ((interval_Ceil.f (wrap64 (t228 * 44)) 7).bind fun t229 => (series_Slope.l0 kj12 (wrap64 (x5_1 + t229)) l0_2 (l0_2.length : Int) (wrap64 (x19_1 + 1)) a0_0 a0_1 l0_2 a0_3)) = some (r1, r2, r3) := H
          have A26 := Aside0.mk A260
          clear A260
          replace H := Option.bind_eq_some_iff.mp H
          obtain ⟨t229, A270, H⟩ := H
          replace H : (series_Slope.l0 kj12 (wrap64 (x5_1 + t229)) l0_2 (l0_2.length : Int) (wrap64 (x19_1 + 1)) a0_0 a0_1 l0_2 a0_3) = some (r1, r2, r3) := H
          have A27 := Aside0.mk A270
          clear A270
          have H' := Aside0.mk H
          clear H
          go_wp2_with (first | ((with_reducible refine gate_callee (f := 50) rfl ?_); refine goesL_ (some 38) rfl rfl Try.func50 (by kernel_rfl) rfl #[.int .i64 ((rd_T71 l0_2 x19_1).f2), .int .i64 1000000] rfl (by (try simp only [List.map_toArray, List.map_cons, List.map_nil]); first | done | rfl | (simp only [List.length_drop, List.length_take]; rfl)) ?_; (with_reducible refine (interval_Ceil.calls ((rd_T71 l0_2 x19_1).f2) 1000000 t227 _ A25.out).mono ?_); rintro e w' ⟨rfl, ⟨nd, rfl⟩⟩; refine ⟨_, rfl, ?_⟩) | ((with_reducible refine gate_callee (f := 50) rfl ?_); refine goesL_ (some 40) rfl rfl Try.func50 (by kernel_rfl) rfl #[.int .i64 (wrap64 (x8_12 * t227)), .int .i64 1000000000] rfl (by (try simp only [List.map_toArray, List.map_cons, List.map_nil]); first | done | rfl | (simp only [List.length_drop, List.length_take]; rfl)) ?_; (with_reducible refine (interval_Ceil.calls (wrap64 (x8_12 * t227)) 1000000000 t228 _ A26.out).mono ?_); rintro e w' ⟨rfl, ⟨nd, rfl⟩⟩; refine ⟨_, rfl, ?_⟩) | ((with_reducible refine gate_callee (f := 50) rfl ?_); refine goesL_ (some 42) rfl rfl Try.func50 (by kernel_rfl) rfl #[.int .i64 (wrap64 (t228 * 44)), .int .i64 7] rfl (by (try simp only [List.map_toArray, List.map_cons, List.map_nil]); first | done | rfl | (simp only [List.length_drop, List.length_take]; rfl)) ?_; (with_reducible refine (interval_Ceil.calls (wrap64 (t228 * 44)) 7 t229 _ A27.out).mono ?_); rintro e w' ⟨rfl, ⟨nd, rfl⟩⟩; refine ⟨_, rfl, ?_⟩))
          go_roundg kj12
          case measure => have := HK1.out; have := HJ12.out; omega
          case rel => exact ⟨(wrap64 (x5_1 + t229)), (wrap64 (x19_1 + 1)), (by first | rfl | (simp; done) | (simp [*]; done)), (by first | rfl | (simp; done) | (simp [*]; done)), H', ⟨by have := HK1.out; have := HJ12.out; omega⟩, ⟨kk_ BK217⟩, ⟨kk_ BK218⟩, (be_ HB)⟩
      ·rw [if_neg c12] at H
       exact absurd H (by simp)
     ·rw [if_neg c11] at H
      exact absurd H (by simp)
    ·rw [if_neg c10] at H
     have c10b0 : decide (x19_1 < (l0_2.length : Int)) = false := decide_eq_false c10
     clear c10
     replace H := Option.bind_eq_some_iff.mp H
     obtain ⟨t220, A280, H⟩ := H
     replace H : ((interval_Ceil.f a0_1 1000000).bind fun t221 => (some (wrap64 (t220 - x5_1), wrap64 (t221 + x5_1), 0))) = some (r1, r2, r3) := H
     have A28 := Aside0.mk A280
     clear A280
     replace H := Option.bind_eq_some_iff.mp H
     obtain ⟨t221, A290, H⟩ := H
     replace H : (some (wrap64 (t220 - x5_1), wrap64 (t221 + x5_1), 0)) = some (r1, r2, r3) := H
     have A29 := Aside0.mk A290
     clear A290
     simp only [Option.some.injEq, Prod.mk.injEq] at H
     obtain ⟨rfl, rfl, rfl⟩ := H
     try go_wp2
     replace BK217 := Aside0.mk (blk_drew BK217.out)
     replace BK218 := Aside0.mk (blk_drew BK218.out)
     replace HB := Aside0.mk (below_drew1 HB.out)
     refine start_ (n := 13) (S := fun w' => w'.cell? ⟨gb217, 0, none⟩ = some (.int .i64 a0_0) ∧ w'.cell? ⟨gb217, 1, none⟩ = some (.int .i64 a0_1) ∧ w'.cell? ⟨gb217, 2, none⟩ = some (.slice A0_2 l0_2.length c0_2) ∧ w'.cell? ⟨gb217, 3, none⟩ = some (.int .i64 a0_3)) (ds := []) #[false, false, false, false, false, false, false, false, false, false, false, false, false] (by kernel_rfl) rfl rfl ⟨(blk_cell BK217.out 0).trans rfl, (blk_cell BK217.out 1).trans rfl, (blk_cell BK217.out 2).trans rfl, (blk_cell BK217.out 3).trans rfl⟩ (fun hHeld => ?_); refine with_tabW series_Slope.tab15 series_Slope.bits15 (fun HT_ HW_ => ?_)
     generalize wr.drew = w30 at BK217 BK218 HB hHeld ⊢
     refine pure_ (i := 0) (N := some 45) (v := ?_) (a' := ?_) #[true, false, false, false, false, false, false, false, false, false, false, false, false] rfl rfl (any_of HT_.out (by kernel_rfl)) (fun _ _ _ h => h) (Or.inl ⟨by rfl, ?_⟩) ?_ ?_
     rotate_left
     ·intro w'
      go_simp
      with_reducible rfl
     rotate_left
     ·simp only [Act.put, List.setIfInBounds_toArray, List.set_cons_zero, List.set_cons_succ, i64_w, i32_w]
      rfl
     refine pure_ (i := 3) (N := some 48) (v := ?_) (a' := ?_) #[true, false, false, true, false, false, false, false, false, false, false, false, false] rfl rfl (any_of HT_.out (by kernel_rfl)) (fun _ _ _ h => h) (Or.inl ⟨by rfl, ?_⟩) ?_ ?_
     rotate_left
     ·intro w'
      go_simp
      with_reducible rfl
     rotate_left
     ·simp only [Act.put, List.setIfInBounds_toArray, List.set_cons_zero, List.set_cons_succ, i64_w, i32_w]
      rfl
     refine pure_ (i := 5) (N := some 50) (v := ?_) (a' := ?_) #[true, false, false, true, false, true, false, false, false, false, false, false, false] rfl rfl (any_of HT_.out (by kernel_rfl)) (fun _ _ _ h => h) (Or.inl ⟨by rfl, ?_⟩) ?_ ?_
     rotate_left
     ·intro w'
      go_simp
      with_reducible rfl
     rotate_left
     ·simp only [Act.put, List.setIfInBounds_toArray, List.set_cons_zero, List.set_cons_succ, i64_w, i32_w]
      rfl
     refine pure_ (i := 8) (N := some 53) (v := ?_) (a' := ?_) #[true, false, false, true, false, true, false, false, true, false, false, false, false] rfl rfl (any_of HT_.out (by kernel_rfl)) (fun _ _ _ h => h) (Or.inl ⟨by rfl, ?_⟩) ?_ ?_
     rotate_left
     ·intro w'
      go_simp
      with_reducible rfl
     rotate_left
     ·simp only [Act.put, List.setIfInBounds_toArray, List.set_cons_zero, List.set_cons_succ, i64_w, i32_w]
      rfl
     refine take_ (i := 1) (N := some 46) (v := ?_) (a' := ?_) #[true, true, false, true, false, true, false, false, true, false, false, false, false] rfl rfl (take_ofW HT_.out HW_.out (by kernel_rfl)) (fun _ _ _ h => h) (Or.inl ⟨by rfl, ?_⟩) hHeld ?_ ?_
     rotate_left
     ·rintro w' ⟨s0, s1, s2, s3⟩
      go_simp
      with_reducible rfl
     rotate_left
     ·simp only [Act.put, List.setIfInBounds_toArray, List.set_cons_zero, List.set_cons_succ, i64_w, i32_w]
      rfl
     refine take_ (i := 6) (N := some 51) (v := ?_) (a' := ?_) #[true, true, false, true, false, true, true, false, true, false, false, false, false] rfl rfl (take_ofW HT_.out HW_.out (by kernel_rfl)) (fun _ _ _ h => h) (Or.inl ⟨by rfl, ?_⟩) hHeld ?_ ?_
     rotate_left
     ·rintro w' ⟨s0, s1, s2, s3⟩
      go_simp
      with_reducible rfl
     rotate_left
     ·simp only [Act.put, List.setIfInBounds_toArray, List.set_cons_zero, List.set_cons_succ, i64_w, i32_w]
      rfl
     refine one_ (i := 2) (N := some 47) #[true, true, true, true, false, true, true, false, true, false, false, false, false] rfl rfl (one_of HT_.out (by kernel_rfl)) (by decide) (fun K hK => ?_)
     refine goes_ Try.func57 (by kernel_rfl) rfl #[.int .i64 a0_1, .int .i64 1000000] (by rfl) rfl rfl (by (try simp only [List.map_toArray, List.map_cons, List.map_nil]); first | done | rfl | (simp only [List.length_drop, List.length_take]; rfl)) ?_
     with_reducible refine (interval_Floor.calls a0_1 1000000 t220 _ A28.out).mono ?_
     rintro e w' ⟨rfl, ⟨nd, rfl⟩⟩
     refine ⟨_, rfl, ?_⟩
     refine hK.out _ _ ⟨(blk_cell BK217.out 0).trans rfl, (blk_cell BK217.out 1).trans rfl, (blk_cell BK217.out 2).trans rfl, (blk_cell BK217.out 3).trans rfl⟩ (fun hHeld => ?_)
     clear hK K
     refine norm_ (a' := ?_) ?_ ?_
     rotate_left
     ·show Act.put _ (some 47) _ = _
      simp only [Act.put, List.setIfInBounds_toArray, List.set_cons_zero, List.set_cons_succ, i64_w, i32_w]
      rfl
     refine pure_ (i := 4) (N := some 49) (v := ?_) (a' := ?_) #[true, true, true, true, true, true, true, false, true, false, false, false, false] rfl rfl (any_of HT_.out (by kernel_rfl)) (fun _ _ _ h => h) (Or.inl ⟨by rfl, ?_⟩) ?_ ?_
     rotate_left
     ·intro w'
      go_simp
      with_reducible rfl
     rotate_left
     ·simp only [Act.put, List.setIfInBounds_toArray, List.set_cons_zero, List.set_cons_succ, i64_w, i32_w]
      rfl
     refine one_ (i := 7) (N := some 52) #[true, true, true, true, true, true, true, true, true, false, false, false, false] rfl rfl (one_of HT_.out (by kernel_rfl)) (by decide) (fun K hK => ?_)
     refine goes_ Try.func50 (by kernel_rfl) rfl #[.int .i64 a0_1, .int .i64 1000000] (by rfl) rfl rfl (by (try simp only [List.map_toArray, List.map_cons, List.map_nil]); first | done | rfl | (simp only [List.length_drop, List.length_take]; rfl)) ?_
     with_reducible refine (interval_Ceil.calls a0_1 1000000 t221 _ A29.out).mono ?_
     rintro e w' ⟨rfl, ⟨nd, rfl⟩⟩
     refine ⟨_, rfl, ?_⟩
     refine hK.out _ _ ⟨(blk_cell BK217.out 0).trans rfl, (blk_cell BK217.out 1).trans rfl, (blk_cell BK217.out 2).trans rfl, (blk_cell BK217.out 3).trans rfl⟩ (fun hHeld => ?_)
     clear hK K
     refine norm_ (a' := ?_) ?_ ?_
     rotate_left
     ·show Act.put _ (some 52) _ = _
      simp only [Act.put, List.setIfInBounds_toArray, List.set_cons_zero, List.set_cons_succ, i64_w, i32_w]
      rfl
     refine pure_ (i := 9) (N := some 54) (v := ?_) (a' := ?_) #[true, true, true, true, true, true, true, true, true, true, false, false, false] rfl rfl (any_of HT_.out (by kernel_rfl)) (fun _ _ _ h => h) (Or.inl ⟨by rfl, ?_⟩) ?_ ?_
     rotate_left
     ·intro w'
      go_simp
      with_reducible rfl
     rotate_left
     ·simp only [Act.put, List.setIfInBounds_toArray, List.set_cons_zero, List.set_cons_succ, i64_w, i32_w]
      rfl
     refine pure_ (i := 10) (N := some 55) (v := ?_) (a' := ?_) #[true, true, true, true, true, true, true, true, true, true, true, false, false] rfl rfl (any_of HT_.out (by kernel_rfl)) (fun _ _ _ h => h) (Or.inl ⟨by rfl, ?_⟩) ?_ ?_
     rotate_left
     ·intro w'
      go_simp
      with_reducible rfl
     rotate_left
     ·simp only [Act.put, List.setIfInBounds_toArray, List.set_cons_zero, List.set_cons_succ, i64_w, i32_w]
      rfl
     refine one_ (i := 11) (N := none) #[true, true, true, true, true, true, true, true, true, true, true, true, false] rfl rfl (one_of HT_.out (by kernel_rfl)) (by decide) (fun K hK => ?_)
     have hs31 : w30.cell? ⟨gb218, 0, none⟩ = some (.int .i64 0) := (blk_cell BK218.out 0).trans rfl
     have hfs31 := blk_frozen BK218.out 0
     have hns31_0 := NB217_218.out
     have hms31_0 := NB218_217.out
     have hs32 : w30.cell? ⟨gb218, 1, none⟩ = some (.int .i64 0) := (blk_cell BK218.out 1).trans rfl
     have hfs32 := blk_frozen BK218.out 1
     have hns32_0 := NB217_218.out
     have hms32_0 := NB218_217.out
     refine skip_ (w1 := ?_) (by rfl) rfl ?_ ?_
     rotate_left
     ·go_simp
      rfl
     refine hK.out _ _ ⟨((cell_far (p := ⟨gb218, _, none⟩) NB217_218.out _).trans (((cell_far (p := ⟨gb218, _, none⟩) NB217_218.out _).trans (hHeld.1)))), ((cell_far (p := ⟨gb218, _, none⟩) NB217_218.out _).trans (((cell_far (p := ⟨gb218, _, none⟩) NB217_218.out _).trans (hHeld.2.1)))), ((cell_far (p := ⟨gb218, _, none⟩) NB217_218.out _).trans (((cell_far (p := ⟨gb218, _, none⟩) NB217_218.out _).trans (hHeld.2.2.1)))), ((cell_far (p := ⟨gb218, _, none⟩) NB217_218.out _).trans (((cell_far (p := ⟨gb218, _, none⟩) NB217_218.out _).trans (hHeld.2.2.2))))⟩ (fun hHeld => ?_)
     clear hK K
     refine pure_ (i := 12) (N := some 3) (v := ?_) (a' := ?_) #[true, true, true, true, true, true, true, true, true, true, true, true, true] rfl rfl (any_of HT_.out (by kernel_rfl)) (fun _ _ _ h => h) (Or.inl ⟨by rfl, ?_⟩) ?_ ?_
     rotate_left
     ·intro w'
      go_simp
      with_reducible rfl
     rotate_left
     ·simp only [Act.put, List.setIfInBounds_toArray, List.set_cons_zero, List.set_cons_succ, i64_w, i32_w]
      rfl
     refine done_ (done_of HT_.out (by kernel_rfl)) ?_
     try go_wp2
     refine bodyPost_ret (results_ct rfl _ _ gb218 24 #[.int .i64 (wrap64 (t220 - x5_1)), .int .i64 (wrap64 (t221 + x5_1))] (0, 0) _ rfl (by (with_reducible repeat (first | refine blk_drewN ?_ _ | refine blk_drew ?_ | refine blk_alloc ?_ _)); refine blk_put (cs := #[.int .i64 (wrap64 (t220 - x5_1)), .int .i64 0]) ?_ 1 _ rfl; (with_reducible repeat (first | refine blk_drewN ?_ _ | refine blk_drew ?_ | refine blk_alloc ?_ _)); refine blk_put (cs := #[.int .i64 0, .int .i64 0]) ?_ 0 _ rfl; (with_reducible repeat (first | refine blk_drewN ?_ _ | refine blk_drew ?_ | refine blk_alloc ?_ _)); exact BK218.out) Try.underlying24 rfl (by kernel_rfl)) rfl ?_
     exact ⟨by first | rfl | (simp [errW_none, errW_some] <;> rfl) | (simp [*, errW_none, errW_some] <;> rfl), (be_ HB).out⟩
 ·rw [if_neg c3] at H
  have c3b0 : (t219 == 0) = false := beq_eq_false_iff_ne.mpr c3
  have c3b1 : (t219 != 0) = true := bne_iff_ne.mpr c3
  simp only [Option.some.injEq, Prod.mk.injEq] at H
  obtain ⟨rfl, rfl, rfl⟩ := H
  go_enter Try.func48, Try.ntmps48
  go_wp2_with (first | ((with_reducible refine gate_dst (N := 1) rfl ?_); refine box_event ?hg (N := 1) ?hd (cs := #[.int .i64 a0_0, .int .i64 a0_1, .slice A0_2 l0_2.length c0_2, .int .i64 a0_3]) (t := 57) ?hr ?_; (case hd => rfl); (case hg => rfl); (case hr => first | (go_simp; done) | (go_simp; rfl)); intro gb217 hg w33 hbox hb; have BK217 := Aside0.mk (hbox); have GW217 := ge_ hg HB; have GE217 := ge_ hg HB; replace HB := bs_ HB hb; clear hb hbox hg) | ((with_reducible refine gate_dst (N := 2) rfl ?_); refine box_event ?hg (N := 2) ?hd (cs := #[.int .i64 0, .int .i64 0]) (t := 24) ?hr ?_; (case hd => rfl); (case hg => rfl); (case hr => first | (go_simp; done) | (go_simp; rfl)); intro gb218 hg w34 hbox hb; have BK218 := Aside0.mk (hbox); have GW218 := ge_ hg HB; have GE218 := ge_ hg HB; have NB217_218 := nl_ hg BK217; have NB218_217 := ng_ hg BK217; replace BK217 := kb_ BK217 hb; replace HB := bs_ HB hb; clear hb hbox hg; have hnb35 := NB217_218.out; have hnc35 := NB218_217.out; have hcz36_0 : w34.cell? ⟨gb217, 0, none⟩ = some (.int .i64 a0_0) := (blk_cell BK217.out 0).trans rfl; have hcz36_1 : w34.cell? ⟨gb217, 1, none⟩ = some (.int .i64 a0_1) := (blk_cell BK217.out 1).trans rfl; have hcz36_2 : w34.cell? ⟨gb217, 2, none⟩ = some (.slice A0_2 l0_2.length c0_2) := (blk_cell BK217.out 2).trans rfl; have hcz36_3 : w34.cell? ⟨gb217, 3, none⟩ = some (.int .i64 a0_3) := (blk_cell BK217.out 3).trans rfl; have hfz36_0 := blk_frozen BK217.out 0; have hfz36_1 := blk_frozen BK217.out 1; have hfz36_2 := blk_frozen BK217.out 2; have hfz36_3 := blk_frozen BK217.out 3) | ((with_reducible refine gate_callee (f := 70) rfl ?_); refine goesL_ (some 11) rfl rfl Try.func70 (by kernel_rfl) rfl #[.agg #[.int .i64 a0_0, .int .i64 a0_1, .slice A0_2 l0_2.length c0_2, .int .i64 a0_3]] rfl (by (try simp only [List.map_toArray, List.map_cons, List.map_nil]); first | done | rfl | (simp only [List.length_drop, List.length_take]; rfl)) ?_; (with_reducible refine (series_Check.calls k a0_0 a0_1 _ _ l0_2 a0_3 t219 _ ?side1 ?side2 A2.out).mono ?_); (case side1 => repeat (first | exact (Kd.C_below HR0_2.out HB.out) | (with_reducible refine Kd.C_alloc ?_ _) | (with_reducible refine Kd.C_drewN ?_ _) | (with_reducible refine Kd.C_drew ?_))); (case side2 => exact HC0_2.out); rintro e w37 ⟨rfl, hb⟩; refine ⟨_, rfl, ?_⟩; replace BK217 := kb_ BK217 hb; replace BK218 := kb_ BK218 hb; replace HB := bs_ HB hb; (try clear hb); (try clear hb2); (try clear hk); (try clear hi); have hcz38_0 : w37.cell? ⟨gb218, 0, none⟩ = some (.int .i64 0) := (blk_cell BK218.out 0).trans rfl; have hcz38_1 : w37.cell? ⟨gb218, 1, none⟩ = some (.int .i64 0) := (blk_cell BK218.out 1).trans rfl; have hfz38_0 := blk_frozen BK218.out 0; have hfz38_1 := blk_frozen BK218.out 1))
  refine bodyPost_ret (results_ct rfl _ _ gb218 24 #[.int .i64 0, .int .i64 0] (0, 0) _ rfl (by (with_reducible repeat (first | refine blk_drewN ?_ _ | refine blk_drew ?_ | refine blk_alloc ?_ _)); refine blk_put (cs := #[.int .i64 0, .int .i64 0]) ?_ 1 _ rfl; (with_reducible repeat (first | refine blk_drewN ?_ _ | refine blk_drew ?_ | refine blk_alloc ?_ _)); refine blk_put (cs := #[.int .i64 0, .int .i64 0]) ?_ 0 _ rfl; (with_reducible repeat (first | refine blk_drewN ?_ _ | refine blk_drew ?_ | refine blk_alloc ?_ _)); exact BK218.out) Try.underlying24 rfl (by kernel_rfl)) rfl ?_
  exact ⟨by first | rfl | (simp [errW_none, errW_some] <;> rfl) | (simp [*, errW_none, errW_some] <;> rfl), (be_ HB).out⟩
end Go.Proofs.Ytmahlfjnejbcnaa.PAll
end
section
namespace Go.Proofs.Ytmahlfjnejbcnaa.PAll
open Go Go.RowKit YtmahlfjnejbcnaaW.PrintWords Sx Go.Proofs.Ytmahlfjnejbcnaa
def series_Cross.f (k : Nat) (a0_0 : Int) (a0_1 : Int) (l0_2 : List S71) (a0_3 : Int) (a1 : Int) (a2_0 : Int) (a2_1 : Int) (a3 : Int) : Option (Int × Int × Int) :=
  ob (series_Check.f k a0_0 a0_1 l0_2 a0_3) fun t1 =>
  oif ((t1 != 0) = true) (
   some (0, 0, t1)) (
   ob (series_Valid.f a2_0) fun t2 =>
   oif ((!t2) = true) (
    some (0, 0, 3)) (
    ob (series_Valid.f a2_1) fun t3 =>
    oif ((!t3) = true) (
     some (0, 0, 3)) (
     oif (decide (a1 < 0) = true) (
      some (0, 0, 1)) (
      oif (decide (a1 ≥ 1000000000) = true) (
       some (0, 0, 1)) (
       oif (decide (a3 < 1) = true) (
        some (0, 0, 1)) (
        oif (decide (a2_0 > a2_1) = true) (
         some (0, 0, 1)) (
         ob (series_Slope.f k a0_0 a0_1 l0_2 a0_3) fun t4 =>
         oif (decide (t4.fst ≤ 0) = true) (
          some (0, 0, 8)) (
          ob (series_Angle.f k a0_0 a0_1 l0_2 a0_3 a2_0) fun t5 =>
          ob (series_After.f k t5.fst t5.snd.fst a1) fun t6 =>
          oif (decide (t6 ≥ 0) = true) (
           some (0, 0, 6)) (
           ob (series_Angle.f k a0_0 a0_1 l0_2 a0_3 a2_1) fun t7 =>
           ob (series_After.f k t7.fst t7.snd.fst a1) fun t8 =>
           oif (decide (t8 ≤ 0) = true) (
            some (0, 0, 6)) (
            ob (Nar84.f (fun p9 =>
               ob (series_Angle.f k a0_0 a0_1 l0_2 a0_3 p9) fun t10 =>
               ob (series_After.f k t10.fst t10.snd.fst a1) fun t11 =>
               some (t11)) k a2_0 a2_1 a3) fun t10 =>
            some (t10.fst, t10.snd.fst, t10.snd.snd)))))))))))
theorem series_Cross.mono : ∀ a0_0 a0_1 l0_2 a0_3 a1 a2_0 a2_1 a3 k, LeO (series_Cross.f k a0_0 a0_1 l0_2 a0_3 a1 a2_0 a2_1 a3) (series_Cross.f (k + 1) a0_0 a0_1 l0_2 a0_3 a1 a2_0 a2_1 a3) := by
  intro a0_0 a0_1 l0_2 a0_3 a1 a2_0 a2_1 a3 k
  unfold series_Cross.f
  try simp only [ob_eq, oif_eq]
  repeat' first
    | (with_reducible refine Nar84.mono (fun _ => ?_) _ _ _ _)
    | (with_reducible exact series_After.mono _ _ _ _)
    | (with_reducible exact series_Slope.mono _ _ _ _ _)
    | (with_reducible exact series_Angle.mono _ _ _ _ _ _)
    | (with_reducible exact series_Check.mono _ _ _ _ _)
    | (with_reducible exact LeO.refl _)
    | (with_reducible exact LeO.none _)
    | (with_reducible refine LeO.ite ?_ ?_)
    | (with_reducible refine LeO.bind ?_ (fun _ => ?_))
def series_Cross.OQ {R : Type} (k : Nat) (L0 : List S71) : OraQ R := fun g args K => match g with
  | 38 => (match args with | [.agg ⟨[.int .i64 a0_0, .int .i64 a0_1]⟩, .int .i64 a1] => (series_After.f k a0_0 a0_1 a1).bind fun q => K (.int .i64 q) | _ => none)
  | 48 => (match args with | [.agg ⟨[.int .i64 a0_0, .int .i64 a0_1, .chan (some 1), .int .i64 a0_3]⟩] => (series_Slope.f k a0_0 a0_1 L0 a0_3).bind fun q => K (.tuple ⟨[.agg ⟨[.int .i64 q.1, .int .i64 q.2.1]⟩, .int .i64 q.2.2]⟩) | _ => none)
  | 58 => (match args with | [.int .i64 a0] => (series_Valid.f a0).bind fun q => K (.bool q) | _ => none)
  | 66 => (match args with | [.agg ⟨[.int .i64 a0_0, .int .i64 a0_1, .chan (some 1), .int .i64 a0_3]⟩, .int .i64 a1] => (series_Angle.f k a0_0 a0_1 L0 a0_3 a1).bind fun q => K (.tuple ⟨[.agg ⟨[.int .i64 q.1, .int .i64 q.2.1]⟩, .int .i64 q.2.2]⟩) | _ => none)
  | 70 => (match args with | [.agg ⟨[.int .i64 a0_0, .int .i64 a0_1, .chan (some 1), .int .i64 a0_3]⟩] => (series_Check.f k a0_0 a0_1 L0 a0_3).bind fun q => K (.int .i64 q) | _ => none)
  | _ => none
theorem series_Cross.OQ_ok (k : Nat) (A0 : Option Addr) (c0 : Nat) (L0 : List S71) (hc0 : L0.length ≤ c0) (Φ : World → Prop) (base : Nat) (hΦ : ∀ w, Φ w → Kd.C k71 w A0 L0.length L0) {R : Type} : OraQOk Try.prog (fun _ => .slice A0 L0.length c0) Φ base (series_Cross.OQ (R := R) k L0) := by
  intro g args K r h
  unfold series_Cross.OQ at h
  split at h
  · split at h
    · obtain ⟨q, hq, h⟩ := Option.bind_eq_some_iff.mp h
      exact ⟨_, h, callQ_of rfl rfl fun w => (series_After.calls k _ _ _ _ w hq).mono fun e w' he => ⟨he.1, he.2⟩⟩
    · cases h
  · split at h
    · obtain ⟨q, hq, h⟩ := Option.bind_eq_some_iff.mp h
      exact ⟨_, h, callQ_ofS rfl rfl fun w hw => (series_Slope.calls k _ _ _ _ _ _ _ _ _ w (hΦ w hw) hc0 hq).mono fun e w' he => ⟨he.1, he.2⟩⟩
    · cases h
  · split at h
    · obtain ⟨q, hq, h⟩ := Option.bind_eq_some_iff.mp h
      exact ⟨_, h, callQ_of rfl rfl fun w => (series_Valid.calls _ _ w hq).mono fun e w' he => ⟨he.1, he.2.below⟩⟩
    · cases h
  · split at h
    · obtain ⟨q, hq, h⟩ := Option.bind_eq_some_iff.mp h
      exact ⟨_, h, callQ_ofS rfl rfl fun w hw => (series_Angle.calls k _ _ _ _ _ _ _ _ _ _ w (hΦ w hw) hc0 hq).mono fun e w' he => ⟨he.1, he.2⟩⟩
    · cases h
  · split at h
    · obtain ⟨q, hq, h⟩ := Option.bind_eq_some_iff.mp h
      exact ⟨_, h, callQ_ofS rfl rfl fun w hw => (series_Check.calls k _ _ _ _ _ _ _ w (hΦ w hw) hc0 hq).mono fun e w' he => ⟨he.1, he.2⟩⟩
    · cases h
  · cases h
def series_Cross.F (v : Value) (_ : Mem) : Option (Int × Int × Int) := match v with | .tuple ⟨[.agg ⟨[.int .i64 r1, .int .i64 r2]⟩, .int .i64 r3]⟩ => some (r1, r2, r3) | _ => none
theorem series_Cross.run (k : Nat) (a0_0 : Int) (a0_1 : Int) (l0_2 : List S71) (a0_3 : Int) (a1 : Int) (a2_0 : Int) (a2_1 : Int) (a3 : Int) : runM Try.prog (inl Try.prog 84 Try.f84 (Try.f84.body.getD .skip) 5000 (liftQ (series_Cross.OQ k l0_2)) (drawQ Try.prog (series_Cross.OQ k l0_2)) (narO Try.prog 35 84 2 Try.f84 (Try.f84.body.getD .skip) 3000 (series_Cross.OQ k l0_2) (fun s a b wd => Nar84.f s k a b wd) (liftQ (series_Cross.OQ k l0_2)))) (drawO Try.prog (series_Cross.OQ k l0_2) (inl Try.prog 84 Try.f84 (Try.f84.body.getD .skip) 5000 (liftQ (series_Cross.OQ k l0_2)) (drawQ Try.prog (series_Cross.OQ k l0_2)) (narO Try.prog 35 84 2 Try.f84 (Try.f84.body.getD .skip) 3000 (series_Cross.OQ k l0_2) (fun s a b wd => Nar84.f s k a b wd) (liftQ (series_Cross.OQ k l0_2))))) (fun _ => none) (atEnd Try.prog Try.f63 series_Cross.F) 5000 [.code (Try.f63.body.getD .skip)] ([.agg ⟨[.int .i64 a0_0, .int .i64 a0_1, .chan (some 1), .int .i64 a0_3]⟩, .int .i64 a1, .agg ⟨[.int .i64 a2_0, .int .i64 a2_1]⟩, .int .i64 a3] ++ List.replicate (Try.f63.ntmps - ([.agg ⟨[.int .i64 a0_0, .int .i64 a0_1, .chan (some 1), .int .i64 a0_3]⟩, .int .i64 a1, .agg ⟨[.int .i64 a2_0, .int .i64 a2_1]⟩, .int .i64 a3] : List Value).length) undef) [] = series_Cross.f k a0_0 a0_1 l0_2 a0_3 a1 a2_0 a2_1 a3 := by kernel_rfl
theorem series_Cross.calls (k : Nat) (a0_0 : Int) (a0_1 : Int) (A0_2 : Option Addr) (c0_2 : Nat) (l0_2 : List S71) (a0_3 : Int) (a1 : Int) (a2_0 : Int) (a2_1 : Int) (a3 : Int) (r1 : Int) (r2 : Int) (r3 : Int) (w : World) (hr : Kd.C k71 w A0_2 l0_2.length l0_2) (hc : l0_2.length ≤ c0_2) (h : series_Cross.f k a0_0 a0_1 l0_2 a0_3 a1 a2_0 a2_1 a3 = some (r1, r2, r3)) :
    Calls Try.prog 63 #[.agg #[.int .i64 a0_0, .int .i64 a0_1, .slice A0_2 l0_2.length c0_2, .int .i64 a0_3], .int .i64 a1, .agg #[.int .i64 a2_0, .int .i64 a2_1], .int .i64 a3] w fun e w' => e = .returned (.tuple #[.agg #[.int .i64 r1, .int .i64 r2], .int .i64 r3]) ∧ Below w.heap.size w w' := by
  have hs : Stable (fun w' => Below w.heap.size w w') w.heap.size := fun w1 w2 h1 h2 => h1.trans h2
  have hq : ∀ {R : Type}, OraQOk Try.prog (fun _ => .slice A0_2 l0_2.length c0_2) (fun w' => Below w.heap.size w w') w.heap.size (series_Cross.OQ (R := R) k l0_2) := fun {R} => series_Cross.OQ_ok k A0_2 c0_2 l0_2 hc (fun w' => Below w.heap.size w w') w.heap.size (fun w' hb => Kd.C_below hr hb)
  have ho : OraOk Try.prog (fun _ => .slice A0_2 l0_2.length c0_2) (fun w' => Below w.heap.size w w') w.heap.size (inl Try.prog 84 Try.f84 (Try.f84.body.getD .skip) 5000 (liftQ (series_Cross.OQ (R := Int × Int × Int) k l0_2)) (drawQ Try.prog (series_Cross.OQ (R := Int × Int × Int) k l0_2)) (narO Try.prog 35 84 2 Try.f84 (Try.f84.body.getD .skip) 3000 (series_Cross.OQ k l0_2) (fun s a b wd => Nar84.f s k a b wd) (liftQ (series_Cross.OQ (R := Int × Int × Int) k l0_2)))) := (inl_ok hs (hq.lift hs) (drawQ_ok (Checked.mixed Try.checked) hs hq) (narO_ok (Ψ := fun w => Kd.C k71 w A0_2 l0_2.length l0_2) (fun w w' h hb => Kd.C_below h hb) (fun w' hb => Kd.C_below hr hb) (Checked.mixed Try.checked) hs (fun Φ base _ hΦ => series_Cross.OQ_ok k A0_2 c0_2 l0_2 hc Φ base hΦ) (hq.lift hs) Try.func84 rfl (fun {s a b wd x y z caps w} hl hc hf => by
      obtain ⟨c0, c1, rfl⟩ := len_two hl
      exact Nar84.calls hc hf)) Try.func84 rfl)
  refine calls_openO ho (drawO_ok (Checked.mixed Try.checked) hs hq ho) Try.func63 rfl (F := series_Cross.F) (r := (r1, r2, r3)) (args := [.agg ⟨[.int .i64 a0_0, .int .i64 a0_1, .chan (some 1), .int .i64 a0_3]⟩, .int .i64 a1, .agg ⟨[.int .i64 a2_0, .int .i64 a2_1]⟩, .int .i64 a3]) rfl (fun u m hu => ?_) rfl (((series_Cross.run k a0_0 a0_1 l0_2 a0_3 a1 a2_0 a2_1 a3).trans h))
  unfold series_Cross.F at hu
  split at hu
  · cases hu; rfl
  · cases hu
end Go.Proofs.Ytmahlfjnejbcnaa.PAll
end
section
namespace Go.Proofs.Ytmahlfjnejbcnaa.PAll
open Go.RowKit YtmahlfjnejbcnaaW.PrintWords YtmahlfjnejbcnaaW.PrintLast YtmahlfjnejbcnaaW.PrintMore More2 Sq
attribute [local go_sem] max2_int min2_int max_two min_two max_three min_three max_four min_four tdiv2e18_ tdiv1e18_ cellSS_  -- for this text's walks alone
mutual
def season_Next.j0 : Nat → Int → Int → Bool → Option (Int × Int × Int)
 | 0, _, _, _ => none
 | k + 1, x0, x1, x16 => if x16 = true then (some (0, 0, 1)) else ((series_Valid.f (wrap64 (x1 - 1728000000))).bind fun t231 => (if t231 = true then ((series_Valid.f (wrap64 (x1 + 34560000000))).bind fun t232 => (season_Next.j1 k x0 x1 (!t232))) else (season_Next.j1 k x0 x1 true)))
def season_Next.j1 : Nat → Int → Int → Bool → Option (Int × Int × Int)
 | 0, _, _, _ => none
 | k + 1, x0, x1, x27 => if x27 = true then (some (0, 0, 3)) else ((sun_Longitude.f k x1).bind fun bt233 => (season_Next.l0 k x0 x1 bt233.1 bt233.2.1))
def season_Next.l0 : Nat → Int → Int → Int → Int → Option (Int × Int × Int)
 | 0, _, _, _, _ => none
 | k + 1, x0, x1, x237000, x237001 => if x0 < x237000 then (season_Next.l0 k (wrap64 (x0 + 1000000000)) x1 x237000 x237001) else (if x0 ≤ x237001 then (some (0, 0, 11)) else ((sun_Series.f).bind fun bt238 => ((series_Cross.f k bt238.1 bt238.2.1 bt238.2.2.1 bt238.2.2.2 (Int.tmod x0 1000000000) (mx x1 (wrap64 ((wrap64 (x1 + (wrap64 ((wrap64 (Int.tdiv (wrap64 ((wrap64 (x0 - x237000)) * 1000)) 2737909)) * 86400)))) - 864000000))) (wrap64 ((wrap64 (x1 + (wrap64 ((wrap64 (Int.tdiv (wrap64 ((wrap64 (x0 - x237000)) * 1000)) 2737909)) * 86400)))) + 864000000)) 600000).bind fun bt244 => (some (bt244.1, bt244.2.1, bt244.2.2)))))
end
def season_Next.f (k : Nat) (a0 : Int) (a1 : Int) : Option (Int × Int × Int) := if a0 < 0 then (season_Next.j0 k a0 a1 true) else (season_Next.j0 k a0 a1 (decide (a0 ≥ 1000000000)))
theorem season_Next.mono_l : ∀ k, (∀ y0 y1 y2, LeO (season_Next.j0 k y0 y1 y2) (season_Next.j0 (k + 1) y0 y1 y2)) ∧ (∀ y0 y1 y2, LeO (season_Next.j1 k y0 y1 y2) (season_Next.j1 (k + 1) y0 y1 y2)) ∧ (∀ y0 y1 y2 y3, LeO (season_Next.l0 k y0 y1 y2 y3) (season_Next.l0 (k + 1) y0 y1 y2 y3))
 | 0 => ⟨fun _ _ _ r h => by simp [season_Next.j0] at h, fun _ _ _ r h => by simp [season_Next.j1] at h, fun _ _ _ _ r h => by simp [season_Next.l0] at h⟩
 | k + 1 => by
  obtain ⟨ih0, ih1, ih2⟩ := season_Next.mono_l k
  refine ⟨?_, ?_, ?_⟩
  ·intro y0 y1 y2
   unfold season_Next.j0
   repeat' first
   | (with_reducible exact ih0 _ _ _)
   | (with_reducible exact ih1 _ _ _)
   | (with_reducible exact ih2 _ _ _ _)
   | (with_reducible exact series_Cross.mono _ _ _ _ _ _ _ _ _)
   | (with_reducible exact sun_Longitude.mono _ _)
   | (with_reducible exact LeO.refl _)
   | (with_reducible exact LeO.none _)
   | (with_reducible refine LeO.ite ?_ ?_)
   | (with_reducible refine LeO.bind ?_ (fun _ => ?_))
   | exact ih0 _ _ _
   | exact ih1 _ _ _
   | exact ih2 _ _ _ _
   | exact series_Cross.mono _ _ _ _ _ _ _ _ _
   | exact sun_Longitude.mono _ _
   | exact LeO.none _
   | refine LeO.ite ?_ ?_
   | refine LeO.bind ?_ (fun _ => ?_)
  ·intro y0 y1 y2
   unfold season_Next.j1
   repeat' first
   | (with_reducible exact ih0 _ _ _)
   | (with_reducible exact ih1 _ _ _)
   | (with_reducible exact ih2 _ _ _ _)
   | (with_reducible exact series_Cross.mono _ _ _ _ _ _ _ _ _)
   | (with_reducible exact sun_Longitude.mono _ _)
   | (with_reducible exact LeO.refl _)
   | (with_reducible exact LeO.none _)
   | (with_reducible refine LeO.ite ?_ ?_)
   | (with_reducible refine LeO.bind ?_ (fun _ => ?_))
   | exact ih0 _ _ _
   | exact ih1 _ _ _
   | exact ih2 _ _ _ _
   | exact series_Cross.mono _ _ _ _ _ _ _ _ _
   | exact sun_Longitude.mono _ _
   | exact LeO.none _
   | refine LeO.ite ?_ ?_
   | refine LeO.bind ?_ (fun _ => ?_)
  ·intro y0 y1 y2 y3
   unfold season_Next.l0
   repeat' first
   | (with_reducible exact ih0 _ _ _)
   | (with_reducible exact ih1 _ _ _)
   | (with_reducible exact ih2 _ _ _ _)
   | (with_reducible exact series_Cross.mono _ _ _ _ _ _ _ _ _)
   | (with_reducible exact sun_Longitude.mono _ _)
   | (with_reducible exact LeO.refl _)
   | (with_reducible exact LeO.none _)
   | (with_reducible refine LeO.ite ?_ ?_)
   | (with_reducible refine LeO.bind ?_ (fun _ => ?_))
   | exact ih0 _ _ _
   | exact ih1 _ _ _
   | exact ih2 _ _ _ _
   | exact series_Cross.mono _ _ _ _ _ _ _ _ _
   | exact sun_Longitude.mono _ _
   | exact LeO.none _
   | refine LeO.ite ?_ ?_
   | refine LeO.bind ?_ (fun _ => ?_)
theorem season_Next.mono : ∀ a0 a1 k, LeO (season_Next.f k a0 a1) (season_Next.f (k + 1) a0 a1) := by
 intro a0 a1 k
 obtain ⟨ih0, ih1, ih2⟩ := season_Next.mono_l k
 unfold season_Next.f
 repeat' first
   | (with_reducible exact ih0 _ _ _)
   | (with_reducible exact ih1 _ _ _)
   | (with_reducible exact ih2 _ _ _ _)
   | (with_reducible exact series_Cross.mono _ _ _ _ _ _ _ _ _)
   | (with_reducible exact sun_Longitude.mono _ _)
   | (with_reducible exact LeO.refl _)
   | (with_reducible exact LeO.none _)
   | (with_reducible refine LeO.ite ?_ ?_)
   | (with_reducible refine LeO.bind ?_ (fun _ => ?_))
   | exact ih0 _ _ _
   | exact ih1 _ _ _
   | exact ih2 _ _ _ _
   | exact series_Cross.mono _ _ _ _ _ _ _ _ _
   | exact sun_Longitude.mono _ _
   | exact LeO.none _
   | refine LeO.ite ?_ ?_
   | refine LeO.bind ?_ (fun _ => ?_)
def season_Next.T13 : Bool × List (List Nat × List Nat) := (true, [([], []), ([], []), ([1], [1]), ([], []), ([0, 2, 3, 0], [0, 2, 3]), ([4], [4]), ([4], [4]), ([5, 4, 0, 1, 2, 3, 4, 5, 6], [5]), ([6, 7, 0, 1, 2, 3, 4, 5, 6, 7], [6])])
def season_Next.B13 : List Nat := [0, 0, 2, 0, 15, 31, 31, 127, 255]
theorem season_Next.tab13 : rtab .any (opsOf Try.f31 13) = season_Next.T13 := by kernel_rfl
theorem season_Next.bits13 : waitsOk season_Next.T13.2 season_Next.B13 = true := by kernel_rfl
theorem season_Next.calls (k : Nat) (a0 : Int) (a1 : Int) (r1 : Int) (r2 : Int) (r3 : Int) (w : World) (h : season_Next.f k a0 a1 = some (r1, r2, r3)) :
  Calls Try.prog 31 #[.int .i64 a0, .int .i64 a1] w fun e w' => e = .returned (.tuple #[.agg #[.int .i64 r1, .int .i64 r2], .int .i64 r3]) ∧ Below w.heap.size w w' := by
 have hu24 := Try.underlying24
 have HB := Aside0.mk (Below.refl w.heap.size w)
 have H : (if a0 < 0 then (season_Next.j0 k a0 a1 true) else (season_Next.j0 k a0 a1 (decide (a0 ≥ 1000000000)))) = some (r1, r2, r3) := h
 clear h
 have HC3 := Aside0.mk H
 clear H
 go_enter Try.func31, Try.ntmps31
 go_upto_region 1 with (first | ((with_reducible refine gate_dst (N := 4) rfl ?_); refine box_event ?hg (N := 4) ?hd (cs := #[.int .i64 0, .int .i64 0]) (t := 24) ?hr ?_; (case hd => rfl); (case hg => rfl); (case hr => first | (go_simp; done) | (go_simp; rfl)); intro gb230 hg w4 hbox hb; have BK230 := Aside0.mk (hbox); have GW230 := ge_ hg HB; have GE230 := ge_ hg HB; replace HB := bs_ HB hb; clear hb hbox hg))
 (try simp only [Act.put, List.setIfInBounds_toArray, List.set_cons_zero, List.set_cons_succ])
 go_cut [16] (fun v16 wc => ∃ (kq : Nat) (x16_2 : Bool), v16 = .bool x16_2 ∧ Aside0 (season_Next.j0 kq a0 a1 x16_2 = some (r1, r2, r3)) ∧ Aside0 (kq ≤ k) ∧ Aside0 (wc.heap[gb230]? = some (.cells #[.int .i64 0, .int .i64 0] 24 (0, 0))) ∧ Aside0 (Below w.heap.size w wc))
 case first =>
  have H := HC3.out
  clear HC3
  by_cases c5 : a0 < 0
  ·rw [if_pos c5] at H
   have c5b0 : decide (a0 < 0) = true := decide_eq_true c5
   clear c5
   (first | rw [c5b0] | (simp only [i64_w, i32_w]; rw [c5b0]) | skip)
   have H' := Aside0.mk H
   clear H
   go_wp2
   go_meet
   case rel => exact ⟨_, (true), (by first | rfl | (simp; done) | (simp [*]; done)), H', ⟨by first | omega | exact Nat.le_refl _⟩, ⟨kk_ BK230⟩, (be_ HB)⟩
  ·rw [if_neg c5] at H
   have c5b0 : decide (a0 < 0) = false := decide_eq_false c5
   clear c5
   (first | rw [c5b0] | (simp only [i64_w, i32_w]; rw [c5b0]) | skip)
   have H' := Aside0.mk H
   clear H
   go_wp2
   go_meet
   case rel => exact ⟨_, (decide (a0 ≥ 1000000000)), (by first | rfl | (simp; done) | (simp [*]; done)), H', ⟨by first | omega | exact Nat.le_refl _⟩, ⟨kk_ BK230⟩, (be_ HB)⟩
 case rest =>
  clear HC3
  try clear p2
  try clear c3
  try clear c5
  try clear c5b0
  obtain ⟨kq, x16_2, rfl, HA, HJ2, BK230, HB⟩ := hcut
  cases kq with
  | zero => exact absurd HA.out (by simp [season_Next.j0])
  | succ kj2 =>
   have H := HA.out
   clear HA
   simp only [season_Next.j0] at H
   by_cases c6 : x16_2 = true
   ·subst c6
    have H1 : (some (0, 0, 1)) = some (r1, r2, r3) := by rw [if_pos rfl] at H; exact H
    clear H
    have H := H1
    clear H1
    simp only [Option.some.injEq, Prod.mk.injEq] at H
    obtain ⟨rfl, rfl, rfl⟩ := H
    have hcz7_0 : wc.cell? ⟨gb230, 0, none⟩ = some (.int .i64 0) := (blk_cell BK230.out 0).trans rfl
    have hcz7_1 : wc.cell? ⟨gb230, 1, none⟩ = some (.int .i64 0) := (blk_cell BK230.out 1).trans rfl
    have hfz7_0 := blk_frozen BK230.out 0
    have hfz7_1 := blk_frozen BK230.out 1
    go_wp2
    refine bodyPost_ret (results_ct rfl _ _ gb230 24 #[.int .i64 0, .int .i64 0] (0, 0) _ rfl (by (with_reducible repeat (first | refine blk_drewN ?_ _ | refine blk_drew ?_ | refine blk_alloc ?_ _)); refine blk_put (cs := #[.int .i64 0, .int .i64 0]) ?_ 1 _ rfl; (with_reducible repeat (first | refine blk_drewN ?_ _ | refine blk_drew ?_ | refine blk_alloc ?_ _)); refine blk_put (cs := #[.int .i64 0, .int .i64 0]) ?_ 0 _ rfl; (with_reducible repeat (first | refine blk_drewN ?_ _ | refine blk_drew ?_ | refine blk_alloc ?_ _)); exact BK230.out) Try.underlying24 rfl (by kernel_rfl)) rfl ?_
    exact ⟨by first | rfl | (simp [errW_none, errW_some] <;> rfl) | (simp [*, errW_none, errW_some] <;> rfl), (be_ HB).out⟩
   ·replace c6 := Bool.eq_false_iff.mpr c6
    subst c6
    have H1 : ((series_Valid.f (wrap64 (a1 - 1728000000))).bind fun t231 => (if t231 = true then ((series_Valid.f (wrap64 (a1 + 34560000000))).bind fun t232 => (season_Next.j1 kj2 a0 a1 (!t232))) else (season_Next.j1 kj2 a0 a1 true))) = some (r1, r2, r3) := by rw [if_neg (show ¬ (false = true) by decide)] at H; exact H
    clear H
    have H := H1
    clear H1
    have HC8 := Aside0.mk H
    clear H
    go_upto_region 3 with (fail)
    go_cut [27] (fun v27 wc => ∃ (kq : Nat) (x27_7 : Bool), v27 = .bool x27_7 ∧ Aside0 (season_Next.j1 kq a0 a1 x27_7 = some (r1, r2, r3)) ∧ Aside0 (kq ≤ kj2) ∧ Aside0 (wc.heap[gb230]? = some (.cells #[.int .i64 0, .int .i64 0] 24 (0, 0))) ∧ Aside0 (Below w.heap.size w wc))
    case first =>
     have H := HC8.out
     clear HC8
     replace H := Option.bind_eq_some_iff.mp H
     obtain ⟨t231, A90, H⟩ := H
     replace H : (if t231 = true then ((series_Valid.f (wrap64 (a1 + 34560000000))).bind fun t232 => (season_Next.j1 kj2 a0 a1 (!t232))) else (season_Next.j1 kj2 a0 a1 true)) = some (r1, r2, r3) := H
     have A9 := Aside0.mk A90
     clear A90
     by_cases c10 : t231 = true
     ·subst c10
      have H1 : ((series_Valid.f (wrap64 (a1 + 34560000000))).bind fun t232 => (season_Next.j1 kj2 a0 a1 (!t232))) = some (r1, r2, r3) := by rw [if_pos rfl] at H; exact H
      clear H
      have H := H1
      clear H1
      replace H := Option.bind_eq_some_iff.mp H
      obtain ⟨t232, A110, H⟩ := H
      replace H : (season_Next.j1 kj2 a0 a1 (!t232)) = some (r1, r2, r3) := H
      have A11 := Aside0.mk A110
      clear A110
      have H' := Aside0.mk H
      clear H
      go_wp2_with (first | ((with_reducible refine gate_callee (f := 58) rfl ?_); refine goesL_ (some 20) rfl rfl Try.func58 (by kernel_rfl) rfl #[.int .i64 (wrap64 (a1 - 1728000000))] rfl (by (try simp only [List.map_toArray, List.map_cons, List.map_nil]); first | done | rfl | (simp only [List.length_drop, List.length_take]; rfl)) ?_; (with_reducible refine (series_Valid.calls (wrap64 (a1 - 1728000000)) true _ A9.out).mono ?_); rintro e w' ⟨rfl, ⟨nd, rfl⟩⟩; refine ⟨_, rfl, ?_⟩) | (go_at_call 58; (with_reducible refine (series_Valid.calls (wrap64 (a1 + 34560000000)) t232 _ A11.out).mono ?_); rintro e w' ⟨rfl, ⟨nd, rfl⟩⟩))
      go_meet
      case rel => exact ⟨_, (!t232), (by first | rfl | (simp; done) | (simp [*]; done)), H', ⟨by have := HJ2.out; first | omega | exact Nat.le_refl _⟩, ⟨kk_ BK230⟩, (be_ HB)⟩
     ·replace c10 := Bool.eq_false_iff.mpr c10
      subst c10
      have H1 : (season_Next.j1 kj2 a0 a1 true) = some (r1, r2, r3) := by rw [if_neg (show ¬ (false = true) by decide)] at H; exact H
      clear H
      have H := H1
      clear H1
      have H' := Aside0.mk H
      clear H
      go_wp2_with (first | ((with_reducible refine gate_callee (f := 58) rfl ?_); refine goesL_ (some 20) rfl rfl Try.func58 (by kernel_rfl) rfl #[.int .i64 (wrap64 (a1 - 1728000000))] rfl (by (try simp only [List.map_toArray, List.map_cons, List.map_nil]); first | done | rfl | (simp only [List.length_drop, List.length_take]; rfl)) ?_; (with_reducible refine (series_Valid.calls (wrap64 (a1 - 1728000000)) false _ A9.out).mono ?_); rintro e w' ⟨rfl, ⟨nd, rfl⟩⟩; refine ⟨_, rfl, ?_⟩))
      go_meet
      case rel => exact ⟨_, (true), (by first | rfl | (simp; done) | (simp [*]; done)), H', ⟨by have := HJ2.out; first | omega | exact Nat.le_refl _⟩, ⟨kk_ BK230⟩, (be_ HB)⟩
    case rest =>
     clear HC8
     try clear c1
     try clear p2
     try clear c3
     try clear c5
     try clear c5b0
     try clear c6
     try clear p6
     try clear c10
     try clear hcz7_0
     try clear hcz7_1
     try clear hfz7_0
     try clear hfz7_1
     try clear p2
     obtain ⟨kq, x27_7, rfl, HA, HJ7, BK230, HB⟩ := hcut
     cases kq with
     | zero => exact absurd HA.out (by simp [season_Next.j1])
     | succ kj7 =>
      have H := HA.out
      clear HA
      simp only [season_Next.j1] at H
      by_cases c12 : x27_7 = true
      ·subst c12
       have H1 : (some (0, 0, 3)) = some (r1, r2, r3) := by rw [if_pos rfl] at H; exact H
       clear H
       have H := H1
       clear H1
       simp only [Option.some.injEq, Prod.mk.injEq] at H
       obtain ⟨rfl, rfl, rfl⟩ := H
       have hcz13_0 : wc.cell? ⟨gb230, 0, none⟩ = some (.int .i64 0) := (blk_cell BK230.out 0).trans rfl
       have hcz13_1 : wc.cell? ⟨gb230, 1, none⟩ = some (.int .i64 0) := (blk_cell BK230.out 1).trans rfl
       have hfz13_0 := blk_frozen BK230.out 0
       have hfz13_1 := blk_frozen BK230.out 1
       go_wp2
       refine bodyPost_ret (results_ct rfl _ _ gb230 24 #[.int .i64 0, .int .i64 0] (0, 0) _ rfl (by (with_reducible repeat (first | refine blk_drewN ?_ _ | refine blk_drew ?_ | refine blk_alloc ?_ _)); refine blk_put (cs := #[.int .i64 0, .int .i64 0]) ?_ 1 _ rfl; (with_reducible repeat (first | refine blk_drewN ?_ _ | refine blk_drew ?_ | refine blk_alloc ?_ _)); refine blk_put (cs := #[.int .i64 0, .int .i64 0]) ?_ 0 _ rfl; (with_reducible repeat (first | refine blk_drewN ?_ _ | refine blk_drew ?_ | refine blk_alloc ?_ _)); exact BK230.out) Try.underlying24 rfl (by kernel_rfl)) rfl ?_
       exact ⟨by first | rfl | (simp [errW_none, errW_some] <;> rfl) | (simp [*, errW_none, errW_some] <;> rfl), (be_ HB).out⟩
      ·replace c12 := Bool.eq_false_iff.mpr c12
       subst c12
       have H1 : ((sun_Longitude.f kj7 a1).bind fun bt233 => (season_Next.l0 kj7 a0 a1 bt233.1 bt233.2.1)) = some (r1, r2, r3) := by rw [if_neg (show ¬ (false = true) by decide)] at H; exact H
       clear H
       have H := H1
       clear H1
       replace H := Option.bind_eq_some_iff.mp H
       obtain ⟨⟨t233, t234, t235⟩, A140, H⟩ := H
       replace H : (season_Next.l0 kj7 a0 a1 t233 t234) = some (r1, r2, r3) := H
       have A14 := Aside0.mk A140
       clear A140
       have H' := Aside0.mk H
       clear H
       go_wp2_with (first | ((with_reducible refine gate_callee (f := 37) rfl ?_); refine goesL_ (some 31) rfl rfl Try.func37 (by kernel_rfl) rfl #[.int .i64 a1] rfl (by (try simp only [List.map_toArray, List.map_cons, List.map_nil]); first | done | rfl | (simp only [List.length_drop, List.length_take]; rfl)) ?_; (with_reducible refine (sun_Longitude.calls kj7 a1 t233 t234 t235 _ A14.out).mono ?_); rintro e w15 ⟨rfl, hb⟩; refine ⟨_, rfl, ?_⟩; replace BK230 := kb_ BK230 hb; replace HB := bs_ HB hb; (try clear hb); (try clear hb2); (try clear hk); (try clear hi)) | ((with_reducible refine gate_dst (N := 6) rfl ?_); refine box_event ?hg (N := 6) ?hd (cs := #[.int .i64 0, .int .i64 0]) (t := 24) ?hr ?_; (case hd => rfl); (case hg => rfl); (case hr => first | (go_simp; done) | (go_simp; rfl)); intro gb236 hg w16 hbox hb; have BK236 := Aside0.mk (hbox); have GW236 := ge_ hg HB; have GE236 := ge_ hg HB; have NB230_236 := nl_ hg BK230; have NB236_230 := ng_ hg BK230; replace BK230 := kb_ BK230 hb; replace HB := bs_ HB hb; clear hb hbox hg; have hnb17 := NB236_230.out; have hnc17 := NB230_236.out; have hcz18_0 : w16.cell? ⟨gb236, 0, none⟩ = some (.int .i64 0) := (blk_cell BK236.out 0).trans rfl; have hcz18_1 : w16.cell? ⟨gb236, 1, none⟩ = some (.int .i64 0) := (blk_cell BK236.out 1).trans rfl; have hfz18_0 := blk_frozen BK236.out 0; have hfz18_1 := blk_frozen BK236.out 1))
       go_loopg [0] kj7 (fun kq v0 w' => ∃ (x0_3 : Int), v0 = .int .i64 x0_3 ∧ Aside0 (season_Next.l0 kq x0_3 a1 t233 t234 = some (r1, r2, r3)) ∧ Aside0 (kq ≤ kj7) ∧ Aside0 (w'.heap[gb230]? = some (.cells #[.int .i64 0, .int .i64 0] 24 (0, 0))) ∧ Aside0 (w'.heap[gb236]? = some (.cells #[.int .i64 t233, .int .i64 t234] 24 (0, 0))) ∧ Aside0 (Below w.heap.size w w'))
       case atStart => exact ⟨(a0), (by first | rfl | (simp; done) | (simp [*]; done)), H', ⟨Nat.le_refl _⟩, ⟨kk_ BK230⟩, ⟨by (with_reducible repeat (first | refine blk_drewN ?_ _ | refine blk_drew ?_ | refine blk_alloc ?_ _)); refine blk_put (cs := #[.int .i64 t233, .int .i64 0]) ?_ 1 _ rfl; (with_reducible repeat (first | refine blk_drewN ?_ _ | refine blk_drew ?_ | refine blk_alloc ?_ _)); refine blk_put (cs := #[.int .i64 0, .int .i64 0]) ?_ 0 _ rfl; (with_reducible repeat (first | refine blk_drewN ?_ _ | refine blk_drew ?_ | refine blk_alloc ?_ _)); exact BK236.out⟩, (be_ HB)⟩
       case round =>
        clear H'
        try clear c1
        try clear p2
        try clear c3
        try clear c5
        try clear c5b0
        try clear c6
        try clear p6
        try clear c10
        try clear c12
        try clear c17
        try clear hcz13_0
        try clear hcz13_1
        try clear hcz18_0
        try clear hcz18_1
        try clear hcz7_0
        try clear hcz7_1
        try clear hfz13_0
        try clear hfz13_1
        try clear hfz18_0
        try clear hfz18_1
        try clear hfz7_0
        try clear hfz7_1
        try clear p2
        try clear p6
        obtain ⟨x0_3, rfl, HA, HK3, BK230, BK236, HB⟩ := hrel
        cases gk with
        | zero => exact absurd HA.out (by simp [season_Next.l0])
        | succ k3 =>
         have H := HA.out
         clear HA
         simp only [season_Next.l0] at H
         by_cases c19 : x0_3 < t233
         ·rw [if_pos c19] at H
          have c19b0 : decide (x0_3 < t233) = true := decide_eq_true c19
          clear c19
          have H' := Aside0.mk H
          clear H
          have hnb20 := NB236_230.out
          have hnc20 := NB230_236.out
          have hcz21_0 : wr.cell? ⟨gb236, 0, none⟩ = some (.int .i64 t233) := (blk_cell BK236.out 0).trans rfl
          have hcz21_1 : wr.cell? ⟨gb236, 1, none⟩ = some (.int .i64 t234) := (blk_cell BK236.out 1).trans rfl
          have hfz21_0 := blk_frozen BK236.out 0
          have hfz21_1 := blk_frozen BK236.out 1
          go_wp2
          go_roundg k3
          case measure => have := HJ2.out; have := HJ7.out; have := HK3.out; omega
          case rel => exact ⟨(wrap64 (x0_3 + 1000000000)), (by first | rfl | (simp; done) | (simp [*]; done)), H', ⟨by have := HJ2.out; have := HJ7.out; have := HK3.out; omega⟩, ⟨kk_ BK230⟩, ⟨kk_ BK236⟩, (be_ HB)⟩
         ·rw [if_neg c19] at H
          have c19b0 : decide (x0_3 < t233) = false := decide_eq_false c19
          clear c19
          by_cases c22 : x0_3 ≤ t234
          ·rw [if_pos c22] at H
           have c22b0 : decide (x0_3 ≤ t234) = true := decide_eq_true c22
           clear c22
           simp only [Option.some.injEq, Prod.mk.injEq] at H
           obtain ⟨rfl, rfl, rfl⟩ := H
           have hnb23 := NB236_230.out
           have hnc23 := NB230_236.out
           have hcz24_0 : wr.cell? ⟨gb236, 0, none⟩ = some (.int .i64 t233) := (blk_cell BK236.out 0).trans rfl
           have hcz24_1 : wr.cell? ⟨gb236, 1, none⟩ = some (.int .i64 t234) := (blk_cell BK236.out 1).trans rfl
           have hfz24_0 := blk_frozen BK236.out 0
           have hfz24_1 := blk_frozen BK236.out 1
           have hcz25_0 : wr.cell? ⟨gb230, 0, none⟩ = some (.int .i64 0) := (blk_cell BK230.out 0).trans rfl
           have hcz25_1 : wr.cell? ⟨gb230, 1, none⟩ = some (.int .i64 0) := (blk_cell BK230.out 1).trans rfl
           have hfz25_0 := blk_frozen BK230.out 0
           have hfz25_1 := blk_frozen BK230.out 1
           go_wp2
           refine bodyPost_ret (results_ct rfl _ _ gb230 24 #[.int .i64 0, .int .i64 0] (0, 0) _ rfl (by (with_reducible repeat (first | refine blk_drewN ?_ _ | refine blk_drew ?_ | refine blk_alloc ?_ _)); refine blk_put (cs := #[.int .i64 0, .int .i64 0]) ?_ 1 _ rfl; (with_reducible repeat (first | refine blk_drewN ?_ _ | refine blk_drew ?_ | refine blk_alloc ?_ _)); refine blk_put (cs := #[.int .i64 0, .int .i64 0]) ?_ 0 _ rfl; (with_reducible repeat (first | refine blk_drewN ?_ _ | refine blk_drew ?_ | refine blk_alloc ?_ _)); exact BK230.out) Try.underlying24 rfl (by kernel_rfl)) rfl ?_
           exact ⟨by first | rfl | (simp [errW_none, errW_some] <;> rfl) | (simp [*, errW_none, errW_some] <;> rfl), (be_ HB).out⟩
          ·rw [if_neg c22] at H
           have c22b0 : decide (x0_3 ≤ t234) = false := decide_eq_false c22
           clear c22
           obtain ⟨ji26, hji26⟩ : ∃ j_ : Int, (mx a1 (wrap64 ((wrap64 (a1 + (wrap64 ((wrap64 (Int.tdiv (wrap64 ((wrap64 (x0_3 - t233)) * 1000)) 2737909)) * 86400)))) - 864000000))) = j_ := ⟨_, rfl⟩
           replace H : ((sun_Series.f).bind fun bt238 => ((series_Cross.f k3 bt238.1 bt238.2.1 bt238.2.2.1 bt238.2.2.2 (Int.tmod x0_3 1000000000) (ji26) (wrap64 ((wrap64 (a1 + (wrap64 ((wrap64 (Int.tdiv (wrap64 ((wrap64 (x0_3 - t233)) * 1000)) 2737909)) * 86400)))) + 864000000)) 600000).bind fun bt244 => (some (bt244.1, bt244.2.1, bt244.2.2)))) = some (r1, r2, r3) := by first | (rw [hji26] at H; exact H) | (simp only [hji26] at H ⊢; exact H)
           have hji26_ : (if a1 < (wrap64 ((wrap64 (a1 + (wrap64 ((wrap64 (Int.tdiv (wrap64 ((wrap64 (x0_3 - t233)) * 1000)) 2737909)) * 86400)))) - 864000000)) then (wrap64 ((wrap64 (a1 + (wrap64 ((wrap64 (Int.tdiv (wrap64 ((wrap64 (x0_3 - t233)) * 1000)) 2737909)) * 86400)))) - 864000000)) else a1) = ji26 := hji26
           replace H := Option.bind_eq_some_iff.mp H
           obtain ⟨⟨t238, t239, t240, t243⟩, A270, H⟩ := H
           replace H : ((series_Cross.f k3 t238 t239 t240 t243 (Int.tmod x0_3 1000000000) (ji26) (wrap64 ((wrap64 (a1 + (wrap64 ((wrap64 (Int.tdiv (wrap64 ((wrap64 (x0_3 - t233)) * 1000)) 2737909)) * 86400)))) + 864000000)) 600000).bind fun bt244 => (some (bt244.1, bt244.2.1, bt244.2.2))) = some (r1, r2, r3) := H
           have A27 := Aside0.mk A270
           clear A270
           replace H := Option.bind_eq_some_iff.mp H
           obtain ⟨⟨t244, t245, t246⟩, A280, H⟩ := H
           replace H : (some (t244, t245, t246)) = some (r1, r2, r3) := H
           have A28 := Aside0.mk A280
           clear A280
           simp only [Option.some.injEq, Prod.mk.injEq] at H
           obtain ⟨rfl, rfl, rfl⟩ := H
           have hnb29 := NB236_230.out
           have hnc29 := NB230_236.out
           have hcz30_0 : wr.cell? ⟨gb236, 0, none⟩ = some (.int .i64 t233) := (blk_cell BK236.out 0).trans rfl
           have hcz30_1 : wr.cell? ⟨gb236, 1, none⟩ = some (.int .i64 t234) := (blk_cell BK236.out 1).trans rfl
           have hfz30_0 := blk_frozen BK236.out 0
           have hfz30_1 := blk_frozen BK236.out 1
           try go_wp2_with (first | ((with_reducible refine gate_dst (N := 10) rfl ?_); refine box_event ?hg (N := 10) ?hd (cs := #[.int .i64 0, .int .i64 0]) (t := 24) ?hr ?_; (case hd => rfl); (case hg => rfl); (case hr => first | (go_simp; done) | (go_simp; rfl)); intro gb237 hg w31 hbox hb; have BK237 := Aside0.mk (hbox); have GW237 := ge_ hg HB; have GE237 := ge_ hg HB; have NB230_237 := nl_ hg BK230; have NB237_230 := ng_ hg BK230; have NB236_237 := nl_ hg BK236; have NB237_236 := ng_ hg BK236; replace BK230 := kb_ BK230 hb; replace BK236 := kb_ BK236 hb; replace HB := bs_ HB hb; clear hb hbox hg; have hnb32 := NB237_230.out; have hnc32 := NB230_237.out; have hnb33 := NB237_236.out; have hnc33 := NB236_237.out; have hcz34_0 : w31.cell? ⟨gb237, 0, none⟩ = some (.int .i64 0) := (blk_cell BK237.out 0).trans rfl; have hcz34_1 : w31.cell? ⟨gb237, 1, none⟩ = some (.int .i64 0) := (blk_cell BK237.out 1).trans rfl; have hfz34_0 := blk_frozen BK237.out 0; have hfz34_1 := blk_frozen BK237.out 1))
           have n0_ : Aside0 (((w31.setCell ⟨gb237, 0, none⟩ (.int .i64 ji26)).setCell ⟨gb237, 1, none⟩ (.int .i64 (wrap64 ((wrap64 (a1 + (wrap64 ((wrap64 (Int.tdiv (wrap64 ((wrap64 (x0_3 - t233)) * 1000)) 2737909)) * 86400)))) + 864000000)))).heap[gb230]? = some (.cells #[.int .i64 0, .int .i64 0] 24 (0, 0))) := ⟨kk_ BK230⟩
           have n1_ : Aside0 (((w31.setCell ⟨gb237, 0, none⟩ (.int .i64 ji26)).setCell ⟨gb237, 1, none⟩ (.int .i64 (wrap64 ((wrap64 (a1 + (wrap64 ((wrap64 (Int.tdiv (wrap64 ((wrap64 (x0_3 - t233)) * 1000)) 2737909)) * 86400)))) + 864000000)))).heap[gb236]? = some (.cells #[.int .i64 t233, .int .i64 t234] 24 (0, 0))) := ⟨kk_ BK236⟩
           have n2_ : Aside0 (((w31.setCell ⟨gb237, 0, none⟩ (.int .i64 ji26)).setCell ⟨gb237, 1, none⟩ (.int .i64 (wrap64 ((wrap64 (a1 + (wrap64 ((wrap64 (Int.tdiv (wrap64 ((wrap64 (x0_3 - t233)) * 1000)) 2737909)) * 86400)))) + 864000000)))).heap[gb237]? = some (.cells #[.int .i64 ji26, .int .i64 (wrap64 ((wrap64 (a1 + (wrap64 ((wrap64 (Int.tdiv (wrap64 ((wrap64 (x0_3 - t233)) * 1000)) 2737909)) * 86400)))) + 864000000))] 24 (0, 0))) := ⟨by (with_reducible repeat (first | refine blk_drewN ?_ _ | refine blk_drew ?_ | refine blk_alloc ?_ _)); refine blk_put (cs := #[.int .i64 ji26, .int .i64 0]) ?_ 1 _ rfl; (with_reducible repeat (first | refine blk_drewN ?_ _ | refine blk_drew ?_ | refine blk_alloc ?_ _)); refine blk_put (cs := #[.int .i64 0, .int .i64 0]) ?_ 0 _ rfl; (with_reducible repeat (first | refine blk_drewN ?_ _ | refine blk_drew ?_ | refine blk_alloc ?_ _)); exact BK237.out⟩
           have n3_ : Aside0 (Below w.heap.size w ((w31.setCell ⟨gb237, 0, none⟩ (.int .i64 ji26)).setCell ⟨gb237, 1, none⟩ (.int .i64 (wrap64 ((wrap64 (a1 + (wrap64 ((wrap64 (Int.tdiv (wrap64 ((wrap64 (x0_3 - t233)) * 1000)) 2737909)) * 86400)))) + 864000000))))) := (be_ HB)
           (try clear BK230)
           (try clear BK236)
           (try clear BK237)
           (try clear HB)
           generalize ((w31.setCell ⟨gb237, 0, none⟩ (.int .i64 ji26)).setCell ⟨gb237, 1, none⟩ (.int .i64 (wrap64 ((wrap64 (a1 + (wrap64 ((wrap64 (Int.tdiv (wrap64 ((wrap64 (x0_3 - t233)) * 1000)) 2737909)) * 86400)))) + 864000000)))) = w35 at n0_ n1_ n2_ n3_ ⊢
           have BK230 := n0_
           have BK236 := n1_
           have BK237 := n2_
           have HB := n3_
           clear n0_ n1_ n2_ n3_
           replace BK230 := Aside0.mk (blk_drew BK230.out)
           replace BK236 := Aside0.mk (blk_drew BK236.out)
           replace BK237 := Aside0.mk (blk_drew BK237.out)
           replace HB := Aside0.mk (below_drew1 HB.out)
           refine start_ (n := 9) (S := fun w' => w'.cell? ⟨gb237, 0, none⟩ = some (.int .i64 ji26) ∧ w'.cell? ⟨gb237, 1, none⟩ = some (.int .i64 (wrap64 ((wrap64 (a1 + (wrap64 ((wrap64 (Int.tdiv (wrap64 ((wrap64 (x0_3 - t233)) * 1000)) 2737909)) * 86400)))) + 864000000)))) (ds := []) #[false, false, false, false, false, false, false, false, false] (by kernel_rfl) rfl rfl ⟨(blk_cell BK237.out 0).trans rfl, (blk_cell BK237.out 1).trans rfl⟩ (fun hHeld => ?_); refine with_tabW season_Next.tab13 season_Next.bits13 (fun HT_ HW_ => ?_)
           generalize w35.drew = w36 at BK230 BK236 BK237 HB hHeld ⊢
           refine pure_ (i := 1) (N := some 63) (v := ?_) (a' := ?_) #[false, true, false, false, false, false, false, false, false] rfl rfl (any_of HT_.out (by kernel_rfl)) (fun _ _ _ h => h) (Or.inl ⟨by rfl, ?_⟩) ?_ ?_
           rotate_left
           ·intro w'
            go_simp
            with_reducible rfl
           rotate_left
           ·simp only [Act.put, List.setIfInBounds_toArray, List.set_cons_zero, List.set_cons_succ, i64_w, i32_w]
            rfl
           refine pure_ (i := 2) (N := some 64) (v := ?_) (a' := ?_) #[false, true, true, false, false, false, false, false, false] rfl rfl (any_of HT_.out (by kernel_rfl)) (fun _ _ _ h => h) (Or.inl ⟨by rfl, ?_⟩) ?_ ?_
           rotate_left
           ·intro w'
            go_simp
            with_reducible rfl
           rotate_left
           ·simp only [Act.put, List.setIfInBounds_toArray, List.set_cons_zero, List.set_cons_succ, i64_w, i32_w]
            rfl
           refine take_ (i := 3) (N := some 65) (v := ?_) (a' := ?_) #[false, true, true, true, false, false, false, false, false] rfl rfl (take_ofW HT_.out HW_.out (by kernel_rfl)) (fun _ _ _ h => h) (Or.inl ⟨by rfl, ?_⟩) hHeld ?_ ?_
           rotate_left
           ·rintro w' ⟨s0, s1⟩
            go_simp
            with_reducible rfl
           rotate_left
           ·simp only [Act.put, List.setIfInBounds_toArray, List.set_cons_zero, List.set_cons_succ, i64_w, i32_w]
            rfl
           refine one_ (i := 0) (N := some 62) #[true, true, true, true, false, false, false, false, false] rfl rfl (one_of HT_.out (by kernel_rfl)) (by decide) (fun K hK => ?_)
           refine goes_ Try.func64 (by kernel_rfl) rfl #[] (by rfl) rfl rfl (by (try simp only [List.map_toArray, List.map_cons, List.map_nil]); first | done | rfl | (simp only [List.length_drop, List.length_take]; rfl)) ?_
           with_reducible refine (sun_Series.calls  t238 t239 t240 t243 _ A27.out).mono ?_
           rintro e w37 ⟨v241, rfl, ho0, hb⟩
           refine ⟨_, rfl, ?_⟩
           have HO242 := Aside0.mk (Kd.R_lower ho0 (below_size (be_ HB).out))
           replace BK230 := kb_ BK230 hb
           replace BK236 := kb_ BK236 hb
           replace BK237 := kb_ BK237 hb
           replace HB := bs_ HB hb
           (try clear hb)
           (try clear hb2)
           (try clear hk)
           (try clear hi)
           (try clear ho0)
           obtain ⟨Ao38, co38, eo38⟩ := Kd.R_slice HO242.out
           (first | subst eo38 | (injection eo38 with f1_ f2_ f3_; have f4_ := f1_.symm; have f5_ := f3_.symm; clear f1_ f2_ f3_; subst f4_; subst f5_))
           refine hK.out _ _ ⟨(blk_cell BK237.out 0).trans rfl, (blk_cell BK237.out 1).trans rfl⟩ (fun hHeld => ?_)
           clear hK K
           refine norm_ (a' := ?_) ?_ ?_
           rotate_left
           ·show Act.put _ (some 62) _ = _
            simp only [Act.put, List.setIfInBounds_toArray, List.set_cons_zero, List.set_cons_succ, i64_w, i32_w]
            rfl
           refine one_ (i := 4) (N := some 66) #[true, true, true, true, true, false, false, false, false] rfl rfl (one_of HT_.out (by kernel_rfl)) (by decide) (fun K hK => ?_)
           refine goes_ Try.func63 (by kernel_rfl) rfl #[.agg #[.int .i64 t238, .int .i64 t239, .slice Ao38 t240.length co38, .int .i64 t243], .int .i64 (Int.tmod x0_3 1000000000), .agg #[.int .i64 ji26, .int .i64 (wrap64 ((wrap64 (a1 + (wrap64 ((wrap64 (Int.tdiv (wrap64 ((wrap64 (x0_3 - t233)) * 1000)) 2737909)) * 86400)))) + 864000000))], .int .i64 600000] (by rfl) rfl rfl (by (try simp only [List.map_toArray, List.map_cons, List.map_nil]); first | done | (simp only [hji26]; rfl) | rfl | (simp only [List.length_drop, List.length_take]; rfl)) ?_
           with_reducible refine (series_Cross.calls k3 t238 t239 _ _ t240 t243 (Int.tmod x0_3 1000000000) ji26 (wrap64 ((wrap64 (a1 + (wrap64 ((wrap64 (Int.tdiv (wrap64 ((wrap64 (x0_3 - t233)) * 1000)) 2737909)) * 86400)))) + 864000000)) 600000 t244 t245 t246 _ ?side1 ?side2 A28.out).mono ?_
           (case side1 => repeat (first | exact (Kd.R_reads' HO242.out).2.2 | (with_reducible refine Kd.C_alloc ?_ _) | (with_reducible refine Kd.C_drewN ?_ _) | (with_reducible refine Kd.C_drew ?_)))
           (case side2 => exact (Kd.R_reads' HO242.out).2.1)
           rintro e w39 ⟨rfl, hb⟩
           refine ⟨_, rfl, ?_⟩
           have n0_ := Aside0.mk (Kd.R_below (by (with_reducible repeat (first | apply Kd.R_alloc | apply Kd.R_drewN | apply Kd.R_drew)); exact HO242.out) hb)
           have n1_ := kb_ BK230 hb
           have n2_ := kb_ BK236 hb
           have n3_ := kb_ BK237 hb
           have n4_ := bs_ HB hb
           clear HO242
           clear BK230
           clear BK236
           clear BK237
           clear HB
           have HO242 := n0_
           have BK230 := n1_
           have BK236 := n2_
           have BK237 := n3_
           have HB := n4_
           clear n0_ n1_ n2_ n3_ n4_
           (try clear hb)
           (try clear hb2)
           (try clear hk)
           (try clear hi)
           refine hK.out _ _ ⟨(blk_cell BK237.out 0).trans rfl, (blk_cell BK237.out 1).trans rfl⟩ (fun hHeld => ?_)
           clear hK K
           refine norm_ (a' := ?_) ?_ ?_
           rotate_left
           ·show Act.put _ (some 66) _ = _
            simp only [Act.put, List.setIfInBounds_toArray, List.set_cons_zero, List.set_cons_succ, i64_w, i32_w]
            rfl
           refine pure_ (i := 5) (N := some 67) (v := ?_) (a' := ?_) #[true, true, true, true, true, true, false, false, false] rfl rfl (any_of HT_.out (by kernel_rfl)) (fun _ _ _ h => h) (Or.inl ⟨by rfl, ?_⟩) ?_ ?_
           rotate_left
           ·intro w'
            go_simp
            with_reducible rfl
           rotate_left
           ·simp only [Act.put, List.setIfInBounds_toArray, List.set_cons_zero, List.set_cons_succ, i64_w, i32_w]
            rfl
           refine pure_ (i := 6) (N := some 68) (v := ?_) (a' := ?_) #[true, true, true, true, true, true, true, false, false] rfl rfl (any_of HT_.out (by kernel_rfl)) (fun _ _ _ h => h) (Or.inl ⟨by rfl, ?_⟩) ?_ ?_
           rotate_left
           ·intro w'
            go_simp
            with_reducible rfl
           rotate_left
           ·simp only [Act.put, List.setIfInBounds_toArray, List.set_cons_zero, List.set_cons_succ, i64_w, i32_w]
            rfl
           refine one_ (i := 7) (N := none) #[true, true, true, true, true, true, true, true, false] rfl rfl (one_of HT_.out (by kernel_rfl)) (by decide) (fun K hK => ?_)
           have hs40 : w39.cell? ⟨gb230, 0, none⟩ = some (.int .i64 0) := (blk_cell BK230.out 0).trans rfl
           have hfs40 := blk_frozen BK230.out 0
           have hns40_1 := NB236_230.out
           have hns40_2 := NB237_230.out
           have hms40_1 := NB230_236.out
           have hms40_2 := NB230_237.out
           have hs41 : w39.cell? ⟨gb230, 1, none⟩ = some (.int .i64 0) := (blk_cell BK230.out 1).trans rfl
           have hfs41 := blk_frozen BK230.out 1
           have hns41_1 := NB236_230.out
           have hns41_2 := NB237_230.out
           have hms41_1 := NB230_236.out
           have hms41_2 := NB230_237.out
           refine skip_ (w1 := ?_) (by rfl) rfl ?_ ?_
           rotate_left
           ·go_simp
            rfl
           refine hK.out _ _ ⟨((cell_far (p := ⟨gb230, _, none⟩) NB237_230.out _).trans (((cell_far (p := ⟨gb230, _, none⟩) NB237_230.out _).trans (hHeld.1)))), ((cell_far (p := ⟨gb230, _, none⟩) NB237_230.out _).trans (((cell_far (p := ⟨gb230, _, none⟩) NB237_230.out _).trans (hHeld.2))))⟩ (fun hHeld => ?_)
           clear hK K
           refine pure_ (i := 8) (N := some 5) (v := ?_) (a' := ?_) #[true, true, true, true, true, true, true, true, true] rfl rfl (any_of HT_.out (by kernel_rfl)) (fun _ _ _ h => h) (Or.inl ⟨by rfl, ?_⟩) ?_ ?_
           rotate_left
           ·intro w'
            go_simp
            with_reducible rfl
           rotate_left
           ·simp only [Act.put, List.setIfInBounds_toArray, List.set_cons_zero, List.set_cons_succ, i64_w, i32_w]
            rfl
           refine done_ (done_of HT_.out (by kernel_rfl)) ?_
           try go_wp2
           refine bodyPost_ret (results_ct rfl _ _ gb230 24 #[.int .i64 t244, .int .i64 t245] (0, 0) _ rfl (by (with_reducible repeat (first | refine blk_drewN ?_ _ | refine blk_drew ?_ | refine blk_alloc ?_ _)); refine blk_put (cs := #[.int .i64 t244, .int .i64 0]) ?_ 1 _ rfl; (with_reducible repeat (first | refine blk_drewN ?_ _ | refine blk_drew ?_ | refine blk_alloc ?_ _)); refine blk_put (cs := #[.int .i64 0, .int .i64 0]) ?_ 0 _ rfl; (with_reducible repeat (first | refine blk_drewN ?_ _ | refine blk_drew ?_ | refine blk_alloc ?_ _)); exact BK230.out) Try.underlying24 rfl (by kernel_rfl)) rfl ?_
           exact ⟨by first | rfl | (simp [errW_none, errW_some] <;> rfl) | (simp only [← hji26]; first | rfl | (simp [errW_none, errW_some] <;> rfl)) | (simp [*, errW_none, errW_some] <;> rfl), (be_ HB).out⟩
end Go.Proofs.Ytmahlfjnejbcnaa.PAll
end
section
namespace Go.Proofs.Ytmahlfjnejbcnaa.PAll
open Go Go.RowKit YtmahlfjnejbcnaaW.PrintWords Sx
def season_newYear.f (k : Nat) (a0 : Int) : Option (Int) :=
  oif (decide ((IntKind.i64.wrap (a0 - 1)).tmod 4 < 0) = true) (
   oif (decide ((IntKind.i64.wrap (a0 - 1)).tmod 100 < 0) = true) (
    oif (decide ((IntKind.i64.wrap (a0 - 1)).tmod 400 < 0) = true) (
     some (IntKind.i64.wrap (IntKind.i64.wrap (IntKind.i64.wrap (IntKind.i64.wrap (IntKind.i64.wrap (365 * IntKind.i64.wrap (a0 - 1)) + IntKind.i64.wrap (IntKind.i64.wrap ((IntKind.i64.wrap (a0 - 1)).tdiv 4) - 1)) - IntKind.i64.wrap (IntKind.i64.wrap ((IntKind.i64.wrap (a0 - 1)).tdiv 100) - 1)) + IntKind.i64.wrap (IntKind.i64.wrap ((IntKind.i64.wrap (a0 - 1)).tdiv 400) - 1)) + 1))) (
     some (IntKind.i64.wrap (IntKind.i64.wrap (IntKind.i64.wrap (IntKind.i64.wrap (IntKind.i64.wrap (365 * IntKind.i64.wrap (a0 - 1)) + IntKind.i64.wrap (IntKind.i64.wrap ((IntKind.i64.wrap (a0 - 1)).tdiv 4) - 1)) - IntKind.i64.wrap (IntKind.i64.wrap ((IntKind.i64.wrap (a0 - 1)).tdiv 100) - 1)) + IntKind.i64.wrap ((IntKind.i64.wrap (a0 - 1)).tdiv 400)) + 1)))) (
    oif (decide ((IntKind.i64.wrap (a0 - 1)).tmod 400 < 0) = true) (
     some (IntKind.i64.wrap (IntKind.i64.wrap (IntKind.i64.wrap (IntKind.i64.wrap (IntKind.i64.wrap (365 * IntKind.i64.wrap (a0 - 1)) + IntKind.i64.wrap (IntKind.i64.wrap ((IntKind.i64.wrap (a0 - 1)).tdiv 4) - 1)) - IntKind.i64.wrap ((IntKind.i64.wrap (a0 - 1)).tdiv 100)) + IntKind.i64.wrap (IntKind.i64.wrap ((IntKind.i64.wrap (a0 - 1)).tdiv 400) - 1)) + 1))) (
     some (IntKind.i64.wrap (IntKind.i64.wrap (IntKind.i64.wrap (IntKind.i64.wrap (IntKind.i64.wrap (365 * IntKind.i64.wrap (a0 - 1)) + IntKind.i64.wrap (IntKind.i64.wrap ((IntKind.i64.wrap (a0 - 1)).tdiv 4) - 1)) - IntKind.i64.wrap ((IntKind.i64.wrap (a0 - 1)).tdiv 100)) + IntKind.i64.wrap ((IntKind.i64.wrap (a0 - 1)).tdiv 400)) + 1))))) (
   oif (decide ((IntKind.i64.wrap (a0 - 1)).tmod 100 < 0) = true) (
    oif (decide ((IntKind.i64.wrap (a0 - 1)).tmod 400 < 0) = true) (
     some (IntKind.i64.wrap (IntKind.i64.wrap (IntKind.i64.wrap (IntKind.i64.wrap (IntKind.i64.wrap (365 * IntKind.i64.wrap (a0 - 1)) + IntKind.i64.wrap ((IntKind.i64.wrap (a0 - 1)).tdiv 4)) - IntKind.i64.wrap (IntKind.i64.wrap ((IntKind.i64.wrap (a0 - 1)).tdiv 100) - 1)) + IntKind.i64.wrap (IntKind.i64.wrap ((IntKind.i64.wrap (a0 - 1)).tdiv 400) - 1)) + 1))) (
     some (IntKind.i64.wrap (IntKind.i64.wrap (IntKind.i64.wrap (IntKind.i64.wrap (IntKind.i64.wrap (365 * IntKind.i64.wrap (a0 - 1)) + IntKind.i64.wrap ((IntKind.i64.wrap (a0 - 1)).tdiv 4)) - IntKind.i64.wrap (IntKind.i64.wrap ((IntKind.i64.wrap (a0 - 1)).tdiv 100) - 1)) + IntKind.i64.wrap ((IntKind.i64.wrap (a0 - 1)).tdiv 400)) + 1)))) (
    oif (decide ((IntKind.i64.wrap (a0 - 1)).tmod 400 < 0) = true) (
     some (IntKind.i64.wrap (IntKind.i64.wrap (IntKind.i64.wrap (IntKind.i64.wrap (IntKind.i64.wrap (365 * IntKind.i64.wrap (a0 - 1)) + IntKind.i64.wrap ((IntKind.i64.wrap (a0 - 1)).tdiv 4)) - IntKind.i64.wrap ((IntKind.i64.wrap (a0 - 1)).tdiv 100)) + IntKind.i64.wrap (IntKind.i64.wrap ((IntKind.i64.wrap (a0 - 1)).tdiv 400) - 1)) + 1))) (
     some (IntKind.i64.wrap (IntKind.i64.wrap (IntKind.i64.wrap (IntKind.i64.wrap (IntKind.i64.wrap (365 * IntKind.i64.wrap (a0 - 1)) + IntKind.i64.wrap ((IntKind.i64.wrap (a0 - 1)).tdiv 4)) - IntKind.i64.wrap ((IntKind.i64.wrap (a0 - 1)).tdiv 100)) + IntKind.i64.wrap ((IntKind.i64.wrap (a0 - 1)).tdiv 400)) + 1)))))
theorem season_newYear.mono : ∀ a0 k, LeO (season_newYear.f k a0) (season_newYear.f (k + 1) a0) := by
  intro a0 k
  unfold season_newYear.f
  try simp only [ob_eq, oif_eq]
  repeat' first
    | (with_reducible exact LeO.refl _)
    | (with_reducible exact LeO.none _)
    | (with_reducible refine LeO.ite ?_ ?_)
    | (with_reducible refine LeO.bind ?_ (fun _ => ?_))
def season_newYear.OQ {R : Type} (k : Nat) : OraQ R := fun g args K => match g with
  | _ => none
theorem season_newYear.OQ_ok (k : Nat) (Φ : World → Prop) (base : Nat) {R : Type} : OraQOk Try.prog (fun _ => undef) Φ base (season_newYear.OQ (R := R) k) := by
  intro g args K r h
  unfold season_newYear.OQ at h
  split at h
  · cases h
def season_newYear.F (v : Value) (_ : Mem) : Option (Int) := match v with | .int .i64 r => some (r) | _ => none
theorem season_newYear.run (k : Nat) (a0 : Int) : runM Try.prog (inl Try.prog 67 Try.f67 (Try.f67.body.getD .skip) 5000 (liftQ (season_newYear.OQ k)) (drawQ Try.prog (season_newYear.OQ k)) (liftQ (season_newYear.OQ k))) (drawO Try.prog (season_newYear.OQ k) (inl Try.prog 67 Try.f67 (Try.f67.body.getD .skip) 5000 (liftQ (season_newYear.OQ k)) (drawQ Try.prog (season_newYear.OQ k)) (liftQ (season_newYear.OQ k)))) (fun _ => none) (atEnd Try.prog Try.f39 season_newYear.F) 5000 [.code (Try.f39.body.getD .skip)] ([.int .i64 a0] ++ List.replicate (Try.f39.ntmps - ([.int .i64 a0] : List Value).length) undef) [] = season_newYear.f k a0 := by kernel_rfl
theorem season_newYear.calls (k : Nat) (a0 : Int) (r : Int) (w : World) (h : season_newYear.f k a0 = some (r)) :
    Calls Try.prog 39 #[.int .i64 a0] w fun e w' => e = .returned (.int .i64 r) ∧ Below w.heap.size w w' := by
  have hod : ∀ Φ base, Stable Φ base → OraOk Try.prog (fun _ => undef) Φ base (inl Try.prog 67 Try.f67 (Try.f67.body.getD .skip) 5000 (liftQ (season_newYear.OQ (R := Int) k)) (drawQ Try.prog (season_newYear.OQ (R := Int) k)) (liftQ (season_newYear.OQ (R := Int) k))) ∧ DraOk Try.prog (fun _ => undef) Φ base (drawO Try.prog (season_newYear.OQ (R := Int) k) (inl Try.prog 67 Try.f67 (Try.f67.body.getD .skip) 5000 (liftQ (season_newYear.OQ (R := Int) k)) (drawQ Try.prog (season_newYear.OQ (R := Int) k)) (liftQ (season_newYear.OQ (R := Int) k)))) := fun Φ base hs => by
    have ho : OraOk Try.prog (fun _ => undef) Φ base (inl Try.prog 67 Try.f67 (Try.f67.body.getD .skip) 5000 (liftQ (season_newYear.OQ (R := Int) k)) (drawQ Try.prog (season_newYear.OQ (R := Int) k)) (liftQ (season_newYear.OQ (R := Int) k))) := (inl_ok hs ((season_newYear.OQ_ok k Φ base).lift hs) (drawQ_ok (Checked.mixed Try.checked) hs (season_newYear.OQ_ok k Φ base)) ((season_newYear.OQ_ok k Φ base).lift hs) Try.func67 rfl)
    exact ⟨ho, drawO_ok (Checked.mixed Try.checked) hs (season_newYear.OQ_ok k Φ base) ho⟩
  refine calls_closedO (LF := fun _ => none) (F := season_newYear.F) (r := (r)) hod (LS := fun _ => True) (fun Φ base _ c _ live len f e => by cases e) Try.func39 rfl (fun _ _ => trivial) rfl (fun u m hu => ?_) rfl (((season_newYear.run k a0).trans h)) w
  unfold season_newYear.F at hu
  split at hu
  · cases hu; rfl
  · cases hu
end Go.Proofs.Ytmahlfjnejbcnaa.PAll
end
section
namespace Go.Proofs.Ytmahlfjnejbcnaa.PAll
open Go Go.RowKit YtmahlfjnejbcnaaW.PrintWords Sx
def season_Find.f (k : Nat) (a0 : Int) (a1 : Int) : Option (Int × Int × Int) :=
  oif (decide (a0 < 0) = true) (
   some (0, 0, 1)) (
   oif (decide (a0 > 3) = true) (
    some (0, 0, 1)) (
    oif (decide (a1 < -10000) = true) (
     some (0, 0, 3)) (
     oif (decide (a1 > 10000) = true) (
      some (0, 0, 3)) (
      ob (season_newYear.f k a1) fun t1 =>
      ob (season_Next.f k (IntKind.i64.wrap (a0 * 250000000)) (IntKind.i64.wrap (t1 * 86400000))) fun t2 =>
      some (t2.fst, t2.snd.fst, t2.snd.snd)))))
theorem season_Find.mono : ∀ a0 a1 k, LeO (season_Find.f k a0 a1) (season_Find.f (k + 1) a0 a1) := by
  intro a0 a1 k
  unfold season_Find.f
  try simp only [ob_eq, oif_eq]
  repeat' first
    | (with_reducible exact season_Next.mono _ _ _)
    | (with_reducible exact season_newYear.mono _ _)
    | (with_reducible exact LeO.refl _)
    | (with_reducible exact LeO.none _)
    | (with_reducible refine LeO.ite ?_ ?_)
    | (with_reducible refine LeO.bind ?_ (fun _ => ?_))
def season_Find.OQ {R : Type} (k : Nat) : OraQ R := fun g args K => match g with
  | 31 => (match args with | [.int .i64 a0, .int .i64 a1] => (season_Next.f k a0 a1).bind fun q => K (.tuple ⟨[.agg ⟨[.int .i64 q.1, .int .i64 q.2.1]⟩, .int .i64 q.2.2]⟩) | _ => none)
  | 39 => (match args with | [.int .i64 a0] => (season_newYear.f k a0).bind fun q => K (.int .i64 q) | _ => none)
  | _ => none
theorem season_Find.OQ_ok (k : Nat) (Φ : World → Prop) (base : Nat) {R : Type} : OraQOk Try.prog (fun _ => undef) Φ base (season_Find.OQ (R := R) k) := by
  intro g args K r h
  unfold season_Find.OQ at h
  split at h
  · split at h
    · obtain ⟨q, hq, h⟩ := Option.bind_eq_some_iff.mp h
      exact ⟨_, h, callQ_of rfl rfl fun w => (season_Next.calls k _ _ _ _ _ w hq).mono fun e w' he => ⟨he.1, he.2⟩⟩
    · cases h
  · split at h
    · obtain ⟨q, hq, h⟩ := Option.bind_eq_some_iff.mp h
      exact ⟨_, h, callQ_of rfl rfl fun w => (season_newYear.calls k _ _ w hq).mono fun e w' he => ⟨he.1, he.2⟩⟩
    · cases h
  · cases h
def season_Find.F (v : Value) (_ : Mem) : Option (Int × Int × Int) := match v with | .tuple ⟨[.agg ⟨[.int .i64 r1, .int .i64 r2]⟩, .int .i64 r3]⟩ => some (r1, r2, r3) | _ => none
theorem season_Find.run (k : Nat) (a0 : Int) (a1 : Int) : runM Try.prog (liftQ (season_Find.OQ k)) (drawQ Try.prog (season_Find.OQ k)) (fun _ => none) (atEnd Try.prog Try.f12 season_Find.F) 5000 [.code (Try.f12.body.getD .skip)] ([.int .i64 a0, .int .i64 a1] ++ List.replicate (Try.f12.ntmps - ([.int .i64 a0, .int .i64 a1] : List Value).length) undef) [] = season_Find.f k a0 a1 := by kernel_rfl
theorem season_Find.calls (k : Nat) (a0 : Int) (a1 : Int) (r1 : Int) (r2 : Int) (r3 : Int) (w : World) (h : season_Find.f k a0 a1 = some (r1, r2, r3)) :
    Calls Try.prog 12 #[.int .i64 a0, .int .i64 a1] w fun e w' => e = .returned (.tuple #[.agg #[.int .i64 r1, .int .i64 r2], .int .i64 r3]) ∧ Below w.heap.size w w' := by
  refine calls_closed (OQ := season_Find.OQ k) (LF := fun _ => none) (F := season_Find.F) (r := (r1, r2, r3)) (Checked.mixed Try.checked) (fun Φ base _ => season_Find.OQ_ok k Φ base) (LS := fun _ => True) (fun Φ base _ c _ live len f e => by cases e) Try.func12 rfl (fun _ _ => trivial) rfl (fun u m hu => ?_) rfl (((season_Find.run k a0 a1).trans h)) w
  unfold season_Find.F at hu
  split at hu
  · cases hu; rfl
  · cases hu
end Go.Proofs.Ytmahlfjnejbcnaa.PAll
end
