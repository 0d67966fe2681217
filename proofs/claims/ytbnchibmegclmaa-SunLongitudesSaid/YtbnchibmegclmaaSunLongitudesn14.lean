/- Written by a program of this session: what one law needs. -/
import Derived.Test.YtbnchibmegclmaaSunLongitudesn2
import Derived.Test.YtbnchibmegclmaaSunLongitudesn3
import Derived.Test.YtbnchibmegclmaaSunLongitudesn4
import Derived.Test.YtbnchibmegclmaaSunLongitudesn12
section
namespace Go.Proofs.Ytbnchibmegclmaa.PAll
open Go.RowKit Go.Proofs.YtbnchibmegclmaaW.PrintWords Go.Proofs.YtbnchibmegclmaaW.PrintLast Go.Proofs.YtbnchibmegclmaaW.PrintMore Go.Proofs.Ytbnchibmegclmaa.More2 Go.Proofs.Ytbnchibmegclmaa.Sq
attribute [local go_sem] max2_int min2_int max_two min_two max_three min_three max_four min_four tdiv2e18_ tdiv1e18_ cellSS_  -- for this text's walks alone
set_option linter.unusedVariables false
set_option linter.unusedSimpArgs false
def sun_less.f (a0_0 : Int) (a0_1 : Int) (a1_0 : Int) (a1_1 : Int) : Option (Int × Int) := some (wrap64 (a0_0 - a1_1), wrap64 (a0_1 - a1_0))
set_option maxHeartbeats 8000000 in
set_option maxRecDepth 100000 in
theorem sun_less.calls (a0_0 : Int) (a0_1 : Int) (a1_0 : Int) (a1_1 : Int) (r1 : Int) (r2 : Int) (w : World) (h : sun_less.f a0_0 a0_1 a1_0 a1_1 = some (r1, r2)) :
  Calls Try.prog 60 #[.agg #[.int .i64 a0_0, .int .i64 a0_1], .agg #[.int .i64 a1_0, .int .i64 a1_1]] w fun e w' => e = .returned (.agg #[.int .i64 r1, .int .i64 r2]) ∧ Below w.heap.size w w' := by
 have hu24 := Try.underlying24
 have HB := Aside0.mk (Below.refl w.heap.size w)
 have H : (some (wrap64 (a0_0 - a1_1), wrap64 (a0_1 - a1_0))) = some (r1, r2) := h
 clear h
 simp only [Option.some.injEq, Prod.mk.injEq] at H
 obtain ⟨rfl, rfl⟩ := H
 go_enter Try.func60, Try.ntmps60
 go_wp2_with (first | ((with_reducible refine gate_dst (N := 2) rfl ?_); refine box_event ?hg (N := 2) ?hd (cs := #[.int .i64 a0_0, .int .i64 a0_1]) (t := 24) ?hr ?_; (case hd => rfl); (case hg => rfl); (case hr => first | (go_simp; done) | (go_simp; rfl)); intro gb291 hg w3 hbox hb; have BK291 := Aside0.mk (hbox); have GW291 := ge_ hg HB; have GE291 := ge_ hg HB; replace HB := bs_ HB hb; clear hb hbox hg) | ((with_reducible refine gate_dst (N := 3) rfl ?_); refine box_event ?hg (N := 3) ?hd (cs := #[.int .i64 a1_0, .int .i64 a1_1]) (t := 24) ?hr ?_; (case hd => rfl); (case hg => rfl); (case hr => first | (go_simp; done) | (go_simp; rfl)); intro gb292 hg w4 hbox hb; have BK292 := Aside0.mk (hbox); have GW292 := ge_ hg HB; have GE292 := ge_ hg HB; have NB291_292 := nl_ hg BK291; have NB292_291 := ng_ hg BK291; replace BK291 := kb_ BK291 hb; replace HB := bs_ HB hb; clear hb hbox hg) | ((with_reducible refine gate_dst (N := 4) rfl ?_); refine box_event ?hg (N := 4) ?hd (cs := #[.int .i64 0, .int .i64 0]) (t := 24) ?hr ?_; (case hd => rfl); (case hg => rfl); (case hr => first | (go_simp; done) | (go_simp; rfl)); intro gb293 hg w5 hbox hb; have BK293 := Aside0.mk (hbox); have GW293 := ge_ hg HB; have GE293 := ge_ hg HB; have NB291_293 := nl_ hg BK291; have NB293_291 := ng_ hg BK291; have NB292_293 := nl_ hg BK292; have NB293_292 := ng_ hg BK292; replace BK291 := kb_ BK291 hb; replace BK292 := kb_ BK292 hb; replace HB := bs_ HB hb; clear hb hbox hg; have hnb6 := NB291_292.out; have hnc6 := NB292_291.out; have hnb7 := NB291_293.out; have hnc7 := NB293_291.out; have hcz8_0 : w5.cell? ⟨gb291, 0, none⟩ = some (.int .i64 a0_0) := (blk_cell BK291.out 0).trans rfl; have hcz8_1 : w5.cell? ⟨gb291, 1, none⟩ = some (.int .i64 a0_1) := (blk_cell BK291.out 1).trans rfl; have hfz8_0 := blk_frozen BK291.out 0; have hfz8_1 := blk_frozen BK291.out 1; have hnb9 := NB292_293.out; have hnc9 := NB293_292.out; have hcz10_0 : w5.cell? ⟨gb292, 0, none⟩ = some (.int .i64 a1_0) := (blk_cell BK292.out 0).trans rfl; have hcz10_1 : w5.cell? ⟨gb292, 1, none⟩ = some (.int .i64 a1_1) := (blk_cell BK292.out 1).trans rfl; have hfz10_0 := blk_frozen BK292.out 0; have hfz10_1 := blk_frozen BK292.out 1; have hcz11_0 : w5.cell? ⟨gb293, 0, none⟩ = some (.int .i64 0) := (blk_cell BK293.out 0).trans rfl; have hcz11_1 : w5.cell? ⟨gb293, 1, none⟩ = some (.int .i64 0) := (blk_cell BK293.out 1).trans rfl; have hfz11_0 := blk_frozen BK293.out 0; have hfz11_1 := blk_frozen BK293.out 1))
 refine bodyPost_ret (results_cell_row rfl _ _ gb293 24 #[.int .i64 (wrap64 (a0_0 - a1_1)), .int .i64 (wrap64 (a0_1 - a1_0))] (0, 0) _ rfl (by (with_reducible repeat (first | refine blk_drewN ?_ _ | refine blk_drew ?_ | refine blk_alloc ?_ _)); refine blk_put (cs := #[.int .i64 (wrap64 (a0_0 - a1_1)), .int .i64 0]) ?_ 1 _ rfl; (with_reducible repeat (first | refine blk_drewN ?_ _ | refine blk_drew ?_ | refine blk_alloc ?_ _)); refine blk_put (cs := #[.int .i64 0, .int .i64 0]) ?_ 0 _ rfl; (with_reducible repeat (first | refine blk_drewN ?_ _ | refine blk_drew ?_ | refine blk_alloc ?_ _)); exact BK293.out) Try.underlying24 rfl (by kernel_rfl)) rfl ?_
 exact ⟨by first | rfl | (simp [errW_none, errW_some] <;> rfl) | (simp [*, errW_none, errW_some] <;> rfl), (be_ HB).out⟩
end Go.Proofs.Ytbnchibmegclmaa.PAll
end
section
namespace Go.Proofs.Ytbnchibmegclmaa.PAll
open Go.RowKit Go.Proofs.YtbnchibmegclmaaW.PrintWords Go.Proofs.YtbnchibmegclmaaW.PrintLast Go.Proofs.YtbnchibmegclmaaW.PrintMore Go.Proofs.Ytbnchibmegclmaa.More2 Go.Proofs.Ytbnchibmegclmaa.Sq
attribute [local go_sem] max2_int min2_int max_two min_two max_three min_three max_four min_four tdiv2e18_ tdiv1e18_ cellSS_  -- for this text's walks alone
set_option linter.unusedVariables false
set_option linter.unusedSimpArgs false
def trig_root.l0 : Nat → Int → Int → Int → Option (Int)
 | 0, _, _, _ => none
 | k + 1, x0, x3, x4 => if x3 < x4 then (if (wrap64 (Int.tdiv (wrap64 ((wrap64 (x3 + x4)) + 1)) 2)) = 0 then (none) else (if (wrap64 (Int.tdiv (wrap64 ((wrap64 (x3 + x4)) + 1)) 2)) ≤ (wrap64 (Int.tdiv x0 (wrap64 (Int.tdiv (wrap64 ((wrap64 (x3 + x4)) + 1)) 2)))) then (trig_root.l0 k x0 (wrap64 (Int.tdiv (wrap64 ((wrap64 (x3 + x4)) + 1)) 2)) x4) else (trig_root.l0 k x0 x3 (wrap64 ((wrap64 (Int.tdiv (wrap64 ((wrap64 (x3 + x4)) + 1)) 2)) - 1))))) else (some x3)
def trig_root.f (k : Nat) (a0 : Int) : Option (Int) := trig_root.l0 k a0 0 2147483648
theorem trig_root.mono_l : ∀ k, (∀ y0 y1 y2, LeO (trig_root.l0 k y0 y1 y2) (trig_root.l0 (k + 1) y0 y1 y2))
 | 0 => fun _ _ _ r h => by simp [trig_root.l0] at h
 | k + 1 => by
  have ih0 := trig_root.mono_l k
  ·intro y0 y1 y2
   unfold trig_root.l0
   repeat' first
   | (with_reducible exact ih0 _ _ _)
   | (with_reducible exact LeO.refl _)
   | (with_reducible exact LeO.none _)
   | (with_reducible refine LeO.ite ?_ ?_)
   | (with_reducible refine LeO.bind ?_ (fun _ => ?_))
   | exact ih0 _ _ _
   | exact LeO.none _
   | refine LeO.ite ?_ ?_
   | refine LeO.bind ?_ (fun _ => ?_)
theorem trig_root.mono : ∀ a0 k, LeO (trig_root.f k a0) (trig_root.f (k + 1) a0) := by
 intro a0 k
 have ih0 := trig_root.mono_l k
 unfold trig_root.f
 repeat' first
   | (with_reducible exact ih0 _ _ _)
   | (with_reducible exact LeO.refl _)
   | (with_reducible exact LeO.none _)
   | (with_reducible refine LeO.ite ?_ ?_)
   | (with_reducible refine LeO.bind ?_ (fun _ => ?_))
   | exact ih0 _ _ _
   | exact LeO.none _
   | refine LeO.ite ?_ ?_
   | refine LeO.bind ?_ (fun _ => ?_)
set_option maxHeartbeats 8000000 in
set_option maxRecDepth 100000 in
theorem trig_root.calls (k : Nat) (a0 : Int) (r : Int) (w : World) (h : trig_root.f k a0 = some r) :
  Calls Try.prog 97 #[.int .i64 a0] w fun e w' => e = .returned (.int .i64 r) ∧ Drawn0 w w' := by
 have H : (trig_root.l0 k a0 0 2147483648) = some r := h
 clear h
 have H' := Aside0.mk H
 clear H
 go_enter Try.func97, Try.ntmps97
 go_wp2
 go_loopg [3, 4] k (fun kq v3 v4 w' => ∃ (x3_1 : Int) (x4_1 : Int), v3 = .int .i64 x3_1 ∧ v4 = .int .i64 x4_1 ∧ Aside0 (trig_root.l0 kq a0 x3_1 x4_1 = some r) ∧ Aside0 (kq ≤ k) ∧ Drawn0 w w')
 case atStart => exact ⟨(0), (2147483648), (by first | rfl | (simp; done) | (simp [*]; done)), (by first | rfl | (simp; done) | (simp [*]; done)), H', ⟨Nat.le_refl _⟩, by repeat (first | exact Drawn0.refl _ | apply Drawn0.step)⟩
 case round =>
  clear H'
  obtain ⟨x3_1, x4_1, rfl, rfl, HA, HK1, ⟨m1, rfl⟩⟩ := hrel
  cases gk with
  | zero => exact absurd HA.out (by simp [trig_root.l0])
  | succ k1 =>
   have H := HA.out
   clear HA
   simp only [trig_root.l0] at H
   by_cases c2 : x3_1 < x4_1
   ·rw [if_pos c2] at H
    have c2b0 : decide (x3_1 < x4_1) = true := decide_eq_true c2
    clear c2
    by_cases c3 : (wrap64 (Int.tdiv (wrap64 ((wrap64 (x3_1 + x4_1)) + 1)) 2)) = 0
    ·rw [if_pos c3] at H
     exact absurd H (by simp)
    ·rw [if_neg c3] at H
     have c3b0 : ((wrap64 (Int.tdiv (wrap64 ((wrap64 (x3_1 + x4_1)) + 1)) 2)) == 0) = false := beq_eq_false_iff_ne.mpr c3
     have c3b1 : ((wrap64 (Int.tdiv (wrap64 ((wrap64 (x3_1 + x4_1)) + 1)) 2)) != 0) = true := bne_iff_ne.mpr c3
     by_cases c4 : (wrap64 (Int.tdiv (wrap64 ((wrap64 (x3_1 + x4_1)) + 1)) 2)) ≤ (wrap64 (Int.tdiv a0 (wrap64 (Int.tdiv (wrap64 ((wrap64 (x3_1 + x4_1)) + 1)) 2))))
     ·rw [if_pos c4] at H
      have c4b0 : decide ((wrap64 (Int.tdiv (wrap64 ((wrap64 (x3_1 + x4_1)) + 1)) 2)) ≤ (wrap64 (Int.tdiv a0 (wrap64 (Int.tdiv (wrap64 ((wrap64 (x3_1 + x4_1)) + 1)) 2))))) = true := decide_eq_true c4
      clear c4
      have H' := Aside0.mk H
      clear H
      go_wp2
      go_roundg k1
      case measure => have := HK1.out; omega
      case rel => exact ⟨(wrap64 (Int.tdiv (wrap64 ((wrap64 (x3_1 + x4_1)) + 1)) 2)), (x4_1), (by first | rfl | (simp; done) | (simp [*]; done)), (by first | rfl | (simp; done) | (simp [*]; done)), H', ⟨by have := HK1.out; omega⟩, by repeat (first | exact Drawn0.refl _ | apply Drawn0.step)⟩
     ·rw [if_neg c4] at H
      have c4b0 : decide ((wrap64 (Int.tdiv (wrap64 ((wrap64 (x3_1 + x4_1)) + 1)) 2)) ≤ (wrap64 (Int.tdiv a0 (wrap64 (Int.tdiv (wrap64 ((wrap64 (x3_1 + x4_1)) + 1)) 2))))) = false := decide_eq_false c4
      clear c4
      have H' := Aside0.mk H
      clear H
      go_wp2
      go_roundg k1
      case measure => have := HK1.out; omega
      case rel => exact ⟨(x3_1), (wrap64 ((wrap64 (Int.tdiv (wrap64 ((wrap64 (x3_1 + x4_1)) + 1)) 2)) - 1)), (by first | rfl | (simp; done) | (simp [*]; done)), (by first | rfl | (simp; done) | (simp [*]; done)), H', ⟨by have := HK1.out; omega⟩, by repeat (first | exact Drawn0.refl _ | apply Drawn0.step)⟩
   ·rw [if_neg c2] at H
    have c2b0 : decide (x3_1 < x4_1) = false := decide_eq_false c2
    clear c2
    obtain rfl := Option.some.inj H
    simp only [Option.some.injEq, Prod.mk.injEq] at H
    obtain ⟨rfl⟩ := H
    go_wp2
    go_ret
    exact ⟨by first | rfl | (simp; done) | (simp [*]; done), by repeat (first | exact Drawn0.refl _ | apply Drawn0.step)⟩
end Go.Proofs.Ytbnchibmegclmaa.PAll
end
section
namespace Go.Proofs.Ytbnchibmegclmaa.PAll
open Go.RowKit Go.Proofs.YtbnchibmegclmaaW.PrintWords Go.Proofs.YtbnchibmegclmaaW.PrintLast Go.Proofs.YtbnchibmegclmaaW.PrintMore Go.Proofs.Ytbnchibmegclmaa.More2 Go.Proofs.Ytbnchibmegclmaa.Sq
attribute [local go_sem] max2_int min2_int max_two min_two max_three min_three max_four min_four tdiv2e18_ tdiv1e18_ cellSS_  -- for this text's walks alone
set_option linter.unusedVariables false
set_option linter.unusedSimpArgs false
def trig_ArcSin.f (k : Nat) (a0_0 : Int) (a0_1 : Int) : Option (Int × Int × Int) := (interval_Check.f k a0_0 a0_1).bind fun t296 => (if t296 = 0 then ((trig_root.f k (wrap64 (1000000000000000000 - (wrap64 ((mx (-1000000000) (mn 1000000000 a0_0)) * (mx (-1000000000) (mn 1000000000 a0_0))))))).bind fun t297 => ((trig_direction.f k (mx (-1000000000) (mn 1000000000 a0_0)) t297).bind fun bt298 => ((trig_root.f k (wrap64 (1000000000000000000 - (wrap64 ((mx (-1000000000) (mn 1000000000 a0_1)) * (mx (-1000000000) (mn 1000000000 a0_1))))))).bind fun t301 => ((trig_direction.f k (mx (-1000000000) (mn 1000000000 a0_1)) t301).bind fun bt302 => (some (mx (-250000000) (wrap64 (bt298.1 - 1)), mn 250000000 (wrap64 (bt302.2 + 1)), 0)))))) else (some (0, 0, t296)))
theorem trig_ArcSin.mono : ∀ a0 a1 k, LeO (trig_ArcSin.f k a0 a1) (trig_ArcSin.f (k + 1) a0 a1) := by
 intro a0 a1 k
 unfold trig_ArcSin.f
 repeat' first
   | (with_reducible exact interval_Check.mono _ _ _)
   | (with_reducible exact trig_direction.mono _ _ _)
   | (with_reducible exact trig_root.mono _ _)
   | (with_reducible exact LeO.refl _)
   | (with_reducible exact LeO.none _)
   | (with_reducible refine LeO.ite ?_ ?_)
   | (with_reducible refine LeO.bind ?_ (fun _ => ?_))
   | exact interval_Check.mono _ _ _
   | exact trig_direction.mono _ _ _
   | exact trig_root.mono _ _
   | exact LeO.none _
   | refine LeO.ite ?_ ?_
   | refine LeO.bind ?_ (fun _ => ?_)
set_option maxHeartbeats 8000000 in
set_option maxRecDepth 100000 in
theorem trig_ArcSin.calls (k : Nat) (a0_0 : Int) (a0_1 : Int) (r1 : Int) (r2 : Int) (r3 : Int) (w : World) (h : trig_ArcSin.f k a0_0 a0_1 = some (r1, r2, r3)) :
  Calls Try.prog 61 #[.agg #[.int .i64 a0_0, .int .i64 a0_1]] w fun e w' => e = .returned (.tuple #[.agg #[.int .i64 r1, .int .i64 r2], .int .i64 r3]) ∧ Below w.heap.size w w' := by
 have hu24 := Try.underlying24
 have HB := Aside0.mk (Below.refl w.heap.size w)
 have H : ((interval_Check.f k a0_0 a0_1).bind fun t296 => (if t296 = 0 then ((trig_root.f k (wrap64 (1000000000000000000 - (wrap64 ((mx (-1000000000) (mn 1000000000 a0_0)) * (mx (-1000000000) (mn 1000000000 a0_0))))))).bind fun t297 => ((trig_direction.f k (mx (-1000000000) (mn 1000000000 a0_0)) t297).bind fun bt298 => ((trig_root.f k (wrap64 (1000000000000000000 - (wrap64 ((mx (-1000000000) (mn 1000000000 a0_1)) * (mx (-1000000000) (mn 1000000000 a0_1))))))).bind fun t301 => ((trig_direction.f k (mx (-1000000000) (mn 1000000000 a0_1)) t301).bind fun bt302 => (some (mx (-250000000) (wrap64 (bt298.1 - 1)), mn 250000000 (wrap64 (bt302.2 + 1)), 0)))))) else (some (0, 0, t296)))) = some (r1, r2, r3) := h
 clear h
 replace H := Option.bind_eq_some_iff.mp H
 obtain ⟨t296, A20, H⟩ := H
 replace H : (if t296 = 0 then ((trig_root.f k (wrap64 (1000000000000000000 - (wrap64 ((mx (-1000000000) (mn 1000000000 a0_0)) * (mx (-1000000000) (mn 1000000000 a0_0))))))).bind fun t297 => ((trig_direction.f k (mx (-1000000000) (mn 1000000000 a0_0)) t297).bind fun bt298 => ((trig_root.f k (wrap64 (1000000000000000000 - (wrap64 ((mx (-1000000000) (mn 1000000000 a0_1)) * (mx (-1000000000) (mn 1000000000 a0_1))))))).bind fun t301 => ((trig_direction.f k (mx (-1000000000) (mn 1000000000 a0_1)) t301).bind fun bt302 => (some (mx (-250000000) (wrap64 (bt298.1 - 1)), mn 250000000 (wrap64 (bt302.2 + 1)), 0)))))) else (some (0, 0, t296))) = some (r1, r2, r3) := H
 have A2 := Aside0.mk A20
 clear A20
 have HC3 := Aside0.mk H
 clear H
 go_enter Try.func61, Try.ntmps61
 go_upto_if 12 with (first | ((with_reducible refine gate_dst (N := 1) rfl ?_); refine box_event ?hg (N := 1) ?hd (cs := #[.int .i64 a0_0, .int .i64 a0_1]) (t := 24) ?hr ?_; (case hd => rfl); (case hg => rfl); (case hr => first | (go_simp; done) | (go_simp; rfl)); intro gb294 hg w4 hbox hb; have BK294 := Aside0.mk (hbox); have GW294 := ge_ hg HB; have GE294 := ge_ hg HB; replace HB := bs_ HB hb; clear hb hbox hg) | ((with_reducible refine gate_dst (N := 2) rfl ?_); refine box_event ?hg (N := 2) ?hd (cs := #[.int .i64 0, .int .i64 0]) (t := 24) ?hr ?_; (case hd => rfl); (case hg => rfl); (case hr => first | (go_simp; done) | (go_simp; rfl)); intro gb295 hg w5 hbox hb; have BK295 := Aside0.mk (hbox); have GW295 := ge_ hg HB; have GE295 := ge_ hg HB; have NB294_295 := nl_ hg BK294; have NB295_294 := ng_ hg BK294; replace BK294 := kb_ BK294 hb; replace HB := bs_ HB hb; clear hb hbox hg; have hnb6 := NB294_295.out; have hnc6 := NB295_294.out; have hcz7_0 : w5.cell? ⟨gb294, 0, none⟩ = some (.int .i64 a0_0) := (blk_cell BK294.out 0).trans rfl; have hcz7_1 : w5.cell? ⟨gb294, 1, none⟩ = some (.int .i64 a0_1) := (blk_cell BK294.out 1).trans rfl; have hfz7_0 := blk_frozen BK294.out 0; have hfz7_1 := blk_frozen BK294.out 1) | (go_at_call 52; (with_reducible refine (interval_Check.calls k a0_0 a0_1 t296 _ A2.out).mono ?_); rintro e w8 ⟨rfl, hb⟩; replace BK294 := kb_ BK294 hb; replace BK295 := kb_ BK295 hb; replace HB := bs_ HB hb; (try clear hb); (try clear hb2); (try clear hk); (try clear hi)))
 repeat (go_quiet (first | ((with_reducible refine gate_dst (N := 1) rfl ?_); refine box_event ?hg (N := 1) ?hd (cs := #[.int .i64 a0_0, .int .i64 a0_1]) (t := 24) ?hr ?_; (case hd => rfl); (case hg => rfl); (case hr => first | (go_simp; done) | (go_simp; rfl)); intro gb294 hg w4 hbox hb; have BK294 := Aside0.mk (hbox); have GW294 := ge_ hg HB; have GE294 := ge_ hg HB; replace HB := bs_ HB hb; clear hb hbox hg) | ((with_reducible refine gate_dst (N := 2) rfl ?_); refine box_event ?hg (N := 2) ?hd (cs := #[.int .i64 0, .int .i64 0]) (t := 24) ?hr ?_; (case hd => rfl); (case hg => rfl); (case hr => first | (go_simp; done) | (go_simp; rfl)); intro gb295 hg w5 hbox hb; have BK295 := Aside0.mk (hbox); have GW295 := ge_ hg HB; have GE295 := ge_ hg HB; have NB294_295 := nl_ hg BK294; have NB295_294 := ng_ hg BK294; replace BK294 := kb_ BK294 hb; replace HB := bs_ HB hb; clear hb hbox hg; have hnb6 := NB294_295.out; have hnc6 := NB295_294.out; have hcz7_0 : w5.cell? ⟨gb294, 0, none⟩ = some (.int .i64 a0_0) := (blk_cell BK294.out 0).trans rfl; have hcz7_1 : w5.cell? ⟨gb294, 1, none⟩ = some (.int .i64 a0_1) := (blk_cell BK294.out 1).trans rfl; have hfz7_0 := blk_frozen BK294.out 0; have hfz7_1 := blk_frozen BK294.out 1) | (go_at_call 52; (with_reducible refine (interval_Check.calls k a0_0 a0_1 t296 _ A2.out).mono ?_); rintro e w8 ⟨rfl, hb⟩; replace BK294 := kb_ BK294 hb; replace BK295 := kb_ BK295 hb; replace HB := bs_ HB hb; (try clear hb); (try clear hb2); (try clear hk); (try clear hi))); go_upto_if 12 with (first | ((with_reducible refine gate_dst (N := 1) rfl ?_); refine box_event ?hg (N := 1) ?hd (cs := #[.int .i64 a0_0, .int .i64 a0_1]) (t := 24) ?hr ?_; (case hd => rfl); (case hg => rfl); (case hr => first | (go_simp; done) | (go_simp; rfl)); intro gb294 hg w4 hbox hb; have BK294 := Aside0.mk (hbox); have GW294 := ge_ hg HB; have GE294 := ge_ hg HB; replace HB := bs_ HB hb; clear hb hbox hg) | ((with_reducible refine gate_dst (N := 2) rfl ?_); refine box_event ?hg (N := 2) ?hd (cs := #[.int .i64 0, .int .i64 0]) (t := 24) ?hr ?_; (case hd => rfl); (case hg => rfl); (case hr => first | (go_simp; done) | (go_simp; rfl)); intro gb295 hg w5 hbox hb; have BK295 := Aside0.mk (hbox); have GW295 := ge_ hg HB; have GE295 := ge_ hg HB; have NB294_295 := nl_ hg BK294; have NB295_294 := ng_ hg BK294; replace BK294 := kb_ BK294 hb; replace HB := bs_ HB hb; clear hb hbox hg; have hnb6 := NB294_295.out; have hnc6 := NB295_294.out; have hcz7_0 : w5.cell? ⟨gb294, 0, none⟩ = some (.int .i64 a0_0) := (blk_cell BK294.out 0).trans rfl; have hcz7_1 : w5.cell? ⟨gb294, 1, none⟩ = some (.int .i64 a0_1) := (blk_cell BK294.out 1).trans rfl; have hfz7_0 := blk_frozen BK294.out 0; have hfz7_1 := blk_frozen BK294.out 1) | (go_at_call 52; (with_reducible refine (interval_Check.calls k a0_0 a0_1 t296 _ A2.out).mono ?_); rintro e w8 ⟨rfl, hb⟩; replace BK294 := kb_ BK294 hb; replace BK295 := kb_ BK295 hb; replace HB := bs_ HB hb; (try clear hb); (try clear hb2); (try clear hk); (try clear hi))))
 (try simp only [Act.put, List.setIfInBounds_toArray, List.set_cons_zero, List.set_cons_succ])
 have H := HC3.out
 clear HC3
 by_cases c9 : t296 = 0
 ·rw [if_pos c9] at H
  have c9b0 : (t296 == 0) = true := beq_iff_eq.mpr c9
  have c9b1 : (t296 != 0) = false := bne_eq_false_iff_eq.mpr c9
  clear c9
  (first | rw [c9b0] | (simp only [i64_w, i32_w]; rw [c9b0]) | skip)
  obtain ⟨ji10, hji10⟩ : ∃ j_ : Int, (mn 1000000000 a0_0) = j_ := ⟨_, rfl⟩
  replace H : ((trig_root.f k (wrap64 (1000000000000000000 - (wrap64 ((mx (-1000000000) (ji10)) * (mx (-1000000000) (ji10))))))).bind fun t297 => ((trig_direction.f k (mx (-1000000000) (ji10)) t297).bind fun bt298 => ((trig_root.f k (wrap64 (1000000000000000000 - (wrap64 ((mx (-1000000000) (mn 1000000000 a0_1)) * (mx (-1000000000) (mn 1000000000 a0_1))))))).bind fun t301 => ((trig_direction.f k (mx (-1000000000) (mn 1000000000 a0_1)) t301).bind fun bt302 => (some (mx (-250000000) (wrap64 (bt298.1 - 1)), mn 250000000 (wrap64 (bt302.2 + 1)), 0)))))) = some (r1, r2, r3) := by first | (rw [hji10] at H; exact H) | (simp only [hji10] at H ⊢; exact H)
  (try (have hji10h : ji10 ≤ 1000000000 := by (rw [← hji10]; unfold mn; (repeat' split) <;> omega)))
  (try (have hji10g : ji10 ≤ 64 := by omega))
  have hji10_ : (if a0_0 < 1000000000 then a0_0 else 1000000000) = ji10 := hji10
  obtain ⟨ji11, hji11⟩ : ∃ j_ : Int, (mx (-1000000000) (ji10)) = j_ := ⟨_, rfl⟩
  replace H : ((trig_root.f k (wrap64 (1000000000000000000 - (wrap64 ((ji11) * (ji11)))))).bind fun t297 => ((trig_direction.f k (ji11) t297).bind fun bt298 => ((trig_root.f k (wrap64 (1000000000000000000 - (wrap64 ((mx (-1000000000) (mn 1000000000 a0_1)) * (mx (-1000000000) (mn 1000000000 a0_1))))))).bind fun t301 => ((trig_direction.f k (mx (-1000000000) (mn 1000000000 a0_1)) t301).bind fun bt302 => (some (mx (-250000000) (wrap64 (bt298.1 - 1)), mn 250000000 (wrap64 (bt302.2 + 1)), 0)))))) = some (r1, r2, r3) := by first | (rw [hji11] at H; exact H) | (simp only [hji11] at H ⊢; exact H)
  have hji11_ : (if (-1000000000) < (ji10) then (ji10) else (-1000000000)) = ji11 := hji11
  obtain ⟨ji12, hji12⟩ : ∃ j_ : Int, (mn 1000000000 a0_1) = j_ := ⟨_, rfl⟩
  replace H : ((trig_root.f k (wrap64 (1000000000000000000 - (wrap64 ((ji11) * (ji11)))))).bind fun t297 => ((trig_direction.f k (ji11) t297).bind fun bt298 => ((trig_root.f k (wrap64 (1000000000000000000 - (wrap64 ((mx (-1000000000) (ji12)) * (mx (-1000000000) (ji12))))))).bind fun t301 => ((trig_direction.f k (mx (-1000000000) (ji12)) t301).bind fun bt302 => (some (mx (-250000000) (wrap64 (bt298.1 - 1)), mn 250000000 (wrap64 (bt302.2 + 1)), 0)))))) = some (r1, r2, r3) := by first | (rw [hji12] at H; exact H) | (simp only [hji12] at H ⊢; exact H)
  (try (have hji12h : ji12 ≤ 1000000000 := by (rw [← hji12]; unfold mn; (repeat' split) <;> omega)))
  (try (have hji12g : ji12 ≤ 64 := by omega))
  have hji12_ : (if a0_1 < 1000000000 then a0_1 else 1000000000) = ji12 := hji12
  obtain ⟨ji13, hji13⟩ : ∃ j_ : Int, (mx (-1000000000) (ji12)) = j_ := ⟨_, rfl⟩
  replace H : ((trig_root.f k (wrap64 (1000000000000000000 - (wrap64 ((ji11) * (ji11)))))).bind fun t297 => ((trig_direction.f k (ji11) t297).bind fun bt298 => ((trig_root.f k (wrap64 (1000000000000000000 - (wrap64 ((ji13) * (ji13)))))).bind fun t301 => ((trig_direction.f k (ji13) t301).bind fun bt302 => (some (mx (-250000000) (wrap64 (bt298.1 - 1)), mn 250000000 (wrap64 (bt302.2 + 1)), 0)))))) = some (r1, r2, r3) := by first | (rw [hji13] at H; exact H) | (simp only [hji13] at H ⊢; exact H)
  have hji13_ : (if (-1000000000) < (ji12) then (ji12) else (-1000000000)) = ji13 := hji13
  replace H := Option.bind_eq_some_iff.mp H
  obtain ⟨t297, A140, H⟩ := H
  replace H : ((trig_direction.f k (ji11) t297).bind fun bt298 => ((trig_root.f k (wrap64 (1000000000000000000 - (wrap64 ((ji13) * (ji13)))))).bind fun t301 => ((trig_direction.f k (ji13) t301).bind fun bt302 => (some (mx (-250000000) (wrap64 (bt298.1 - 1)), mn 250000000 (wrap64 (bt302.2 + 1)), 0))))) = some (r1, r2, r3) := H
  have A14 := Aside0.mk A140
  clear A140
  replace H := Option.bind_eq_some_iff.mp H
  obtain ⟨⟨t298, t299⟩, A150, H⟩ := H
  replace H : ((trig_root.f k (wrap64 (1000000000000000000 - (wrap64 ((ji13) * (ji13)))))).bind fun t301 => ((trig_direction.f k (ji13) t301).bind fun bt302 => (some (mx (-250000000) (wrap64 (t298 - 1)), mn 250000000 (wrap64 (bt302.2 + 1)), 0)))) = some (r1, r2, r3) := H
  have A15 := Aside0.mk A150
  clear A150
  replace H := Option.bind_eq_some_iff.mp H
  obtain ⟨t301, A160, H⟩ := H
  replace H : ((trig_direction.f k (ji13) t301).bind fun bt302 => (some (mx (-250000000) (wrap64 (t298 - 1)), mn 250000000 (wrap64 (bt302.2 + 1)), 0))) = some (r1, r2, r3) := H
  have A16 := Aside0.mk A160
  clear A160
  replace H := Option.bind_eq_some_iff.mp H
  obtain ⟨⟨t302, t303⟩, A170, H⟩ := H
  replace H : (some (mx (-250000000) (wrap64 (t298 - 1)), mn 250000000 (wrap64 (t303 + 1)), 0)) = some (r1, r2, r3) := H
  have A17 := Aside0.mk A170
  clear A170
  obtain ⟨ji18, hji18⟩ : ∃ j_ : Int, (mx (-250000000) (wrap64 (t298 - 1))) = j_ := ⟨_, rfl⟩
  replace H : (some (ji18, mn 250000000 (wrap64 (t303 + 1)), 0)) = some (r1, r2, r3) := by first | (rw [hji18] at H; exact H) | (simp only [hji18] at H ⊢; exact H)
  (try rw [hji18] at A14)
  (try rw [hji18] at A15)
  (try rw [hji18] at A16)
  (try rw [hji18] at A17)
  have hji18_ : (if (-250000000) < (wrap64 (t298 - 1)) then (wrap64 (t298 - 1)) else (-250000000)) = ji18 := hji18
  obtain ⟨ji19, hji19⟩ : ∃ j_ : Int, (mn 250000000 (wrap64 (t303 + 1))) = j_ := ⟨_, rfl⟩
  replace H : (some (ji18, ji19, 0)) = some (r1, r2, r3) := by first | (rw [hji19] at H; exact H) | (simp only [hji19] at H ⊢; exact H)
  (try rw [hji19] at A14)
  (try rw [hji19] at A15)
  (try rw [hji19] at A16)
  (try rw [hji19] at A17)
  (try (have hji19h : ji19 ≤ 250000000 := by (rw [← hji19]; unfold mn; (repeat' split) <;> omega)))
  (try (have hji19g : ji19 ≤ 64 := by omega))
  have hji19_ : (if (wrap64 (t303 + 1)) < 250000000 then (wrap64 (t303 + 1)) else 250000000) = ji19 := hji19
  simp only [Option.some.injEq, Prod.mk.injEq] at H
  obtain ⟨rfl, rfl, rfl⟩ := H
  have hnb20 := NB294_295.out
  have hnc20 := NB295_294.out
  have hcz21_0 : w8.cell? ⟨gb294, 0, none⟩ = some (.int .i64 a0_0) := (blk_cell BK294.out 0).trans rfl
  have hcz21_1 : w8.cell? ⟨gb294, 1, none⟩ = some (.int .i64 a0_1) := (blk_cell BK294.out 1).trans rfl
  have hfz21_0 := blk_frozen BK294.out 0
  have hfz21_1 := blk_frozen BK294.out 1
  go_wp2_with (first | (go_at_call 97; (with_reducible refine (trig_root.calls k (wrap64 (1000000000000000000 - (wrap64 ((ji11) * (ji11))))) t297 _ A14.out).mono ?_); rintro e w' ⟨rfl, ⟨nd, rfl⟩⟩; (try first | exact ⟨rfl, _, World.drewN_drewN _ _ _⟩ | exact ⟨rfl, _, Eq.trans (World.drewN_drewN _ _ _) (congrArg (World.drewN _) (Nat.add_assoc _ _ _))⟩)) | (go_at_call 95; (with_reducible refine (trig_direction.calls k ji11 t297 t298 t299 _ A15.out).mono ?_); rintro e w22 ⟨rfl, hb⟩; replace BK294 := kb_ BK294 hb; replace BK295 := kb_ BK295 hb; replace HB := bs_ HB hb; (try clear hb); (try clear hb2); (try clear hk); (try clear hi)) | ((with_reducible refine gate_dst (N := 7) rfl ?_); refine box_event ?hg (N := 7) ?hd (cs := #[.int .i64 0, .int .i64 0]) (t := 24) ?hr ?_; (case hd => rfl); (case hg => rfl); (case hr => first | (go_simp; done) | (go_simp; rfl)); intro gb300 hg w23 hbox hb; have BK300 := Aside0.mk (hbox); have GW300 := ge_ hg HB; have GE300 := ge_ hg HB; have NB294_300 := nl_ hg BK294; have NB300_294 := ng_ hg BK294; have NB295_300 := nl_ hg BK295; have NB300_295 := ng_ hg BK295; replace BK294 := kb_ BK294 hb; replace BK295 := kb_ BK295 hb; replace HB := bs_ HB hb; clear hb hbox hg; have hnb24 := NB300_294.out; have hnc24 := NB294_300.out; have hnb25 := NB300_295.out; have hnc25 := NB295_300.out; have hcz26_0 : w23.cell? ⟨gb300, 0, none⟩ = some (.int .i64 0) := (blk_cell BK300.out 0).trans rfl; have hcz26_1 : w23.cell? ⟨gb300, 1, none⟩ = some (.int .i64 0) := (blk_cell BK300.out 1).trans rfl; have hfz26_0 := blk_frozen BK300.out 0; have hfz26_1 := blk_frozen BK300.out 1) | (go_at_call 97; (with_reducible refine (trig_root.calls k (wrap64 (1000000000000000000 - (wrap64 ((ji13) * (ji13))))) t301 _ A16.out).mono ?_); rintro e w' ⟨rfl, ⟨nd, rfl⟩⟩; (try first | exact ⟨rfl, _, World.drewN_drewN _ _ _⟩ | exact ⟨rfl, _, Eq.trans (World.drewN_drewN _ _ _) (congrArg (World.drewN _) (Nat.add_assoc _ _ _))⟩)) | (go_at_call 95; (with_reducible refine (trig_direction.calls k ji13 t301 t302 t303 _ A17.out).mono ?_); rintro e w27 ⟨rfl, hb⟩; have n0_ := kb_ BK294 hb; have n1_ := kb_ BK295 hb; have n2_ := Aside0.mk (blk_below (g := gb300) (o := .cells #[.int .i64 t298, .int .i64 t299] 24 (0, 0)) (by (with_reducible repeat (first | refine blk_drewN ?_ _ | refine blk_drew ?_ | refine blk_alloc ?_ _)); refine blk_put (cs := #[.int .i64 t298, .int .i64 0]) ?_ 1 _ rfl; (with_reducible repeat (first | refine blk_drewN ?_ _ | refine blk_drew ?_ | refine blk_alloc ?_ _)); refine blk_put (cs := #[.int .i64 0, .int .i64 0]) ?_ 0 _ rfl; (with_reducible repeat (first | refine blk_drewN ?_ _ | refine blk_drew ?_ | refine blk_alloc ?_ _)); exact BK300.out) hb); have n3_ := bs_ HB hb; clear BK294; clear BK295; clear BK300; clear HB; have BK294 := n0_; have BK295 := n1_; have BK300 := n2_; have HB := n3_; clear n0_ n1_ n2_ n3_; (try clear hb); (try clear hb2); (try clear hk); (try clear hi)) | ((with_reducible refine gate_dst (N := 8) rfl ?_); refine box_event ?hg (N := 8) ?hd (cs := #[.int .i64 0, .int .i64 0]) (t := 24) ?hr ?_; (case hd => rfl); (case hg => rfl); (case hr => first | (go_simp; done) | (go_simp; rfl)); intro gb304 hg w28 hbox hb; have BK304 := Aside0.mk (hbox); have GW304 := ge_ hg HB; have GE304 := ge_ hg HB; have NB294_304 := nl_ hg BK294; have NB304_294 := ng_ hg BK294; have NB295_304 := nl_ hg BK295; have NB304_295 := ng_ hg BK295; have NB300_304 := nl_ hg BK300; have NB304_300 := ng_ hg BK300; replace BK294 := kb_ BK294 hb; replace BK295 := kb_ BK295 hb; replace BK300 := kb_ BK300 hb; replace HB := bs_ HB hb; clear hb hbox hg; have hnb29 := NB304_294.out; have hnc29 := NB294_304.out; have hnb30 := NB304_295.out; have hnc30 := NB295_304.out; have hnb31 := NB304_300.out; have hnc31 := NB300_304.out; have hcz32_0 : w28.cell? ⟨gb304, 0, none⟩ = some (.int .i64 0) := (blk_cell BK304.out 0).trans rfl; have hcz32_1 : w28.cell? ⟨gb304, 1, none⟩ = some (.int .i64 0) := (blk_cell BK304.out 1).trans rfl; have hfz32_0 := blk_frozen BK304.out 0; have hfz32_1 := blk_frozen BK304.out 1; have hcz33_0 : w28.cell? ⟨gb300, 0, none⟩ = some (.int .i64 t298) := (blk_cell BK300.out 0).trans rfl; have hcz33_1 : w28.cell? ⟨gb300, 1, none⟩ = some (.int .i64 t299) := (blk_cell BK300.out 1).trans rfl; have hfz33_0 := blk_frozen BK300.out 0; have hfz33_1 := blk_frozen BK300.out 1; have hcz34_0 : w28.cell? ⟨gb295, 0, none⟩ = some (.int .i64 0) := (blk_cell BK295.out 0).trans rfl; have hcz34_1 : w28.cell? ⟨gb295, 1, none⟩ = some (.int .i64 0) := (blk_cell BK295.out 1).trans rfl; have hfz34_0 := blk_frozen BK295.out 0; have hfz34_1 := blk_frozen BK295.out 1))
  repeat (go_quiet (first | (go_at_call 97; (with_reducible refine (trig_root.calls k (wrap64 (1000000000000000000 - (wrap64 ((ji11) * (ji11))))) t297 _ A14.out).mono ?_); rintro e w' ⟨rfl, ⟨nd, rfl⟩⟩; (try first | exact ⟨rfl, _, World.drewN_drewN _ _ _⟩ | exact ⟨rfl, _, Eq.trans (World.drewN_drewN _ _ _) (congrArg (World.drewN _) (Nat.add_assoc _ _ _))⟩)) | (go_at_call 95; (with_reducible refine (trig_direction.calls k ji11 t297 t298 t299 _ A15.out).mono ?_); rintro e w22 ⟨rfl, hb⟩; replace BK294 := kb_ BK294 hb; replace BK295 := kb_ BK295 hb; replace HB := bs_ HB hb; (try clear hb); (try clear hb2); (try clear hk); (try clear hi)) | ((with_reducible refine gate_dst (N := 7) rfl ?_); refine box_event ?hg (N := 7) ?hd (cs := #[.int .i64 0, .int .i64 0]) (t := 24) ?hr ?_; (case hd => rfl); (case hg => rfl); (case hr => first | (go_simp; done) | (go_simp; rfl)); intro gb300 hg w23 hbox hb; have BK300 := Aside0.mk (hbox); have GW300 := ge_ hg HB; have GE300 := ge_ hg HB; have NB294_300 := nl_ hg BK294; have NB300_294 := ng_ hg BK294; have NB295_300 := nl_ hg BK295; have NB300_295 := ng_ hg BK295; replace BK294 := kb_ BK294 hb; replace BK295 := kb_ BK295 hb; replace HB := bs_ HB hb; clear hb hbox hg; have hnb24 := NB300_294.out; have hnc24 := NB294_300.out; have hnb25 := NB300_295.out; have hnc25 := NB295_300.out; have hcz26_0 : w23.cell? ⟨gb300, 0, none⟩ = some (.int .i64 0) := (blk_cell BK300.out 0).trans rfl; have hcz26_1 : w23.cell? ⟨gb300, 1, none⟩ = some (.int .i64 0) := (blk_cell BK300.out 1).trans rfl; have hfz26_0 := blk_frozen BK300.out 0; have hfz26_1 := blk_frozen BK300.out 1) | (go_at_call 97; (with_reducible refine (trig_root.calls k (wrap64 (1000000000000000000 - (wrap64 ((ji13) * (ji13))))) t301 _ A16.out).mono ?_); rintro e w' ⟨rfl, ⟨nd, rfl⟩⟩; (try first | exact ⟨rfl, _, World.drewN_drewN _ _ _⟩ | exact ⟨rfl, _, Eq.trans (World.drewN_drewN _ _ _) (congrArg (World.drewN _) (Nat.add_assoc _ _ _))⟩)) | (go_at_call 95; (with_reducible refine (trig_direction.calls k ji13 t301 t302 t303 _ A17.out).mono ?_); rintro e w27 ⟨rfl, hb⟩; have n0_ := kb_ BK294 hb; have n1_ := kb_ BK295 hb; have n2_ := Aside0.mk (blk_below (g := gb300) (o := .cells #[.int .i64 t298, .int .i64 t299] 24 (0, 0)) (by (with_reducible repeat (first | refine blk_drewN ?_ _ | refine blk_drew ?_ | refine blk_alloc ?_ _)); refine blk_put (cs := #[.int .i64 t298, .int .i64 0]) ?_ 1 _ rfl; (with_reducible repeat (first | refine blk_drewN ?_ _ | refine blk_drew ?_ | refine blk_alloc ?_ _)); refine blk_put (cs := #[.int .i64 0, .int .i64 0]) ?_ 0 _ rfl; (with_reducible repeat (first | refine blk_drewN ?_ _ | refine blk_drew ?_ | refine blk_alloc ?_ _)); exact BK300.out) hb); have n3_ := bs_ HB hb; clear BK294; clear BK295; clear BK300; clear HB; have BK294 := n0_; have BK295 := n1_; have BK300 := n2_; have HB := n3_; clear n0_ n1_ n2_ n3_; (try clear hb); (try clear hb2); (try clear hk); (try clear hi)) | ((with_reducible refine gate_dst (N := 8) rfl ?_); refine box_event ?hg (N := 8) ?hd (cs := #[.int .i64 0, .int .i64 0]) (t := 24) ?hr ?_; (case hd => rfl); (case hg => rfl); (case hr => first | (go_simp; done) | (go_simp; rfl)); intro gb304 hg w28 hbox hb; have BK304 := Aside0.mk (hbox); have GW304 := ge_ hg HB; have GE304 := ge_ hg HB; have NB294_304 := nl_ hg BK294; have NB304_294 := ng_ hg BK294; have NB295_304 := nl_ hg BK295; have NB304_295 := ng_ hg BK295; have NB300_304 := nl_ hg BK300; have NB304_300 := ng_ hg BK300; replace BK294 := kb_ BK294 hb; replace BK295 := kb_ BK295 hb; replace BK300 := kb_ BK300 hb; replace HB := bs_ HB hb; clear hb hbox hg; have hnb29 := NB304_294.out; have hnc29 := NB294_304.out; have hnb30 := NB304_295.out; have hnc30 := NB295_304.out; have hnb31 := NB304_300.out; have hnc31 := NB300_304.out; have hcz32_0 : w28.cell? ⟨gb304, 0, none⟩ = some (.int .i64 0) := (blk_cell BK304.out 0).trans rfl; have hcz32_1 : w28.cell? ⟨gb304, 1, none⟩ = some (.int .i64 0) := (blk_cell BK304.out 1).trans rfl; have hfz32_0 := blk_frozen BK304.out 0; have hfz32_1 := blk_frozen BK304.out 1; have hcz33_0 : w28.cell? ⟨gb300, 0, none⟩ = some (.int .i64 t298) := (blk_cell BK300.out 0).trans rfl; have hcz33_1 : w28.cell? ⟨gb300, 1, none⟩ = some (.int .i64 t299) := (blk_cell BK300.out 1).trans rfl; have hfz33_0 := blk_frozen BK300.out 0; have hfz33_1 := blk_frozen BK300.out 1; have hcz34_0 : w28.cell? ⟨gb295, 0, none⟩ = some (.int .i64 0) := (blk_cell BK295.out 0).trans rfl; have hcz34_1 : w28.cell? ⟨gb295, 1, none⟩ = some (.int .i64 0) := (blk_cell BK295.out 1).trans rfl; have hfz34_0 := blk_frozen BK295.out 0; have hfz34_1 := blk_frozen BK295.out 1)); try go_wp2_with (first | (go_at_call 97; (with_reducible refine (trig_root.calls k (wrap64 (1000000000000000000 - (wrap64 ((ji11) * (ji11))))) t297 _ A14.out).mono ?_); rintro e w' ⟨rfl, ⟨nd, rfl⟩⟩; (try first | exact ⟨rfl, _, World.drewN_drewN _ _ _⟩ | exact ⟨rfl, _, Eq.trans (World.drewN_drewN _ _ _) (congrArg (World.drewN _) (Nat.add_assoc _ _ _))⟩)) | (go_at_call 95; (with_reducible refine (trig_direction.calls k ji11 t297 t298 t299 _ A15.out).mono ?_); rintro e w22 ⟨rfl, hb⟩; replace BK294 := kb_ BK294 hb; replace BK295 := kb_ BK295 hb; replace HB := bs_ HB hb; (try clear hb); (try clear hb2); (try clear hk); (try clear hi)) | ((with_reducible refine gate_dst (N := 7) rfl ?_); refine box_event ?hg (N := 7) ?hd (cs := #[.int .i64 0, .int .i64 0]) (t := 24) ?hr ?_; (case hd => rfl); (case hg => rfl); (case hr => first | (go_simp; done) | (go_simp; rfl)); intro gb300 hg w23 hbox hb; have BK300 := Aside0.mk (hbox); have GW300 := ge_ hg HB; have GE300 := ge_ hg HB; have NB294_300 := nl_ hg BK294; have NB300_294 := ng_ hg BK294; have NB295_300 := nl_ hg BK295; have NB300_295 := ng_ hg BK295; replace BK294 := kb_ BK294 hb; replace BK295 := kb_ BK295 hb; replace HB := bs_ HB hb; clear hb hbox hg; have hnb24 := NB300_294.out; have hnc24 := NB294_300.out; have hnb25 := NB300_295.out; have hnc25 := NB295_300.out; have hcz26_0 : w23.cell? ⟨gb300, 0, none⟩ = some (.int .i64 0) := (blk_cell BK300.out 0).trans rfl; have hcz26_1 : w23.cell? ⟨gb300, 1, none⟩ = some (.int .i64 0) := (blk_cell BK300.out 1).trans rfl; have hfz26_0 := blk_frozen BK300.out 0; have hfz26_1 := blk_frozen BK300.out 1) | (go_at_call 97; (with_reducible refine (trig_root.calls k (wrap64 (1000000000000000000 - (wrap64 ((ji13) * (ji13))))) t301 _ A16.out).mono ?_); rintro e w' ⟨rfl, ⟨nd, rfl⟩⟩; (try first | exact ⟨rfl, _, World.drewN_drewN _ _ _⟩ | exact ⟨rfl, _, Eq.trans (World.drewN_drewN _ _ _) (congrArg (World.drewN _) (Nat.add_assoc _ _ _))⟩)) | (go_at_call 95; (with_reducible refine (trig_direction.calls k ji13 t301 t302 t303 _ A17.out).mono ?_); rintro e w27 ⟨rfl, hb⟩; have n0_ := kb_ BK294 hb; have n1_ := kb_ BK295 hb; have n2_ := Aside0.mk (blk_below (g := gb300) (o := .cells #[.int .i64 t298, .int .i64 t299] 24 (0, 0)) (by (with_reducible repeat (first | refine blk_drewN ?_ _ | refine blk_drew ?_ | refine blk_alloc ?_ _)); refine blk_put (cs := #[.int .i64 t298, .int .i64 0]) ?_ 1 _ rfl; (with_reducible repeat (first | refine blk_drewN ?_ _ | refine blk_drew ?_ | refine blk_alloc ?_ _)); refine blk_put (cs := #[.int .i64 0, .int .i64 0]) ?_ 0 _ rfl; (with_reducible repeat (first | refine blk_drewN ?_ _ | refine blk_drew ?_ | refine blk_alloc ?_ _)); exact BK300.out) hb); have n3_ := bs_ HB hb; clear BK294; clear BK295; clear BK300; clear HB; have BK294 := n0_; have BK295 := n1_; have BK300 := n2_; have HB := n3_; clear n0_ n1_ n2_ n3_; (try clear hb); (try clear hb2); (try clear hk); (try clear hi)) | ((with_reducible refine gate_dst (N := 8) rfl ?_); refine box_event ?hg (N := 8) ?hd (cs := #[.int .i64 0, .int .i64 0]) (t := 24) ?hr ?_; (case hd => rfl); (case hg => rfl); (case hr => first | (go_simp; done) | (go_simp; rfl)); intro gb304 hg w28 hbox hb; have BK304 := Aside0.mk (hbox); have GW304 := ge_ hg HB; have GE304 := ge_ hg HB; have NB294_304 := nl_ hg BK294; have NB304_294 := ng_ hg BK294; have NB295_304 := nl_ hg BK295; have NB304_295 := ng_ hg BK295; have NB300_304 := nl_ hg BK300; have NB304_300 := ng_ hg BK300; replace BK294 := kb_ BK294 hb; replace BK295 := kb_ BK295 hb; replace BK300 := kb_ BK300 hb; replace HB := bs_ HB hb; clear hb hbox hg; have hnb29 := NB304_294.out; have hnc29 := NB294_304.out; have hnb30 := NB304_295.out; have hnc30 := NB295_304.out; have hnb31 := NB304_300.out; have hnc31 := NB300_304.out; have hcz32_0 : w28.cell? ⟨gb304, 0, none⟩ = some (.int .i64 0) := (blk_cell BK304.out 0).trans rfl; have hcz32_1 : w28.cell? ⟨gb304, 1, none⟩ = some (.int .i64 0) := (blk_cell BK304.out 1).trans rfl; have hfz32_0 := blk_frozen BK304.out 0; have hfz32_1 := blk_frozen BK304.out 1; have hcz33_0 : w28.cell? ⟨gb300, 0, none⟩ = some (.int .i64 t298) := (blk_cell BK300.out 0).trans rfl; have hcz33_1 : w28.cell? ⟨gb300, 1, none⟩ = some (.int .i64 t299) := (blk_cell BK300.out 1).trans rfl; have hfz33_0 := blk_frozen BK300.out 0; have hfz33_1 := blk_frozen BK300.out 1; have hcz34_0 : w28.cell? ⟨gb295, 0, none⟩ = some (.int .i64 0) := (blk_cell BK295.out 0).trans rfl; have hcz34_1 : w28.cell? ⟨gb295, 1, none⟩ = some (.int .i64 0) := (blk_cell BK295.out 1).trans rfl; have hfz34_0 := blk_frozen BK295.out 0; have hfz34_1 := blk_frozen BK295.out 1)))
  refine bodyPost_ret (results_ct rfl _ _ gb295 24 #[.int .i64 ji18, .int .i64 ji19] (0, 0) _ rfl (by (with_reducible repeat (first | refine blk_drewN ?_ _ | refine blk_drew ?_ | refine blk_alloc ?_ _)); refine blk_put (cs := #[.int .i64 ji18, .int .i64 0]) ?_ 1 _ rfl; (with_reducible repeat (first | refine blk_drewN ?_ _ | refine blk_drew ?_ | refine blk_alloc ?_ _)); refine blk_put (cs := #[.int .i64 0, .int .i64 0]) ?_ 0 _ rfl; (with_reducible repeat (first | refine blk_drewN ?_ _ | refine blk_drew ?_ | refine blk_alloc ?_ _)); refine blk_far ?_ NB295_304.out _; (with_reducible repeat (first | refine blk_drewN ?_ _ | refine blk_drew ?_ | refine blk_alloc ?_ _)); refine blk_far ?_ NB295_304.out _; (with_reducible repeat (first | refine blk_drewN ?_ _ | refine blk_drew ?_ | refine blk_alloc ?_ _)); exact BK295.out) Try.underlying24 rfl (by kernel_rfl)) rfl ?_
  exact ⟨by first | rfl | (simp [errW_none, errW_some] <;> rfl) | (simp only [← hji10, ← hji11, ← hji12, ← hji13, ← hji18, ← hji19]; first | rfl | (simp [errW_none, errW_some] <;> rfl)) | (simp [*, errW_none, errW_some] <;> rfl), (be_ HB).out⟩
 ·rw [if_neg c9] at H
  have c9b0 : (t296 == 0) = false := beq_eq_false_iff_ne.mpr c9
  have c9b1 : (t296 != 0) = true := bne_iff_ne.mpr c9
  (first | rw [c9b0] | (simp only [i64_w, i32_w]; rw [c9b0]) | skip)
  simp only [Option.some.injEq, Prod.mk.injEq] at H
  obtain ⟨rfl, rfl, rfl⟩ := H
  have hnb35 := NB295_294.out
  have hnc35 := NB294_295.out
  have hcz36_0 : w8.cell? ⟨gb295, 0, none⟩ = some (.int .i64 0) := (blk_cell BK295.out 0).trans rfl
  have hcz36_1 : w8.cell? ⟨gb295, 1, none⟩ = some (.int .i64 0) := (blk_cell BK295.out 1).trans rfl
  have hfz36_0 := blk_frozen BK295.out 0
  have hfz36_1 := blk_frozen BK295.out 1
  go_wp2
  repeat (go_quiet (fail); try go_wp2)
  refine bodyPost_ret (results_ct rfl _ _ gb295 24 #[.int .i64 0, .int .i64 0] (0, 0) _ rfl (by (with_reducible repeat (first | refine blk_drewN ?_ _ | refine blk_drew ?_ | refine blk_alloc ?_ _)); refine blk_put (cs := #[.int .i64 0, .int .i64 0]) ?_ 1 _ rfl; (with_reducible repeat (first | refine blk_drewN ?_ _ | refine blk_drew ?_ | refine blk_alloc ?_ _)); refine blk_put (cs := #[.int .i64 0, .int .i64 0]) ?_ 0 _ rfl; (with_reducible repeat (first | refine blk_drewN ?_ _ | refine blk_drew ?_ | refine blk_alloc ?_ _)); exact BK295.out) Try.underlying24 rfl (by kernel_rfl)) rfl ?_
  exact ⟨by first | rfl | (simp [errW_none, errW_some] <;> rfl) | (simp [*, errW_none, errW_some] <;> rfl), (be_ HB).out⟩
end Go.Proofs.Ytbnchibmegclmaa.PAll
end
