/- Written by a program of this session out of the translation. -/
import Derived.Test.YtbnchibmegclmaaSunLongitudesn2
import Derived.Test.YtbnchibmegclmaaSunLongitudesn3
import Derived.Test.YtbnchibmegclmaaSunLongitudesn4
import Derived.Test.YtbnchibmegclmaaSunLongitudesn5
import Derived.Test.YtbnchibmegclmaaSunLongitudesn6
import Derived.Test.YtbnchibmegclmaaSunLongitudesn9
import Derived.Test.YtbnchibmegclmaaSunLongitudesn11
import Derived.Test.YtbnchibmegclmaaSunLongitudesn13
import Derived.Test.YtbnchibmegclmaaSunLongitudesn14
namespace Go.Proofs.Ytbnchibmegclmaa.PAll
open Go.RowKit Go.Proofs.YtbnchibmegclmaaW.PrintWords Go.Proofs.YtbnchibmegclmaaW.PrintLast Go.Proofs.YtbnchibmegclmaaW.PrintMore Go.Proofs.Ytbnchibmegclmaa.More2 Go.Proofs.Ytbnchibmegclmaa.Sq
attribute [local go_sem] max2_int min2_int max_two min_two max_three min_three max_four min_four tdiv2e18_ tdiv1e18_ cellSS_  -- for this text's walks alone
set_option linter.unusedVariables false
set_option linter.unusedSimpArgs false
mutual
def sun_Equator.l0 : Nat → Int → Int → Int → Int → Int → Int → Int → Int → Int → Option (Int × Int × Int × Int × Int)
 | 0, _, _, _, _, _, _, _, _, _ => none
 | k + 1, x31, x996, x997, x998, x999, x306000, x306001, x307000, x307001 => if x31 < 2 then (if 0 ≤ x31 then ((interval_Check.f k (rd [x999, x997] x31) (rd [x998, x996] x31)).bind fun t310 => (if t310 = 0 then (sun_Equator.l0 k (wrap64 (x31 + 1)) x996 x997 x998 x999 x306000 x306001 x307000 x307001) else (some (0, 0, 0, 0, t310)))) else (none)) else (if x307000 < (-125000000) then (sun_Equator.j1 k true x306000 x306001 x307000 x307001) else (sun_Equator.j1 k (decide (x307001 > 125000000)) x306000 x306001 x307000 x307001))
def sun_Equator.j1 : Nat → Bool → Int → Int → Int → Int → Option (Int × Int × Int × Int × Int)
 | 0, _, _, _, _, _ => none
 | k + 1, x49, x306000, x306001, x307000, x307001 => if x49 = true then (some (0, 0, 0, 0, 3)) else ((trig_Sin.f k 65109000).bind fun bt311 => ((trig_Cos.f k 65109000).bind fun bt315 => ((trig_SinOver.f k x306000 x306001).bind fun bt319 => ((trig_CosOver.f k x306000 x306001).bind fun bt323 => ((trig_SinOver.f k x307000 x307001).bind fun bt327 => ((trig_CosOver.f k x307000 x307001).bind fun bt331 => ((sun_Unit.f k bt331.1 bt331.2.1 bt319.1 bt319.2.1).bind fun bt335 => ((sun_Unit.f k bt335.1 bt335.2 bt311.1 bt311.2.1).bind fun bt338 => ((sun_Unit.f k bt327.1 bt327.2.1 bt315.1 bt315.2.1).bind fun bt340 => ((sun_plus.f bt338.1 bt338.2 bt340.1 bt340.2).bind fun bt342 => ((sun_Unit.f k bt335.1 bt335.2 bt315.1 bt315.2.1).bind fun bt345 => ((sun_Unit.f k bt327.1 bt327.2.1 bt311.1 bt311.2.1).bind fun bt347 => ((sun_less.f bt345.1 bt345.2 bt347.1 bt347.2).bind fun bt349 => ((sun_Unit.f k bt331.1 bt331.2.1 bt323.1 bt323.2.1).bind fun bt351 => ((trig_Arc.f k bt349.1 bt349.2 bt351.1 bt351.2).bind fun bt353 => (if bt353.2.2 = 0 then ((trig_ArcSin.f k bt342.1 bt342.2).bind fun bt357 => (some (bt353.1, bt353.2.1, bt357.1, bt357.2.1, 0))) else (some (0, 0, 0, 0, bt353.2.2))))))))))))))))))
end
def sun_Equator.f (k : Nat) (a0_0 : Int) (a0_1 : Int) (a1_0 : Int) (a1_1 : Int) : Option (Int × Int × Int × Int × Int) := sun_Equator.l0 k 0 a1_1 a1_0 a0_1 a0_0 a0_0 a0_1 a1_0 a1_1
theorem sun_Equator.mono_l : ∀ k, (∀ y0 y1 y2 y3 y4 y5 y6 y7 y8, LeO (sun_Equator.l0 k y0 y1 y2 y3 y4 y5 y6 y7 y8) (sun_Equator.l0 (k + 1) y0 y1 y2 y3 y4 y5 y6 y7 y8)) ∧ (∀ y0 y1 y2 y3 y4, LeO (sun_Equator.j1 k y0 y1 y2 y3 y4) (sun_Equator.j1 (k + 1) y0 y1 y2 y3 y4))
 | 0 => ⟨fun _ _ _ _ _ _ _ _ _ r h => by simp [sun_Equator.l0] at h, fun _ _ _ _ _ r h => by simp [sun_Equator.j1] at h⟩
 | k + 1 => by
  obtain ⟨ih0, ih1⟩ := sun_Equator.mono_l k
  refine ⟨?_, ?_⟩
  ·intro y0 y1 y2 y3 y4 y5 y6 y7 y8
   unfold sun_Equator.l0
   repeat' first
   | (with_reducible exact ih0 _ _ _ _ _ _ _ _ _)
   | (with_reducible exact ih1 _ _ _ _ _)
   | (with_reducible exact interval_Check.mono _ _ _)
   | (with_reducible exact sun_Unit.mono _ _ _ _ _)
   | (with_reducible exact trig_Arc.mono _ _ _ _ _)
   | (with_reducible exact trig_ArcSin.mono _ _ _)
   | (with_reducible exact trig_Cos.mono _ _)
   | (with_reducible exact trig_CosOver.mono _ _ _)
   | (with_reducible exact trig_Sin.mono _ _)
   | (with_reducible exact trig_SinOver.mono _ _ _)
   | (with_reducible exact LeO.refl _)
   | (with_reducible exact LeO.none _)
   | (with_reducible refine LeO.ite ?_ ?_)
   | (with_reducible refine LeO.bind ?_ (fun _ => ?_))
   | exact ih0 _ _ _ _ _ _ _ _ _
   | exact ih1 _ _ _ _ _
   | exact interval_Check.mono _ _ _
   | exact sun_Unit.mono _ _ _ _ _
   | exact trig_Arc.mono _ _ _ _ _
   | exact trig_ArcSin.mono _ _ _
   | exact trig_Cos.mono _ _
   | exact trig_CosOver.mono _ _ _
   | exact trig_Sin.mono _ _
   | exact trig_SinOver.mono _ _ _
   | exact LeO.none _
   | refine LeO.ite ?_ ?_
   | refine LeO.bind ?_ (fun _ => ?_)
  ·intro y0 y1 y2 y3 y4
   unfold sun_Equator.j1
   repeat' first
   | (with_reducible exact ih0 _ _ _ _ _ _ _ _ _)
   | (with_reducible exact ih1 _ _ _ _ _)
   | (with_reducible exact interval_Check.mono _ _ _)
   | (with_reducible exact sun_Unit.mono _ _ _ _ _)
   | (with_reducible exact trig_Arc.mono _ _ _ _ _)
   | (with_reducible exact trig_ArcSin.mono _ _ _)
   | (with_reducible exact trig_Cos.mono _ _)
   | (with_reducible exact trig_CosOver.mono _ _ _)
   | (with_reducible exact trig_Sin.mono _ _)
   | (with_reducible exact trig_SinOver.mono _ _ _)
   | (with_reducible exact LeO.refl _)
   | (with_reducible exact LeO.none _)
   | (with_reducible refine LeO.ite ?_ ?_)
   | (with_reducible refine LeO.bind ?_ (fun _ => ?_))
   | exact ih0 _ _ _ _ _ _ _ _ _
   | exact ih1 _ _ _ _ _
   | exact interval_Check.mono _ _ _
   | exact sun_Unit.mono _ _ _ _ _
   | exact trig_Arc.mono _ _ _ _ _
   | exact trig_ArcSin.mono _ _ _
   | exact trig_Cos.mono _ _
   | exact trig_CosOver.mono _ _ _
   | exact trig_Sin.mono _ _
   | exact trig_SinOver.mono _ _ _
   | exact LeO.none _
   | refine LeO.ite ?_ ?_
   | refine LeO.bind ?_ (fun _ => ?_)
theorem sun_Equator.mono : ∀ a0 a1 a2 a3 k, LeO (sun_Equator.f k a0 a1 a2 a3) (sun_Equator.f (k + 1) a0 a1 a2 a3) := by
 intro a0 a1 a2 a3 k
 obtain ⟨ih0, ih1⟩ := sun_Equator.mono_l k
 unfold sun_Equator.f
 repeat' first
   | (with_reducible exact ih0 _ _ _ _ _ _ _ _ _)
   | (with_reducible exact ih1 _ _ _ _ _)
   | (with_reducible exact interval_Check.mono _ _ _)
   | (with_reducible exact sun_Unit.mono _ _ _ _ _)
   | (with_reducible exact trig_Arc.mono _ _ _ _ _)
   | (with_reducible exact trig_ArcSin.mono _ _ _)
   | (with_reducible exact trig_Cos.mono _ _)
   | (with_reducible exact trig_CosOver.mono _ _ _)
   | (with_reducible exact trig_Sin.mono _ _)
   | (with_reducible exact trig_SinOver.mono _ _ _)
   | (with_reducible exact LeO.refl _)
   | (with_reducible exact LeO.none _)
   | (with_reducible refine LeO.ite ?_ ?_)
   | (with_reducible refine LeO.bind ?_ (fun _ => ?_))
   | exact ih0 _ _ _ _ _ _ _ _ _
   | exact ih1 _ _ _ _ _
   | exact interval_Check.mono _ _ _
   | exact sun_Unit.mono _ _ _ _ _
   | exact trig_Arc.mono _ _ _ _ _
   | exact trig_ArcSin.mono _ _ _
   | exact trig_Cos.mono _ _
   | exact trig_CosOver.mono _ _ _
   | exact trig_Sin.mono _ _
   | exact trig_SinOver.mono _ _ _
   | exact LeO.none _
   | refine LeO.ite ?_ ?_
   | refine LeO.bind ?_ (fun _ => ?_)
def sun_Equator.T17 : Bool × List (List Nat × List Nat) := (true, [([], []), ([], []), ([0, 1], [0, 1]), ([], []), ([], []), ([3, 4, 2], [3, 4]), ([2, 5, 5], [2, 5]), ([], []), ([7, 6, 6, 0, 1, 2, 3, 4, 5, 6, 7], [6, 7])])
def sun_Equator.B17 : List Nat := [0, 0, 3, 0, 0, 31, 63, 0, 255]
theorem sun_Equator.tab17 : rtab .any (opsOf Try.f22 17) = sun_Equator.T17 := by kernel_rfl
theorem sun_Equator.bits17 : waitsOk sun_Equator.T17.2 sun_Equator.B17 = true := by kernel_rfl
def sun_Equator.T18 : Bool × List (List Nat × List Nat) := (true, [([], []), ([], []), ([0, 1], [0, 1]), ([], []), ([], []), ([3, 4, 2], [3, 4]), ([2, 5, 5], [2, 5]), ([], []), ([], []), ([7, 8, 6], [7, 8]), ([6, 9, 9], [6, 9]), ([10], [10]), ([11], [11]), ([11], [11]), ([], []), ([14, 12, 10, 0, 1, 2, 3, 4, 5, 6, 7, 8, 9, 10, 11, 12, 14], [12, 14]), ([13, 15, 0, 1, 2, 3, 4, 5, 6, 7, 8, 9, 10, 11, 12, 13, 14, 15], [13])])
def sun_Equator.B18 : List Nat := [0, 0, 3, 0, 0, 31, 63, 0, 0, 511, 1023, 2047, 4095, 4095, 0, 24575, 65535]
theorem sun_Equator.tab18 : rtab .any (opsOf Try.f22 18) = sun_Equator.T18 := by kernel_rfl
theorem sun_Equator.bits18 : waitsOk sun_Equator.T18.2 sun_Equator.B18 = true := by kernel_rfl
set_option maxHeartbeats 8000000 in
set_option maxRecDepth 100000 in
theorem sun_Equator.calls (k : Nat) (a0_0 : Int) (a0_1 : Int) (a1_0 : Int) (a1_1 : Int) (r1 : Int) (r2 : Int) (r3 : Int) (r4 : Int) (r5 : Int) (w : World) (h : sun_Equator.f k a0_0 a0_1 a1_0 a1_1 = some (r1, r2, r3, r4, r5)) :
  Calls Try.prog 22 #[.agg #[.int .i64 a0_0, .int .i64 a0_1], .agg #[.int .i64 a1_0, .int .i64 a1_1]] w fun e w' => e = .returned (.tuple #[.agg #[.int .i64 r1, .int .i64 r2], .agg #[.int .i64 r3, .int .i64 r4], .int .i64 r5]) ∧ Below w.heap.size w w' := by
 have hu24 := Try.underlying24
 have hu68 := Try.underlying68
 have HB := Aside0.mk (Below.refl w.heap.size w)
 have H : (sun_Equator.l0 k 0 a1_1 a1_0 a0_1 a0_0 a0_0 a0_1 a1_0 a1_1) = some (r1, r2, r3, r4, r5) := h
 clear h
 have H' := Aside0.mk H
 clear H
 go_enter Try.func22, Try.ntmps22
 go_wp2_with (first | ((with_reducible refine gate_dst (N := 2) rfl ?_); refine box_event ?hg (N := 2) ?hd (cs := #[.int .i64 a0_0, .int .i64 a0_1]) (t := 24) ?hr ?_; (case hd => rfl); (case hg => rfl); (case hr => first | (go_simp; done) | (go_simp; rfl)); intro gb305 hg w3 hbox hb; have BK305 := Aside0.mk (hbox); have GW305 := ge_ hg HB; have GE305 := ge_ hg HB; replace HB := bs_ HB hb; clear hb hbox hg) | ((with_reducible refine gate_dst (N := 3) rfl ?_); refine box_event ?hg (N := 3) ?hd (cs := #[.int .i64 a1_0, .int .i64 a1_1]) (t := 24) ?hr ?_; (case hd => rfl); (case hg => rfl); (case hr => first | (go_simp; done) | (go_simp; rfl)); intro gb306 hg w4 hbox hb; have BK306 := Aside0.mk (hbox); have GW306 := ge_ hg HB; have GE306 := ge_ hg HB; have NB305_306 := nl_ hg BK305; have NB306_305 := ng_ hg BK305; replace BK305 := kb_ BK305 hb; replace HB := bs_ HB hb; clear hb hbox hg) | ((with_reducible refine gate_dst (N := 4) rfl ?_); refine box_event ?hg (N := 4) ?hd (cs := #[.int .i64 0, .int .i64 0]) (t := 24) ?hr ?_; (case hd => rfl); (case hg => rfl); (case hr => first | (go_simp; done) | (go_simp; rfl)); intro gb307 hg w5 hbox hb; have BK307 := Aside0.mk (hbox); have GW307 := ge_ hg HB; have GE307 := ge_ hg HB; have NB305_307 := nl_ hg BK305; have NB307_305 := ng_ hg BK305; have NB306_307 := nl_ hg BK306; have NB307_306 := ng_ hg BK306; replace BK305 := kb_ BK305 hb; replace BK306 := kb_ BK306 hb; replace HB := bs_ HB hb; clear hb hbox hg) | ((with_reducible refine gate_dst (N := 5) rfl ?_); refine box_event ?hg (N := 5) ?hd (cs := #[.int .i64 0, .int .i64 0]) (t := 24) ?hr ?_; (case hd => rfl); (case hg => rfl); (case hr => first | (go_simp; done) | (go_simp; rfl)); intro gb308 hg w6 hbox hb; have BK308 := Aside0.mk (hbox); have GW308 := ge_ hg HB; have GE308 := ge_ hg HB; have NB305_308 := nl_ hg BK305; have NB308_305 := ng_ hg BK305; have NB306_308 := nl_ hg BK306; have NB308_306 := ng_ hg BK306; have NB307_308 := nl_ hg BK307; have NB308_307 := ng_ hg BK307; replace BK305 := kb_ BK305 hb; replace BK306 := kb_ BK306 hb; replace BK307 := kb_ BK307 hb; replace HB := bs_ HB hb; clear hb hbox hg; have hnb7 := NB305_306.out; have hnc7 := NB306_305.out; have hnb8 := NB305_307.out; have hnc8 := NB307_305.out; have hnb9 := NB305_308.out; have hnc9 := NB308_305.out; have hcz10_0 : w6.cell? ⟨gb305, 0, none⟩ = some (.int .i64 a0_0) := (blk_cell BK305.out 0).trans rfl; have hcz10_1 : w6.cell? ⟨gb305, 1, none⟩ = some (.int .i64 a0_1) := (blk_cell BK305.out 1).trans rfl; have hfz10_0 := blk_frozen BK305.out 0; have hfz10_1 := blk_frozen BK305.out 1; have hnb11 := NB306_307.out; have hnc11 := NB307_306.out; have hnb12 := NB306_308.out; have hnc12 := NB308_306.out; have hcz13_0 : w6.cell? ⟨gb306, 0, none⟩ = some (.int .i64 a1_0) := (blk_cell BK306.out 0).trans rfl; have hcz13_1 : w6.cell? ⟨gb306, 1, none⟩ = some (.int .i64 a1_1) := (blk_cell BK306.out 1).trans rfl; have hfz13_0 := blk_frozen BK306.out 0; have hfz13_1 := blk_frozen BK306.out 1))
 go_loopg [31] k (fun kq v31 w' => ∃ (x31_1 : Int) (x308000_1 : Int) (x308001_1 : Int) (x309000_1 : Int) (x309001_1 : Int), v31 = .int .i64 x31_1 ∧ Aside0 (sun_Equator.l0 kq x31_1 a1_1 a1_0 a0_1 a0_0 a0_0 a0_1 a1_0 a1_1 = some (r1, r2, r3, r4, r5)) ∧ Aside0 (kq ≤ k) ∧ Aside0 (w'.heap[gb305]? = some (.cells #[.int .i64 a0_0, .int .i64 a0_1] 24 (0, 0))) ∧ Aside0 (w'.heap[gb306]? = some (.cells #[.int .i64 a1_0, .int .i64 a1_1] 24 (0, 0))) ∧ Aside0 (w'.heap[gb307]? = some (.cells #[.int .i64 x308000_1, .int .i64 x308001_1] 24 (0, 0))) ∧ Aside0 (w'.heap[gb308]? = some (.cells #[.int .i64 x309000_1, .int .i64 x309001_1] 24 (0, 0))) ∧ Aside0 (Below w.heap.size w w'))
 case atStart => exact ⟨(0), (0), (0), (0), (0), (by first | rfl | (simp; done) | (simp [*]; done)), H', ⟨Nat.le_refl _⟩, ⟨kk_ BK305⟩, ⟨kk_ BK306⟩, ⟨kk_ BK307⟩, ⟨kk_ BK308⟩, (be_ HB)⟩
 case round =>
  clear H'
  try clear c1
  try clear c2
  try clear p2
  try clear c7
  try clear c8
  try clear c9
  try clear c11
  try clear c12
  try clear hcz10_0
  try clear hcz10_1
  try clear hcz13_0
  try clear hcz13_1
  try clear hfz10_0
  try clear hfz10_1
  try clear hfz13_0
  try clear hfz13_1
  obtain ⟨x31_1, x308000_1, x308001_1, x309000_1, x309001_1, rfl, HA, HK1, BK305, BK306, BK307, BK308, HB⟩ := hrel
  cases gk with
  | zero => exact absurd HA.out (by simp [sun_Equator.l0])
  | succ k1 =>
   have H := HA.out
   clear HA
   simp only [sun_Equator.l0] at H
   by_cases c14 : x31_1 < 2
   ·rw [if_pos c14] at H
    have c14b0 : decide (x31_1 < 2) = true := decide_eq_true c14
    clear c14
    by_cases c15 : 0 ≤ x31_1
    ·rw [if_pos c15] at H
     have c15b0 : decide (0 ≤ x31_1) = true := decide_eq_true c15
     clear c15
     replace H := Option.bind_eq_some_iff.mp H
     obtain ⟨t310, A170, H⟩ := H
     replace H : (if t310 = 0 then (sun_Equator.l0 k1 (wrap64 (x31_1 + 1)) a1_1 a1_0 a0_1 a0_0 a0_0 a0_1 a1_0 a1_1) else (some (0, 0, 0, 0, t310))) = some (r1, r2, r3, r4, r5) := H
     have A17 := Aside0.mk A170
     clear A170
     by_cases c18 : t310 = 0
     ·rw [if_pos c18] at H
      have c18b0 : (t310 == 0) = true := beq_iff_eq.mpr c18
      have c18b1 : (t310 != 0) = false := bne_eq_false_iff_eq.mpr c18
      clear c18
      have H' := Aside0.mk H
      clear H
      have p16 : 0 ≤ (x31_1 : Int) := of_decide_eq_true (by first | (with_reducible assumption) | assumption)
      have q16 : (x31_1 : Int) < (2 : Int) := of_decide_eq_true (by first | (with_reducible assumption) | assumption)
      have hx16 : ∀ W : World, (Instr.index 68 (.agg #[.int .i64 a0_0, .int .i64 a0_1, .int .i64 a1_0, .int .i64 a1_1]) (.int .i64 x31_1)).run Try.prog W = .ok (.agg #[.int .i64 (rd [a0_0, a1_0] x31_1), .int .i64 (rd [a0_1, a1_1] x31_1)]) W := fun W => arrIdx22_ Try.underlying68 Try.sizeOf24 Try.isAgg24 _ _ _ _ x31_1 p16 q16 W
      replace p16 := eq_true p16
      replace q16 := eq_true q16
      go_wp2_with (first | ((with_reducible refine gate_dst (N := 8) rfl ?_); refine box_event ?hg (N := 8) ?hd (cs := #[.int .i64 0, .int .i64 0]) (t := 24) ?hr ?_; (case hd => rfl); (case hg => rfl); (case hr => first | (go_simp; done) | (go_simp; rfl)); intro gb309 hg w19 hbox hb; have BK309 := Aside0.mk (hbox); have GW309 := ge_ hg HB; have GE309 := ge_ hg HB; have NB305_309 := nl_ hg BK305; have NB309_305 := ng_ hg BK305; have NB306_309 := nl_ hg BK306; have NB309_306 := ng_ hg BK306; have NB307_309 := nl_ hg BK307; have NB309_307 := ng_ hg BK307; have NB308_309 := nl_ hg BK308; have NB309_308 := ng_ hg BK308; replace BK305 := kb_ BK305 hb; replace BK306 := kb_ BK306 hb; replace BK307 := kb_ BK307 hb; replace BK308 := kb_ BK308 hb; replace HB := bs_ HB hb; clear hb hbox hg; have hnb20 := NB309_305.out; have hnc20 := NB305_309.out; have hnb21 := NB309_306.out; have hnc21 := NB306_309.out; have hnb22 := NB309_307.out; have hnc22 := NB307_309.out; have hnb23 := NB309_308.out; have hnc23 := NB308_309.out; have hcz24_0 : w19.cell? ⟨gb309, 0, none⟩ = some (.int .i64 0) := (blk_cell BK309.out 0).trans rfl; have hcz24_1 : w19.cell? ⟨gb309, 1, none⟩ = some (.int .i64 0) := (blk_cell BK309.out 1).trans rfl; have hfz24_0 := blk_frozen BK309.out 0; have hfz24_1 := blk_frozen BK309.out 1) | ((with_reducible refine gate_callee (f := 52) rfl ?_); refine goesL_ (some 35) rfl rfl Try.func52 (by kernel_rfl) rfl #[.agg #[.int .i64 (rd [a0_0, a1_0] x31_1), .int .i64 (rd [a0_1, a1_1] x31_1)]] rfl (by (try simp only [List.map_toArray, List.map_cons, List.map_nil]); first | done | rfl | (simp only [List.length_drop, List.length_take]; rfl)) ?_; (with_reducible refine (interval_Check.calls k1 (rd [a0_0, a1_0] x31_1) (rd [a0_1, a1_1] x31_1) t310 _ A17.out).mono ?_); rintro e w25 ⟨rfl, hb⟩; refine ⟨_, rfl, ?_⟩; have n0_ := kb_ BK305 hb; have n1_ := kb_ BK306 hb; have n2_ := kb_ BK307 hb; have n3_ := kb_ BK308 hb; have n4_ := Aside0.mk (blk_below (g := gb309) (o := .cells #[.int .i64 (rd [a0_0, a1_0] x31_1), .int .i64 (rd [a0_1, a1_1] x31_1)] 24 (0, 0)) (by (with_reducible repeat (first | refine blk_drewN ?_ _ | refine blk_drew ?_ | refine blk_alloc ?_ _)); refine blk_put (cs := #[.int .i64 (rd [a0_0, a1_0] x31_1), .int .i64 0]) ?_ 1 _ rfl; (with_reducible repeat (first | refine blk_drewN ?_ _ | refine blk_drew ?_ | refine blk_alloc ?_ _)); refine blk_put (cs := #[.int .i64 0, .int .i64 0]) ?_ 0 _ rfl; (with_reducible repeat (first | refine blk_drewN ?_ _ | refine blk_drew ?_ | refine blk_alloc ?_ _)); exact BK309.out) hb); have n5_ := bs_ HB hb; clear BK305; clear BK306; clear BK307; clear BK308; clear BK309; clear HB; have BK305 := n0_; have BK306 := n1_; have BK307 := n2_; have BK308 := n3_; have BK309 := n4_; have HB := n5_; clear n0_ n1_ n2_ n3_ n4_ n5_; (try clear hb); (try clear hb2); (try clear hk); (try clear hi)))
      go_roundg k1
      case measure => have := HK1.out; omega
      case rel => exact ⟨(wrap64 (x31_1 + 1)), (x308000_1), (x308001_1), (x309000_1), (x309001_1), (by first | rfl | (simp; done) | (simp [*]; done)), H', ⟨by have := HK1.out; omega⟩, ⟨kk_ BK305⟩, ⟨kk_ BK306⟩, ⟨kk_ BK307⟩, ⟨kk_ BK308⟩, (be_ HB)⟩
     ·rw [if_neg c18] at H
      have c18b0 : (t310 == 0) = false := beq_eq_false_iff_ne.mpr c18
      have c18b1 : (t310 != 0) = true := bne_iff_ne.mpr c18
      simp only [Option.some.injEq, Prod.mk.injEq] at H
      obtain ⟨rfl, rfl, rfl, rfl, rfl⟩ := H
      have p16 : 0 ≤ (x31_1 : Int) := of_decide_eq_true (by first | (with_reducible assumption) | assumption)
      have q16 : (x31_1 : Int) < (2 : Int) := of_decide_eq_true (by first | (with_reducible assumption) | assumption)
      have hx16 : ∀ W : World, (Instr.index 68 (.agg #[.int .i64 a0_0, .int .i64 a0_1, .int .i64 a1_0, .int .i64 a1_1]) (.int .i64 x31_1)).run Try.prog W = .ok (.agg #[.int .i64 (rd [a0_0, a1_0] x31_1), .int .i64 (rd [a0_1, a1_1] x31_1)]) W := fun W => arrIdx22_ Try.underlying68 Try.sizeOf24 Try.isAgg24 _ _ _ _ x31_1 p16 q16 W
      replace p16 := eq_true p16
      replace q16 := eq_true q16
      go_wp2_with (first | ((with_reducible refine gate_dst (N := 8) rfl ?_); refine box_event ?hg (N := 8) ?hd (cs := #[.int .i64 0, .int .i64 0]) (t := 24) ?hr ?_; (case hd => rfl); (case hg => rfl); (case hr => first | (go_simp; done) | (go_simp; rfl)); intro gb309 hg w26 hbox hb; have BK309 := Aside0.mk (hbox); have GW309 := ge_ hg HB; have GE309 := ge_ hg HB; have NB305_309 := nl_ hg BK305; have NB309_305 := ng_ hg BK305; have NB306_309 := nl_ hg BK306; have NB309_306 := ng_ hg BK306; have NB307_309 := nl_ hg BK307; have NB309_307 := ng_ hg BK307; have NB308_309 := nl_ hg BK308; have NB309_308 := ng_ hg BK308; replace BK305 := kb_ BK305 hb; replace BK306 := kb_ BK306 hb; replace BK307 := kb_ BK307 hb; replace BK308 := kb_ BK308 hb; replace HB := bs_ HB hb; clear hb hbox hg; have hnb27 := NB309_305.out; have hnc27 := NB305_309.out; have hnb28 := NB309_306.out; have hnc28 := NB306_309.out; have hnb29 := NB309_307.out; have hnc29 := NB307_309.out; have hnb30 := NB309_308.out; have hnc30 := NB308_309.out; have hcz31_0 : w26.cell? ⟨gb309, 0, none⟩ = some (.int .i64 0) := (blk_cell BK309.out 0).trans rfl; have hcz31_1 : w26.cell? ⟨gb309, 1, none⟩ = some (.int .i64 0) := (blk_cell BK309.out 1).trans rfl; have hfz31_0 := blk_frozen BK309.out 0; have hfz31_1 := blk_frozen BK309.out 1) | ((with_reducible refine gate_callee (f := 52) rfl ?_); refine goesL_ (some 35) rfl rfl Try.func52 (by kernel_rfl) rfl #[.agg #[.int .i64 (rd [a0_0, a1_0] x31_1), .int .i64 (rd [a0_1, a1_1] x31_1)]] rfl (by (try simp only [List.map_toArray, List.map_cons, List.map_nil]); first | done | rfl | (simp only [List.length_drop, List.length_take]; rfl)) ?_; (with_reducible refine (interval_Check.calls k1 (rd [a0_0, a1_0] x31_1) (rd [a0_1, a1_1] x31_1) t310 _ A17.out).mono ?_); rintro e w32 ⟨rfl, hb⟩; refine ⟨_, rfl, ?_⟩; have n0_ := kb_ BK305 hb; have n1_ := kb_ BK306 hb; have n2_ := kb_ BK307 hb; have n3_ := kb_ BK308 hb; have n4_ := Aside0.mk (blk_below (g := gb309) (o := .cells #[.int .i64 (rd [a0_0, a1_0] x31_1), .int .i64 (rd [a0_1, a1_1] x31_1)] 24 (0, 0)) (by (with_reducible repeat (first | refine blk_drewN ?_ _ | refine blk_drew ?_ | refine blk_alloc ?_ _)); refine blk_put (cs := #[.int .i64 (rd [a0_0, a1_0] x31_1), .int .i64 0]) ?_ 1 _ rfl; (with_reducible repeat (first | refine blk_drewN ?_ _ | refine blk_drew ?_ | refine blk_alloc ?_ _)); refine blk_put (cs := #[.int .i64 0, .int .i64 0]) ?_ 0 _ rfl; (with_reducible repeat (first | refine blk_drewN ?_ _ | refine blk_drew ?_ | refine blk_alloc ?_ _)); exact BK309.out) hb); have n5_ := bs_ HB hb; clear BK305; clear BK306; clear BK307; clear BK308; clear BK309; clear HB; have BK305 := n0_; have BK306 := n1_; have BK307 := n2_; have BK308 := n3_; have BK309 := n4_; have HB := n5_; clear n0_ n1_ n2_ n3_ n4_ n5_; (try clear hb); (try clear hb2); (try clear hk); (try clear hi); have hnb33 := NB307_305.out; have hnc33 := NB305_307.out; have hnb34 := NB307_306.out; have hnc34 := NB306_307.out; have hnb35 := NB307_308.out; have hnc35 := NB308_307.out; have hcz36_0 : w32.cell? ⟨gb307, 0, none⟩ = some (.int .i64 x308000_1) := (blk_cell BK307.out 0).trans rfl; have hcz36_1 : w32.cell? ⟨gb307, 1, none⟩ = some (.int .i64 x308001_1) := (blk_cell BK307.out 1).trans rfl; have hfz36_0 := blk_frozen BK307.out 0; have hfz36_1 := blk_frozen BK307.out 1; have hnb37 := NB308_305.out; have hnc37 := NB305_308.out; have hnb38 := NB308_306.out; have hnc38 := NB306_308.out; have hcz39_0 : w32.cell? ⟨gb308, 0, none⟩ = some (.int .i64 x309000_1) := (blk_cell BK308.out 0).trans rfl; have hcz39_1 : w32.cell? ⟨gb308, 1, none⟩ = some (.int .i64 x309001_1) := (blk_cell BK308.out 1).trans rfl; have hfz39_0 := blk_frozen BK308.out 0; have hfz39_1 := blk_frozen BK308.out 1))
      refine bodyPost_ret (results_list (rs := [.cell 4 24, .cell 5 24, .tmp 6]) rfl (by simp) (.cell gb307 24 #[.int .i64 0, .int .i64 0] (0, 0) _ rfl (by (with_reducible repeat (first | refine blk_drewN ?_ _ | refine blk_drew ?_ | refine blk_alloc ?_ _)); refine blk_far ?_ NB307_308.out _; (with_reducible repeat (first | refine blk_drewN ?_ _ | refine blk_drew ?_ | refine blk_alloc ?_ _)); refine blk_far ?_ NB307_308.out _; (with_reducible repeat (first | refine blk_drewN ?_ _ | refine blk_drew ?_ | refine blk_alloc ?_ _)); refine blk_put (cs := #[.int .i64 0, .int .i64 x308001_1]) ?_ 1 _ rfl; (with_reducible repeat (first | refine blk_drewN ?_ _ | refine blk_drew ?_ | refine blk_alloc ?_ _)); refine blk_put (cs := #[.int .i64 x308000_1, .int .i64 x308001_1]) ?_ 0 _ rfl; (with_reducible repeat (first | refine blk_drewN ?_ _ | refine blk_drew ?_ | refine blk_alloc ?_ _)); exact BK307.out) Try.underlying24 rfl (by kernel_rfl) (.cell gb308 24 #[.int .i64 0, .int .i64 0] (0, 0) _ rfl (by (with_reducible repeat (first | refine blk_drewN ?_ _ | refine blk_drew ?_ | refine blk_alloc ?_ _)); refine blk_put (cs := #[.int .i64 0, .int .i64 x309001_1]) ?_ 1 _ rfl; (with_reducible repeat (first | refine blk_drewN ?_ _ | refine blk_drew ?_ | refine blk_alloc ?_ _)); refine blk_put (cs := #[.int .i64 x309000_1, .int .i64 x309001_1]) ?_ 0 _ rfl; (with_reducible repeat (first | refine blk_drewN ?_ _ | refine blk_drew ?_ | refine blk_alloc ?_ _)); refine blk_far ?_ NB308_307.out _; (with_reducible repeat (first | refine blk_drewN ?_ _ | refine blk_drew ?_ | refine blk_alloc ?_ _)); refine blk_far ?_ NB308_307.out _; (with_reducible repeat (first | refine blk_drewN ?_ _ | refine blk_drew ?_ | refine blk_alloc ?_ _)); exact BK308.out) Try.underlying24 rfl (by kernel_rfl) (.tmp .nil)))) rfl ?_
      exact ⟨by first | rfl | (simp [errW_none, errW_some] <;> rfl) | (simp [*, errW_none, errW_some] <;> rfl), (be_ HB).out⟩
    ·rw [if_neg c15] at H
     exact absurd H (by simp)
   ·rw [if_neg c14] at H
    have c14b0 : decide (x31_1 < 2) = false := decide_eq_false c14
    clear c14
    have HC40 := Aside0.mk H
    clear H
    go_upto_region 8 with (fail)
    go_cut [49] (fun v49 wc => ∃ (kq : Nat) (x49_39 : Bool), v49 = .bool x49_39 ∧ Aside0 (sun_Equator.j1 kq x49_39 a0_0 a0_1 a1_0 a1_1 = some (r1, r2, r3, r4, r5)) ∧ Aside0 (kq ≤ k1) ∧ Aside0 (wc.heap[gb305]? = some (.cells #[.int .i64 a0_0, .int .i64 a0_1] 24 (0, 0))) ∧ Aside0 (wc.heap[gb306]? = some (.cells #[.int .i64 a1_0, .int .i64 a1_1] 24 (0, 0))) ∧ Aside0 (wc.heap[gb307]? = some (.cells #[.int .i64 x308000_1, .int .i64 x308001_1] 24 (0, 0))) ∧ Aside0 (wc.heap[gb308]? = some (.cells #[.int .i64 x309000_1, .int .i64 x309001_1] 24 (0, 0))) ∧ Aside0 (Below w.heap.size w wc))
    case first =>
     have H := HC40.out
     clear HC40
     by_cases c41 : a1_0 < (-125000000)
     ·rw [if_pos c41] at H
      have c41b0 : decide (a1_0 < (-125000000)) = true := decide_eq_true c41
      clear c41
      (first | rw [c41b0] | (simp only [i64_w, i32_w]; rw [c41b0]) | skip)
      have H' := Aside0.mk H
      clear H
      have hnb42 := NB306_305.out
      have hnc42 := NB305_306.out
      have hnb43 := NB306_307.out
      have hnc43 := NB307_306.out
      have hnb44 := NB306_308.out
      have hnc44 := NB308_306.out
      have hcz45_0 : wr.cell? ⟨gb306, 0, none⟩ = some (.int .i64 a1_0) := (blk_cell BK306.out 0).trans rfl
      have hcz45_1 : wr.cell? ⟨gb306, 1, none⟩ = some (.int .i64 a1_1) := (blk_cell BK306.out 1).trans rfl
      have hfz45_0 := blk_frozen BK306.out 0
      have hfz45_1 := blk_frozen BK306.out 1
      go_wp2
      go_meet
      case rel => exact ⟨_, (true), (by first | rfl | (simp; done) | (simp [*]; done)), H', ⟨by have := HK1.out; first | omega | exact Nat.le_refl _⟩, ⟨kk_ BK305⟩, ⟨kk_ BK306⟩, ⟨kk_ BK307⟩, ⟨kk_ BK308⟩, (be_ HB)⟩
     ·rw [if_neg c41] at H
      have c41b0 : decide (a1_0 < (-125000000)) = false := decide_eq_false c41
      clear c41
      (first | rw [c41b0] | (simp only [i64_w, i32_w]; rw [c41b0]) | skip)
      have H' := Aside0.mk H
      clear H
      have hnb46 := NB306_305.out
      have hnc46 := NB305_306.out
      have hnb47 := NB306_307.out
      have hnc47 := NB307_306.out
      have hnb48 := NB306_308.out
      have hnc48 := NB308_306.out
      have hcz49_0 : wr.cell? ⟨gb306, 0, none⟩ = some (.int .i64 a1_0) := (blk_cell BK306.out 0).trans rfl
      have hcz49_1 : wr.cell? ⟨gb306, 1, none⟩ = some (.int .i64 a1_1) := (blk_cell BK306.out 1).trans rfl
      have hfz49_0 := blk_frozen BK306.out 0
      have hfz49_1 := blk_frozen BK306.out 1
      go_wp2
      go_meet
      case rel => exact ⟨_, (decide (a1_1 > 125000000)), (by first | rfl | (simp; done) | (simp [*]; done)), H', ⟨by have := HK1.out; first | omega | exact Nat.le_refl _⟩, ⟨kk_ BK305⟩, ⟨kk_ BK306⟩, ⟨kk_ BK307⟩, ⟨kk_ BK308⟩, (be_ HB)⟩
    case rest =>
     clear HC40
     try clear c1
     try clear p1
     try clear q1
     try clear hx1
     try clear c2
     try clear p2
     try clear c3
     try clear c4
     try clear c5
     try clear p6
     try clear c7
     try clear c8
     try clear c9
     try clear c11
     try clear c12
     try clear c14
     try clear c14b0
     try clear c15
     try clear c15b0
     try clear p16
     try clear q16
     try clear hx16
     try clear c18
     try clear c18b0
     try clear c18b1
     try clear c20
     try clear c21
     try clear c22
     try clear c23
     try clear c27
     try clear c28
     try clear c29
     try clear c30
     try clear c33
     try clear c34
     try clear c35
     try clear c37
     try clear c38
     try clear c41
     try clear c41b0
     try clear c42
     try clear c43
     try clear c44
     try clear c46
     try clear c47
     try clear c48
     try clear hcz10_0
     try clear hcz10_1
     try clear hcz13_0
     try clear hcz13_1
     try clear hcz24_0
     try clear hcz24_1
     try clear hcz31_0
     try clear hcz31_1
     try clear hcz36_0
     try clear hcz36_1
     try clear hcz39_0
     try clear hcz39_1
     try clear hcz45_0
     try clear hcz45_1
     try clear hcz49_0
     try clear hcz49_1
     try clear hfz10_0
     try clear hfz10_1
     try clear hfz13_0
     try clear hfz13_1
     try clear hfz24_0
     try clear hfz24_1
     try clear hfz31_0
     try clear hfz31_1
     try clear hfz36_0
     try clear hfz36_1
     try clear hfz39_0
     try clear hfz39_1
     try clear hfz45_0
     try clear hfz45_1
     try clear hfz49_0
     try clear hfz49_1
     try clear p16
     try clear p2
     try clear q16
     obtain ⟨kq, x49_39, rfl, HA, HJ39, BK305, BK306, BK307, BK308, HB⟩ := hcut
     cases kq with
     | zero => exact absurd HA.out (by simp [sun_Equator.j1])
     | succ kj39 =>
      have H := HA.out
      clear HA
      simp only [sun_Equator.j1] at H
      by_cases c50 : x49_39 = true
      ·subst c50
       have H1 : (some (0, 0, 0, 0, 3)) = some (r1, r2, r3, r4, r5) := by rw [if_pos rfl] at H; exact H
       clear H
       have H := H1
       clear H1
       simp only [Option.some.injEq, Prod.mk.injEq] at H
       obtain ⟨rfl, rfl, rfl, rfl, rfl⟩ := H
       have hnb51 := NB307_305.out
       have hnc51 := NB305_307.out
       have hnb52 := NB307_306.out
       have hnc52 := NB306_307.out
       have hnb53 := NB307_308.out
       have hnc53 := NB308_307.out
       have hcz54_0 : wc.cell? ⟨gb307, 0, none⟩ = some (.int .i64 x308000_1) := (blk_cell BK307.out 0).trans rfl
       have hcz54_1 : wc.cell? ⟨gb307, 1, none⟩ = some (.int .i64 x308001_1) := (blk_cell BK307.out 1).trans rfl
       have hfz54_0 := blk_frozen BK307.out 0
       have hfz54_1 := blk_frozen BK307.out 1
       have hnb55 := NB308_305.out
       have hnc55 := NB305_308.out
       have hnb56 := NB308_306.out
       have hnc56 := NB306_308.out
       have hcz57_0 : wc.cell? ⟨gb308, 0, none⟩ = some (.int .i64 x309000_1) := (blk_cell BK308.out 0).trans rfl
       have hcz57_1 : wc.cell? ⟨gb308, 1, none⟩ = some (.int .i64 x309001_1) := (blk_cell BK308.out 1).trans rfl
       have hfz57_0 := blk_frozen BK308.out 0
       have hfz57_1 := blk_frozen BK308.out 1
       go_wp2
       refine bodyPost_ret (results_list (rs := [.cell 4 24, .cell 5 24, .tmp 6]) rfl (by simp) (.cell gb307 24 #[.int .i64 0, .int .i64 0] (0, 0) _ rfl (by (with_reducible repeat (first | refine blk_drewN ?_ _ | refine blk_drew ?_ | refine blk_alloc ?_ _)); refine blk_far ?_ NB307_308.out _; (with_reducible repeat (first | refine blk_drewN ?_ _ | refine blk_drew ?_ | refine blk_alloc ?_ _)); refine blk_far ?_ NB307_308.out _; (with_reducible repeat (first | refine blk_drewN ?_ _ | refine blk_drew ?_ | refine blk_alloc ?_ _)); refine blk_put (cs := #[.int .i64 0, .int .i64 x308001_1]) ?_ 1 _ rfl; (with_reducible repeat (first | refine blk_drewN ?_ _ | refine blk_drew ?_ | refine blk_alloc ?_ _)); refine blk_put (cs := #[.int .i64 x308000_1, .int .i64 x308001_1]) ?_ 0 _ rfl; (with_reducible repeat (first | refine blk_drewN ?_ _ | refine blk_drew ?_ | refine blk_alloc ?_ _)); exact BK307.out) Try.underlying24 rfl (by kernel_rfl) (.cell gb308 24 #[.int .i64 0, .int .i64 0] (0, 0) _ rfl (by (with_reducible repeat (first | refine blk_drewN ?_ _ | refine blk_drew ?_ | refine blk_alloc ?_ _)); refine blk_put (cs := #[.int .i64 0, .int .i64 x309001_1]) ?_ 1 _ rfl; (with_reducible repeat (first | refine blk_drewN ?_ _ | refine blk_drew ?_ | refine blk_alloc ?_ _)); refine blk_put (cs := #[.int .i64 x309000_1, .int .i64 x309001_1]) ?_ 0 _ rfl; (with_reducible repeat (first | refine blk_drewN ?_ _ | refine blk_drew ?_ | refine blk_alloc ?_ _)); refine blk_far ?_ NB308_307.out _; (with_reducible repeat (first | refine blk_drewN ?_ _ | refine blk_drew ?_ | refine blk_alloc ?_ _)); refine blk_far ?_ NB308_307.out _; (with_reducible repeat (first | refine blk_drewN ?_ _ | refine blk_drew ?_ | refine blk_alloc ?_ _)); exact BK308.out) Try.underlying24 rfl (by kernel_rfl) (.tmp .nil)))) rfl ?_
       exact ⟨by first | rfl | (simp [errW_none, errW_some] <;> rfl) | (simp [*, errW_none, errW_some] <;> rfl), (be_ HB).out⟩
      ·replace c50 := Bool.eq_false_iff.mpr c50
       subst c50
       have H1 : ((trig_Sin.f kj39 65109000).bind fun bt311 => ((trig_Cos.f kj39 65109000).bind fun bt315 => ((trig_SinOver.f kj39 a0_0 a0_1).bind fun bt319 => ((trig_CosOver.f kj39 a0_0 a0_1).bind fun bt323 => ((trig_SinOver.f kj39 a1_0 a1_1).bind fun bt327 => ((trig_CosOver.f kj39 a1_0 a1_1).bind fun bt331 => ((sun_Unit.f kj39 bt331.1 bt331.2.1 bt319.1 bt319.2.1).bind fun bt335 => ((sun_Unit.f kj39 bt335.1 bt335.2 bt311.1 bt311.2.1).bind fun bt338 => ((sun_Unit.f kj39 bt327.1 bt327.2.1 bt315.1 bt315.2.1).bind fun bt340 => ((sun_plus.f bt338.1 bt338.2 bt340.1 bt340.2).bind fun bt342 => ((sun_Unit.f kj39 bt335.1 bt335.2 bt315.1 bt315.2.1).bind fun bt345 => ((sun_Unit.f kj39 bt327.1 bt327.2.1 bt311.1 bt311.2.1).bind fun bt347 => ((sun_less.f bt345.1 bt345.2 bt347.1 bt347.2).bind fun bt349 => ((sun_Unit.f kj39 bt331.1 bt331.2.1 bt323.1 bt323.2.1).bind fun bt351 => ((trig_Arc.f kj39 bt349.1 bt349.2 bt351.1 bt351.2).bind fun bt353 => (if bt353.2.2 = 0 then ((trig_ArcSin.f kj39 bt342.1 bt342.2).bind fun bt357 => (some (bt353.1, bt353.2.1, bt357.1, bt357.2.1, 0))) else (some (0, 0, 0, 0, bt353.2.2)))))))))))))))))) = some (r1, r2, r3, r4, r5) := by rw [if_neg (show ¬ (false = true) by decide)] at H; exact H
       clear H
       have H := H1
       clear H1
       replace H := Option.bind_eq_some_iff.mp H
       obtain ⟨⟨t311, t312, t313⟩, A580, H⟩ := H
       replace H : ((trig_Cos.f kj39 65109000).bind fun bt315 => ((trig_SinOver.f kj39 a0_0 a0_1).bind fun bt319 => ((trig_CosOver.f kj39 a0_0 a0_1).bind fun bt323 => ((trig_SinOver.f kj39 a1_0 a1_1).bind fun bt327 => ((trig_CosOver.f kj39 a1_0 a1_1).bind fun bt331 => ((sun_Unit.f kj39 bt331.1 bt331.2.1 bt319.1 bt319.2.1).bind fun bt335 => ((sun_Unit.f kj39 bt335.1 bt335.2 t311 t312).bind fun bt338 => ((sun_Unit.f kj39 bt327.1 bt327.2.1 bt315.1 bt315.2.1).bind fun bt340 => ((sun_plus.f bt338.1 bt338.2 bt340.1 bt340.2).bind fun bt342 => ((sun_Unit.f kj39 bt335.1 bt335.2 bt315.1 bt315.2.1).bind fun bt345 => ((sun_Unit.f kj39 bt327.1 bt327.2.1 t311 t312).bind fun bt347 => ((sun_less.f bt345.1 bt345.2 bt347.1 bt347.2).bind fun bt349 => ((sun_Unit.f kj39 bt331.1 bt331.2.1 bt323.1 bt323.2.1).bind fun bt351 => ((trig_Arc.f kj39 bt349.1 bt349.2 bt351.1 bt351.2).bind fun bt353 => (if bt353.2.2 = 0 then ((trig_ArcSin.f kj39 bt342.1 bt342.2).bind fun bt357 => (some (bt353.1, bt353.2.1, bt357.1, bt357.2.1, 0))) else (some (0, 0, 0, 0, bt353.2.2))))))))))))))))) = some (r1, r2, r3, r4, r5) := H
       have A58 := Aside0.mk A580
       clear A580
       replace H := Option.bind_eq_some_iff.mp H
       obtain ⟨⟨t315, t316, t317⟩, A590, H⟩ := H
       replace H : ((trig_SinOver.f kj39 a0_0 a0_1).bind fun bt319 => ((trig_CosOver.f kj39 a0_0 a0_1).bind fun bt323 => ((trig_SinOver.f kj39 a1_0 a1_1).bind fun bt327 => ((trig_CosOver.f kj39 a1_0 a1_1).bind fun bt331 => ((sun_Unit.f kj39 bt331.1 bt331.2.1 bt319.1 bt319.2.1).bind fun bt335 => ((sun_Unit.f kj39 bt335.1 bt335.2 t311 t312).bind fun bt338 => ((sun_Unit.f kj39 bt327.1 bt327.2.1 t315 t316).bind fun bt340 => ((sun_plus.f bt338.1 bt338.2 bt340.1 bt340.2).bind fun bt342 => ((sun_Unit.f kj39 bt335.1 bt335.2 t315 t316).bind fun bt345 => ((sun_Unit.f kj39 bt327.1 bt327.2.1 t311 t312).bind fun bt347 => ((sun_less.f bt345.1 bt345.2 bt347.1 bt347.2).bind fun bt349 => ((sun_Unit.f kj39 bt331.1 bt331.2.1 bt323.1 bt323.2.1).bind fun bt351 => ((trig_Arc.f kj39 bt349.1 bt349.2 bt351.1 bt351.2).bind fun bt353 => (if bt353.2.2 = 0 then ((trig_ArcSin.f kj39 bt342.1 bt342.2).bind fun bt357 => (some (bt353.1, bt353.2.1, bt357.1, bt357.2.1, 0))) else (some (0, 0, 0, 0, bt353.2.2)))))))))))))))) = some (r1, r2, r3, r4, r5) := H
       have A59 := Aside0.mk A590
       clear A590
       replace H := Option.bind_eq_some_iff.mp H
       obtain ⟨⟨t319, t320, t321⟩, A600, H⟩ := H
       replace H : ((trig_CosOver.f kj39 a0_0 a0_1).bind fun bt323 => ((trig_SinOver.f kj39 a1_0 a1_1).bind fun bt327 => ((trig_CosOver.f kj39 a1_0 a1_1).bind fun bt331 => ((sun_Unit.f kj39 bt331.1 bt331.2.1 t319 t320).bind fun bt335 => ((sun_Unit.f kj39 bt335.1 bt335.2 t311 t312).bind fun bt338 => ((sun_Unit.f kj39 bt327.1 bt327.2.1 t315 t316).bind fun bt340 => ((sun_plus.f bt338.1 bt338.2 bt340.1 bt340.2).bind fun bt342 => ((sun_Unit.f kj39 bt335.1 bt335.2 t315 t316).bind fun bt345 => ((sun_Unit.f kj39 bt327.1 bt327.2.1 t311 t312).bind fun bt347 => ((sun_less.f bt345.1 bt345.2 bt347.1 bt347.2).bind fun bt349 => ((sun_Unit.f kj39 bt331.1 bt331.2.1 bt323.1 bt323.2.1).bind fun bt351 => ((trig_Arc.f kj39 bt349.1 bt349.2 bt351.1 bt351.2).bind fun bt353 => (if bt353.2.2 = 0 then ((trig_ArcSin.f kj39 bt342.1 bt342.2).bind fun bt357 => (some (bt353.1, bt353.2.1, bt357.1, bt357.2.1, 0))) else (some (0, 0, 0, 0, bt353.2.2))))))))))))))) = some (r1, r2, r3, r4, r5) := H
       have A60 := Aside0.mk A600
       clear A600
       replace H := Option.bind_eq_some_iff.mp H
       obtain ⟨⟨t323, t324, t325⟩, A610, H⟩ := H
       replace H : ((trig_SinOver.f kj39 a1_0 a1_1).bind fun bt327 => ((trig_CosOver.f kj39 a1_0 a1_1).bind fun bt331 => ((sun_Unit.f kj39 bt331.1 bt331.2.1 t319 t320).bind fun bt335 => ((sun_Unit.f kj39 bt335.1 bt335.2 t311 t312).bind fun bt338 => ((sun_Unit.f kj39 bt327.1 bt327.2.1 t315 t316).bind fun bt340 => ((sun_plus.f bt338.1 bt338.2 bt340.1 bt340.2).bind fun bt342 => ((sun_Unit.f kj39 bt335.1 bt335.2 t315 t316).bind fun bt345 => ((sun_Unit.f kj39 bt327.1 bt327.2.1 t311 t312).bind fun bt347 => ((sun_less.f bt345.1 bt345.2 bt347.1 bt347.2).bind fun bt349 => ((sun_Unit.f kj39 bt331.1 bt331.2.1 t323 t324).bind fun bt351 => ((trig_Arc.f kj39 bt349.1 bt349.2 bt351.1 bt351.2).bind fun bt353 => (if bt353.2.2 = 0 then ((trig_ArcSin.f kj39 bt342.1 bt342.2).bind fun bt357 => (some (bt353.1, bt353.2.1, bt357.1, bt357.2.1, 0))) else (some (0, 0, 0, 0, bt353.2.2)))))))))))))) = some (r1, r2, r3, r4, r5) := H
       have A61 := Aside0.mk A610
       clear A610
       replace H := Option.bind_eq_some_iff.mp H
       obtain ⟨⟨t327, t328, t329⟩, A620, H⟩ := H
       replace H : ((trig_CosOver.f kj39 a1_0 a1_1).bind fun bt331 => ((sun_Unit.f kj39 bt331.1 bt331.2.1 t319 t320).bind fun bt335 => ((sun_Unit.f kj39 bt335.1 bt335.2 t311 t312).bind fun bt338 => ((sun_Unit.f kj39 t327 t328 t315 t316).bind fun bt340 => ((sun_plus.f bt338.1 bt338.2 bt340.1 bt340.2).bind fun bt342 => ((sun_Unit.f kj39 bt335.1 bt335.2 t315 t316).bind fun bt345 => ((sun_Unit.f kj39 t327 t328 t311 t312).bind fun bt347 => ((sun_less.f bt345.1 bt345.2 bt347.1 bt347.2).bind fun bt349 => ((sun_Unit.f kj39 bt331.1 bt331.2.1 t323 t324).bind fun bt351 => ((trig_Arc.f kj39 bt349.1 bt349.2 bt351.1 bt351.2).bind fun bt353 => (if bt353.2.2 = 0 then ((trig_ArcSin.f kj39 bt342.1 bt342.2).bind fun bt357 => (some (bt353.1, bt353.2.1, bt357.1, bt357.2.1, 0))) else (some (0, 0, 0, 0, bt353.2.2))))))))))))) = some (r1, r2, r3, r4, r5) := H
       have A62 := Aside0.mk A620
       clear A620
       replace H := Option.bind_eq_some_iff.mp H
       obtain ⟨⟨t331, t332, t333⟩, A630, H⟩ := H
       replace H : ((sun_Unit.f kj39 t331 t332 t319 t320).bind fun bt335 => ((sun_Unit.f kj39 bt335.1 bt335.2 t311 t312).bind fun bt338 => ((sun_Unit.f kj39 t327 t328 t315 t316).bind fun bt340 => ((sun_plus.f bt338.1 bt338.2 bt340.1 bt340.2).bind fun bt342 => ((sun_Unit.f kj39 bt335.1 bt335.2 t315 t316).bind fun bt345 => ((sun_Unit.f kj39 t327 t328 t311 t312).bind fun bt347 => ((sun_less.f bt345.1 bt345.2 bt347.1 bt347.2).bind fun bt349 => ((sun_Unit.f kj39 t331 t332 t323 t324).bind fun bt351 => ((trig_Arc.f kj39 bt349.1 bt349.2 bt351.1 bt351.2).bind fun bt353 => (if bt353.2.2 = 0 then ((trig_ArcSin.f kj39 bt342.1 bt342.2).bind fun bt357 => (some (bt353.1, bt353.2.1, bt357.1, bt357.2.1, 0))) else (some (0, 0, 0, 0, bt353.2.2)))))))))))) = some (r1, r2, r3, r4, r5) := H
       have A63 := Aside0.mk A630
       clear A630
       replace H := Option.bind_eq_some_iff.mp H
       obtain ⟨⟨t335, t336⟩, A640, H⟩ := H
       replace H : ((sun_Unit.f kj39 t335 t336 t311 t312).bind fun bt338 => ((sun_Unit.f kj39 t327 t328 t315 t316).bind fun bt340 => ((sun_plus.f bt338.1 bt338.2 bt340.1 bt340.2).bind fun bt342 => ((sun_Unit.f kj39 t335 t336 t315 t316).bind fun bt345 => ((sun_Unit.f kj39 t327 t328 t311 t312).bind fun bt347 => ((sun_less.f bt345.1 bt345.2 bt347.1 bt347.2).bind fun bt349 => ((sun_Unit.f kj39 t331 t332 t323 t324).bind fun bt351 => ((trig_Arc.f kj39 bt349.1 bt349.2 bt351.1 bt351.2).bind fun bt353 => (if bt353.2.2 = 0 then ((trig_ArcSin.f kj39 bt342.1 bt342.2).bind fun bt357 => (some (bt353.1, bt353.2.1, bt357.1, bt357.2.1, 0))) else (some (0, 0, 0, 0, bt353.2.2))))))))))) = some (r1, r2, r3, r4, r5) := H
       have A64 := Aside0.mk A640
       clear A640
       replace H := Option.bind_eq_some_iff.mp H
       obtain ⟨⟨t338, t339⟩, A650, H⟩ := H
       replace H : ((sun_Unit.f kj39 t327 t328 t315 t316).bind fun bt340 => ((sun_plus.f t338 t339 bt340.1 bt340.2).bind fun bt342 => ((sun_Unit.f kj39 t335 t336 t315 t316).bind fun bt345 => ((sun_Unit.f kj39 t327 t328 t311 t312).bind fun bt347 => ((sun_less.f bt345.1 bt345.2 bt347.1 bt347.2).bind fun bt349 => ((sun_Unit.f kj39 t331 t332 t323 t324).bind fun bt351 => ((trig_Arc.f kj39 bt349.1 bt349.2 bt351.1 bt351.2).bind fun bt353 => (if bt353.2.2 = 0 then ((trig_ArcSin.f kj39 bt342.1 bt342.2).bind fun bt357 => (some (bt353.1, bt353.2.1, bt357.1, bt357.2.1, 0))) else (some (0, 0, 0, 0, bt353.2.2)))))))))) = some (r1, r2, r3, r4, r5) := H
       have A65 := Aside0.mk A650
       clear A650
       replace H := Option.bind_eq_some_iff.mp H
       obtain ⟨⟨t340, t341⟩, A660, H⟩ := H
       replace H : ((sun_plus.f t338 t339 t340 t341).bind fun bt342 => ((sun_Unit.f kj39 t335 t336 t315 t316).bind fun bt345 => ((sun_Unit.f kj39 t327 t328 t311 t312).bind fun bt347 => ((sun_less.f bt345.1 bt345.2 bt347.1 bt347.2).bind fun bt349 => ((sun_Unit.f kj39 t331 t332 t323 t324).bind fun bt351 => ((trig_Arc.f kj39 bt349.1 bt349.2 bt351.1 bt351.2).bind fun bt353 => (if bt353.2.2 = 0 then ((trig_ArcSin.f kj39 bt342.1 bt342.2).bind fun bt357 => (some (bt353.1, bt353.2.1, bt357.1, bt357.2.1, 0))) else (some (0, 0, 0, 0, bt353.2.2))))))))) = some (r1, r2, r3, r4, r5) := H
       have A66 := Aside0.mk A660
       clear A660
       replace H := Option.bind_eq_some_iff.mp H
       obtain ⟨⟨t342, t343⟩, A670, H⟩ := H
       replace H : ((sun_Unit.f kj39 t335 t336 t315 t316).bind fun bt345 => ((sun_Unit.f kj39 t327 t328 t311 t312).bind fun bt347 => ((sun_less.f bt345.1 bt345.2 bt347.1 bt347.2).bind fun bt349 => ((sun_Unit.f kj39 t331 t332 t323 t324).bind fun bt351 => ((trig_Arc.f kj39 bt349.1 bt349.2 bt351.1 bt351.2).bind fun bt353 => (if bt353.2.2 = 0 then ((trig_ArcSin.f kj39 t342 t343).bind fun bt357 => (some (bt353.1, bt353.2.1, bt357.1, bt357.2.1, 0))) else (some (0, 0, 0, 0, bt353.2.2)))))))) = some (r1, r2, r3, r4, r5) := H
       have A67 := Aside0.mk A670
       clear A670
       replace H := Option.bind_eq_some_iff.mp H
       obtain ⟨⟨t345, t346⟩, A680, H⟩ := H
       replace H : ((sun_Unit.f kj39 t327 t328 t311 t312).bind fun bt347 => ((sun_less.f t345 t346 bt347.1 bt347.2).bind fun bt349 => ((sun_Unit.f kj39 t331 t332 t323 t324).bind fun bt351 => ((trig_Arc.f kj39 bt349.1 bt349.2 bt351.1 bt351.2).bind fun bt353 => (if bt353.2.2 = 0 then ((trig_ArcSin.f kj39 t342 t343).bind fun bt357 => (some (bt353.1, bt353.2.1, bt357.1, bt357.2.1, 0))) else (some (0, 0, 0, 0, bt353.2.2))))))) = some (r1, r2, r3, r4, r5) := H
       have A68 := Aside0.mk A680
       clear A680
       replace H := Option.bind_eq_some_iff.mp H
       obtain ⟨⟨t347, t348⟩, A690, H⟩ := H
       replace H : ((sun_less.f t345 t346 t347 t348).bind fun bt349 => ((sun_Unit.f kj39 t331 t332 t323 t324).bind fun bt351 => ((trig_Arc.f kj39 bt349.1 bt349.2 bt351.1 bt351.2).bind fun bt353 => (if bt353.2.2 = 0 then ((trig_ArcSin.f kj39 t342 t343).bind fun bt357 => (some (bt353.1, bt353.2.1, bt357.1, bt357.2.1, 0))) else (some (0, 0, 0, 0, bt353.2.2)))))) = some (r1, r2, r3, r4, r5) := H
       have A69 := Aside0.mk A690
       clear A690
       replace H := Option.bind_eq_some_iff.mp H
       obtain ⟨⟨t349, t350⟩, A700, H⟩ := H
       replace H : ((sun_Unit.f kj39 t331 t332 t323 t324).bind fun bt351 => ((trig_Arc.f kj39 t349 t350 bt351.1 bt351.2).bind fun bt353 => (if bt353.2.2 = 0 then ((trig_ArcSin.f kj39 t342 t343).bind fun bt357 => (some (bt353.1, bt353.2.1, bt357.1, bt357.2.1, 0))) else (some (0, 0, 0, 0, bt353.2.2))))) = some (r1, r2, r3, r4, r5) := H
       have A70 := Aside0.mk A700
       clear A700
       replace H := Option.bind_eq_some_iff.mp H
       obtain ⟨⟨t351, t352⟩, A710, H⟩ := H
       replace H : ((trig_Arc.f kj39 t349 t350 t351 t352).bind fun bt353 => (if bt353.2.2 = 0 then ((trig_ArcSin.f kj39 t342 t343).bind fun bt357 => (some (bt353.1, bt353.2.1, bt357.1, bt357.2.1, 0))) else (some (0, 0, 0, 0, bt353.2.2)))) = some (r1, r2, r3, r4, r5) := H
       have A71 := Aside0.mk A710
       clear A710
       replace H := Option.bind_eq_some_iff.mp H
       obtain ⟨⟨t353, t354, t355⟩, A720, H⟩ := H
       replace H : (if t355 = 0 then ((trig_ArcSin.f kj39 t342 t343).bind fun bt357 => (some (t353, t354, bt357.1, bt357.2.1, 0))) else (some (0, 0, 0, 0, t355))) = some (r1, r2, r3, r4, r5) := H
       have A72 := Aside0.mk A720
       clear A720
       have HC73 := Aside0.mk H
       clear H
       try go_wp2_with (first | ((with_reducible refine gate_callee (f := 53) rfl ?_); refine goesL_ (some 53) rfl rfl Try.func53 (by kernel_rfl) rfl #[.int .i64 65109000] rfl (by (try simp only [List.map_toArray, List.map_cons, List.map_nil]); first | done | rfl | (simp only [List.length_drop, List.length_take]; rfl)) ?_; (with_reducible refine (trig_Sin.calls kj39 65109000 t311 t312 t313 _ A58.out).mono ?_); rintro e w74 ⟨rfl, hb⟩; refine ⟨_, rfl, ?_⟩; replace BK305 := kb_ BK305 hb; replace BK306 := kb_ BK306 hb; replace BK307 := kb_ BK307 hb; replace BK308 := kb_ BK308 hb; replace HB := bs_ HB hb; (try clear hb); (try clear hb2); (try clear hk); (try clear hi)) | ((with_reducible refine gate_dst (N := 10) rfl ?_); refine box_event ?hg (N := 10) ?hd (cs := #[.int .i64 0, .int .i64 0]) (t := 24) ?hr ?_; (case hd => rfl); (case hg => rfl); (case hr => first | (go_simp; done) | (go_simp; rfl)); intro gb314 hg w75 hbox hb; have BK314 := Aside0.mk (hbox); have GW314 := ge_ hg HB; have GE314 := ge_ hg HB; have NB305_314 := nl_ hg BK305; have NB314_305 := ng_ hg BK305; have NB306_314 := nl_ hg BK306; have NB314_306 := ng_ hg BK306; have NB307_314 := nl_ hg BK307; have NB314_307 := ng_ hg BK307; have NB308_314 := nl_ hg BK308; have NB314_308 := ng_ hg BK308; replace BK305 := kb_ BK305 hb; replace BK306 := kb_ BK306 hb; replace BK307 := kb_ BK307 hb; replace BK308 := kb_ BK308 hb; replace HB := bs_ HB hb; clear hb hbox hg; have hnb76 := NB314_305.out; have hnc76 := NB305_314.out; have hnb77 := NB314_306.out; have hnc77 := NB306_314.out; have hnb78 := NB314_307.out; have hnc78 := NB307_314.out; have hnb79 := NB314_308.out; have hnc79 := NB308_314.out; have hcz80_0 : w75.cell? ⟨gb314, 0, none⟩ = some (.int .i64 0) := (blk_cell BK314.out 0).trans rfl; have hcz80_1 : w75.cell? ⟨gb314, 1, none⟩ = some (.int .i64 0) := (blk_cell BK314.out 1).trans rfl; have hfz80_0 := blk_frozen BK314.out 0; have hfz80_1 := blk_frozen BK314.out 1) | ((with_reducible refine gate_callee (f := 54) rfl ?_); refine goesL_ (some 57) rfl rfl Try.func54 (by kernel_rfl) rfl #[.int .i64 65109000] rfl (by (try simp only [List.map_toArray, List.map_cons, List.map_nil]); first | done | rfl | (simp only [List.length_drop, List.length_take]; rfl)) ?_; (with_reducible refine (trig_Cos.calls kj39 65109000 t315 t316 t317 _ A59.out).mono ?_); rintro e w81 ⟨rfl, hb⟩; refine ⟨_, rfl, ?_⟩; have n0_ := kb_ BK305 hb; have n1_ := kb_ BK306 hb; have n2_ := kb_ BK307 hb; have n3_ := kb_ BK308 hb; have n4_ := Aside0.mk (blk_below (g := gb314) (o := .cells #[.int .i64 t311, .int .i64 t312] 24 (0, 0)) (by (with_reducible repeat (first | refine blk_drewN ?_ _ | refine blk_drew ?_ | refine blk_alloc ?_ _)); refine blk_put (cs := #[.int .i64 t311, .int .i64 0]) ?_ 1 _ rfl; (with_reducible repeat (first | refine blk_drewN ?_ _ | refine blk_drew ?_ | refine blk_alloc ?_ _)); refine blk_put (cs := #[.int .i64 0, .int .i64 0]) ?_ 0 _ rfl; (with_reducible repeat (first | refine blk_drewN ?_ _ | refine blk_drew ?_ | refine blk_alloc ?_ _)); exact BK314.out) hb); have n5_ := bs_ HB hb; clear BK305; clear BK306; clear BK307; clear BK308; clear BK314; clear HB; have BK305 := n0_; have BK306 := n1_; have BK307 := n2_; have BK308 := n3_; have BK314 := n4_; have HB := n5_; clear n0_ n1_ n2_ n3_ n4_ n5_; (try clear hb); (try clear hb2); (try clear hk); (try clear hi)) | ((with_reducible refine gate_dst (N := 12) rfl ?_); refine box_event ?hg (N := 12) ?hd (cs := #[.int .i64 0, .int .i64 0]) (t := 24) ?hr ?_; (case hd => rfl); (case hg => rfl); (case hr => first | (go_simp; done) | (go_simp; rfl)); intro gb318 hg w82 hbox hb; have BK318 := Aside0.mk (hbox); have GW318 := ge_ hg HB; have GE318 := ge_ hg HB; have NB305_318 := nl_ hg BK305; have NB318_305 := ng_ hg BK305; have NB306_318 := nl_ hg BK306; have NB318_306 := ng_ hg BK306; have NB307_318 := nl_ hg BK307; have NB318_307 := ng_ hg BK307; have NB308_318 := nl_ hg BK308; have NB318_308 := ng_ hg BK308; have NB314_318 := nl_ hg BK314; have NB318_314 := ng_ hg BK314; replace BK305 := kb_ BK305 hb; replace BK306 := kb_ BK306 hb; replace BK307 := kb_ BK307 hb; replace BK308 := kb_ BK308 hb; replace BK314 := kb_ BK314 hb; replace HB := bs_ HB hb; clear hb hbox hg; have hnb83 := NB318_305.out; have hnc83 := NB305_318.out; have hnb84 := NB318_306.out; have hnc84 := NB306_318.out; have hnb85 := NB318_307.out; have hnc85 := NB307_318.out; have hnb86 := NB318_308.out; have hnc86 := NB308_318.out; have hnb87 := NB318_314.out; have hnc87 := NB314_318.out; have hcz88_0 : w82.cell? ⟨gb318, 0, none⟩ = some (.int .i64 0) := (blk_cell BK318.out 0).trans rfl; have hcz88_1 : w82.cell? ⟨gb318, 1, none⟩ = some (.int .i64 0) := (blk_cell BK318.out 1).trans rfl; have hfz88_0 := blk_frozen BK318.out 0; have hfz88_1 := blk_frozen BK318.out 1; have hnb89 := NB305_306.out; have hnc89 := NB306_305.out; have hnb90 := NB305_307.out; have hnc90 := NB307_305.out; have hnb91 := NB305_308.out; have hnc91 := NB308_305.out; have hcz92_0 : w82.cell? ⟨gb305, 0, none⟩ = some (.int .i64 a0_0) := (blk_cell BK305.out 0).trans rfl; have hcz92_1 : w82.cell? ⟨gb305, 1, none⟩ = some (.int .i64 a0_1) := (blk_cell BK305.out 1).trans rfl; have hfz92_0 := blk_frozen BK305.out 0; have hfz92_1 := blk_frozen BK305.out 1) | ((with_reducible refine gate_callee (f := 55) rfl ?_); refine goesL_ (some 62) rfl rfl Try.func55 (by kernel_rfl) rfl #[.agg #[.int .i64 a0_0, .int .i64 a0_1]] rfl (by (try simp only [List.map_toArray, List.map_cons, List.map_nil]); first | done | rfl | (simp only [List.length_drop, List.length_take]; rfl)) ?_; (with_reducible refine (trig_SinOver.calls kj39 a0_0 a0_1 t319 t320 t321 _ A60.out).mono ?_); rintro e w93 ⟨rfl, hb⟩; refine ⟨_, rfl, ?_⟩; have n0_ := kb_ BK305 hb; have n1_ := kb_ BK306 hb; have n2_ := kb_ BK307 hb; have n3_ := kb_ BK308 hb; have n4_ := kb_ BK314 hb; have n5_ := Aside0.mk (blk_below (g := gb318) (o := .cells #[.int .i64 t315, .int .i64 t316] 24 (0, 0)) (by (with_reducible repeat (first | refine blk_drewN ?_ _ | refine blk_drew ?_ | refine blk_alloc ?_ _)); refine blk_put (cs := #[.int .i64 t315, .int .i64 0]) ?_ 1 _ rfl; (with_reducible repeat (first | refine blk_drewN ?_ _ | refine blk_drew ?_ | refine blk_alloc ?_ _)); refine blk_put (cs := #[.int .i64 0, .int .i64 0]) ?_ 0 _ rfl; (with_reducible repeat (first | refine blk_drewN ?_ _ | refine blk_drew ?_ | refine blk_alloc ?_ _)); exact BK318.out) hb); have n6_ := bs_ HB hb; clear BK305; clear BK306; clear BK307; clear BK308; clear BK314; clear BK318; clear HB; have BK305 := n0_; have BK306 := n1_; have BK307 := n2_; have BK308 := n3_; have BK314 := n4_; have BK318 := n5_; have HB := n6_; clear n0_ n1_ n2_ n3_ n4_ n5_ n6_; (try clear hb); (try clear hb2); (try clear hk); (try clear hi)) | ((with_reducible refine gate_dst (N := 14) rfl ?_); refine box_event ?hg (N := 14) ?hd (cs := #[.int .i64 0, .int .i64 0]) (t := 24) ?hr ?_; (case hd => rfl); (case hg => rfl); (case hr => first | (go_simp; done) | (go_simp; rfl)); intro gb322 hg w94 hbox hb; have BK322 := Aside0.mk (hbox); have GW322 := ge_ hg HB; have GE322 := ge_ hg HB; have NB305_322 := nl_ hg BK305; have NB322_305 := ng_ hg BK305; have NB306_322 := nl_ hg BK306; have NB322_306 := ng_ hg BK306; have NB307_322 := nl_ hg BK307; have NB322_307 := ng_ hg BK307; have NB308_322 := nl_ hg BK308; have NB322_308 := ng_ hg BK308; have NB314_322 := nl_ hg BK314; have NB322_314 := ng_ hg BK314; have NB318_322 := nl_ hg BK318; have NB322_318 := ng_ hg BK318; replace BK305 := kb_ BK305 hb; replace BK306 := kb_ BK306 hb; replace BK307 := kb_ BK307 hb; replace BK308 := kb_ BK308 hb; replace BK314 := kb_ BK314 hb; replace BK318 := kb_ BK318 hb; replace HB := bs_ HB hb; clear hb hbox hg; have hnb95 := NB322_305.out; have hnc95 := NB305_322.out; have hnb96 := NB322_306.out; have hnc96 := NB306_322.out; have hnb97 := NB322_307.out; have hnc97 := NB307_322.out; have hnb98 := NB322_308.out; have hnc98 := NB308_322.out; have hnb99 := NB322_314.out; have hnc99 := NB314_322.out; have hnb100 := NB322_318.out; have hnc100 := NB318_322.out; have hcz101_0 : w94.cell? ⟨gb322, 0, none⟩ = some (.int .i64 0) := (blk_cell BK322.out 0).trans rfl; have hcz101_1 : w94.cell? ⟨gb322, 1, none⟩ = some (.int .i64 0) := (blk_cell BK322.out 1).trans rfl; have hfz101_0 := blk_frozen BK322.out 0; have hfz101_1 := blk_frozen BK322.out 1; have hcz102_0 : w94.cell? ⟨gb305, 0, none⟩ = some (.int .i64 a0_0) := (blk_cell BK305.out 0).trans rfl; have hcz102_1 : w94.cell? ⟨gb305, 1, none⟩ = some (.int .i64 a0_1) := (blk_cell BK305.out 1).trans rfl; have hfz102_0 := blk_frozen BK305.out 0; have hfz102_1 := blk_frozen BK305.out 1) | ((with_reducible refine gate_callee (f := 56) rfl ?_); refine goesL_ (some 67) rfl rfl Try.func56 (by kernel_rfl) rfl #[.agg #[.int .i64 a0_0, .int .i64 a0_1]] rfl (by (try simp only [List.map_toArray, List.map_cons, List.map_nil]); first | done | rfl | (simp only [List.length_drop, List.length_take]; rfl)) ?_; (with_reducible refine (trig_CosOver.calls kj39 a0_0 a0_1 t323 t324 t325 _ A61.out).mono ?_); rintro e w103 ⟨rfl, hb⟩; refine ⟨_, rfl, ?_⟩; have n0_ := kb_ BK305 hb; have n1_ := kb_ BK306 hb; have n2_ := kb_ BK307 hb; have n3_ := kb_ BK308 hb; have n4_ := kb_ BK314 hb; have n5_ := kb_ BK318 hb; have n6_ := Aside0.mk (blk_below (g := gb322) (o := .cells #[.int .i64 t319, .int .i64 t320] 24 (0, 0)) (by (with_reducible repeat (first | refine blk_drewN ?_ _ | refine blk_drew ?_ | refine blk_alloc ?_ _)); refine blk_put (cs := #[.int .i64 t319, .int .i64 0]) ?_ 1 _ rfl; (with_reducible repeat (first | refine blk_drewN ?_ _ | refine blk_drew ?_ | refine blk_alloc ?_ _)); refine blk_put (cs := #[.int .i64 0, .int .i64 0]) ?_ 0 _ rfl; (with_reducible repeat (first | refine blk_drewN ?_ _ | refine blk_drew ?_ | refine blk_alloc ?_ _)); exact BK322.out) hb); have n7_ := bs_ HB hb; clear BK305; clear BK306; clear BK307; clear BK308; clear BK314; clear BK318; clear BK322; clear HB; have BK305 := n0_; have BK306 := n1_; have BK307 := n2_; have BK308 := n3_; have BK314 := n4_; have BK318 := n5_; have BK322 := n6_; have HB := n7_; clear n0_ n1_ n2_ n3_ n4_ n5_ n6_ n7_; (try clear hb); (try clear hb2); (try clear hk); (try clear hi)) | ((with_reducible refine gate_dst (N := 16) rfl ?_); refine box_event ?hg (N := 16) ?hd (cs := #[.int .i64 0, .int .i64 0]) (t := 24) ?hr ?_; (case hd => rfl); (case hg => rfl); (case hr => first | (go_simp; done) | (go_simp; rfl)); intro gb326 hg w104 hbox hb; have BK326 := Aside0.mk (hbox); have GW326 := ge_ hg HB; have GE326 := ge_ hg HB; have NB305_326 := nl_ hg BK305; have NB326_305 := ng_ hg BK305; have NB306_326 := nl_ hg BK306; have NB326_306 := ng_ hg BK306; have NB307_326 := nl_ hg BK307; have NB326_307 := ng_ hg BK307; have NB308_326 := nl_ hg BK308; have NB326_308 := ng_ hg BK308; have NB314_326 := nl_ hg BK314; have NB326_314 := ng_ hg BK314; have NB318_326 := nl_ hg BK318; have NB326_318 := ng_ hg BK318; have NB322_326 := nl_ hg BK322; have NB326_322 := ng_ hg BK322; replace BK305 := kb_ BK305 hb; replace BK306 := kb_ BK306 hb; replace BK307 := kb_ BK307 hb; replace BK308 := kb_ BK308 hb; replace BK314 := kb_ BK314 hb; replace BK318 := kb_ BK318 hb; replace BK322 := kb_ BK322 hb; replace HB := bs_ HB hb; clear hb hbox hg; have hnb105 := NB326_305.out; have hnc105 := NB305_326.out; have hnb106 := NB326_306.out; have hnc106 := NB306_326.out; have hnb107 := NB326_307.out; have hnc107 := NB307_326.out; have hnb108 := NB326_308.out; have hnc108 := NB308_326.out; have hnb109 := NB326_314.out; have hnc109 := NB314_326.out; have hnb110 := NB326_318.out; have hnc110 := NB318_326.out; have hnb111 := NB326_322.out; have hnc111 := NB322_326.out; have hcz112_0 : w104.cell? ⟨gb326, 0, none⟩ = some (.int .i64 0) := (blk_cell BK326.out 0).trans rfl; have hcz112_1 : w104.cell? ⟨gb326, 1, none⟩ = some (.int .i64 0) := (blk_cell BK326.out 1).trans rfl; have hfz112_0 := blk_frozen BK326.out 0; have hfz112_1 := blk_frozen BK326.out 1; have hnb113 := NB306_307.out; have hnc113 := NB307_306.out; have hnb114 := NB306_308.out; have hnc114 := NB308_306.out; have hcz115_0 : w104.cell? ⟨gb306, 0, none⟩ = some (.int .i64 a1_0) := (blk_cell BK306.out 0).trans rfl; have hcz115_1 : w104.cell? ⟨gb306, 1, none⟩ = some (.int .i64 a1_1) := (blk_cell BK306.out 1).trans rfl; have hfz115_0 := blk_frozen BK306.out 0; have hfz115_1 := blk_frozen BK306.out 1) | ((with_reducible refine gate_callee (f := 55) rfl ?_); refine goesL_ (some 72) rfl rfl Try.func55 (by kernel_rfl) rfl #[.agg #[.int .i64 a1_0, .int .i64 a1_1]] rfl (by (try simp only [List.map_toArray, List.map_cons, List.map_nil]); first | done | rfl | (simp only [List.length_drop, List.length_take]; rfl)) ?_; (with_reducible refine (trig_SinOver.calls kj39 a1_0 a1_1 t327 t328 t329 _ A62.out).mono ?_); rintro e w116 ⟨rfl, hb⟩; refine ⟨_, rfl, ?_⟩; have n0_ := kb_ BK305 hb; have n1_ := kb_ BK306 hb; have n2_ := kb_ BK307 hb; have n3_ := kb_ BK308 hb; have n4_ := kb_ BK314 hb; have n5_ := kb_ BK318 hb; have n6_ := kb_ BK322 hb; have n7_ := Aside0.mk (blk_below (g := gb326) (o := .cells #[.int .i64 t323, .int .i64 t324] 24 (0, 0)) (by (with_reducible repeat (first | refine blk_drewN ?_ _ | refine blk_drew ?_ | refine blk_alloc ?_ _)); refine blk_put (cs := #[.int .i64 t323, .int .i64 0]) ?_ 1 _ rfl; (with_reducible repeat (first | refine blk_drewN ?_ _ | refine blk_drew ?_ | refine blk_alloc ?_ _)); refine blk_put (cs := #[.int .i64 0, .int .i64 0]) ?_ 0 _ rfl; (with_reducible repeat (first | refine blk_drewN ?_ _ | refine blk_drew ?_ | refine blk_alloc ?_ _)); exact BK326.out) hb); have n8_ := bs_ HB hb; clear BK305; clear BK306; clear BK307; clear BK308; clear BK314; clear BK318; clear BK322; clear BK326; clear HB; have BK305 := n0_; have BK306 := n1_; have BK307 := n2_; have BK308 := n3_; have BK314 := n4_; have BK318 := n5_; have BK322 := n6_; have BK326 := n7_; have HB := n8_; clear n0_ n1_ n2_ n3_ n4_ n5_ n6_ n7_ n8_; (try clear hb); (try clear hb2); (try clear hk); (try clear hi)) | ((with_reducible refine gate_dst (N := 18) rfl ?_); refine box_event ?hg (N := 18) ?hd (cs := #[.int .i64 0, .int .i64 0]) (t := 24) ?hr ?_; (case hd => rfl); (case hg => rfl); (case hr => first | (go_simp; done) | (go_simp; rfl)); intro gb330 hg w117 hbox hb; have BK330 := Aside0.mk (hbox); have GW330 := ge_ hg HB; have GE330 := ge_ hg HB; have NB305_330 := nl_ hg BK305; have NB330_305 := ng_ hg BK305; have NB306_330 := nl_ hg BK306; have NB330_306 := ng_ hg BK306; have NB307_330 := nl_ hg BK307; have NB330_307 := ng_ hg BK307; have NB308_330 := nl_ hg BK308; have NB330_308 := ng_ hg BK308; have NB314_330 := nl_ hg BK314; have NB330_314 := ng_ hg BK314; have NB318_330 := nl_ hg BK318; have NB330_318 := ng_ hg BK318; have NB322_330 := nl_ hg BK322; have NB330_322 := ng_ hg BK322; have NB326_330 := nl_ hg BK326; have NB330_326 := ng_ hg BK326; replace BK305 := kb_ BK305 hb; replace BK306 := kb_ BK306 hb; replace BK307 := kb_ BK307 hb; replace BK308 := kb_ BK308 hb; replace BK314 := kb_ BK314 hb; replace BK318 := kb_ BK318 hb; replace BK322 := kb_ BK322 hb; replace BK326 := kb_ BK326 hb; replace HB := bs_ HB hb; clear hb hbox hg; have hnb118 := NB330_305.out; have hnc118 := NB305_330.out; have hnb119 := NB330_306.out; have hnc119 := NB306_330.out; have hnb120 := NB330_307.out; have hnc120 := NB307_330.out; have hnb121 := NB330_308.out; have hnc121 := NB308_330.out; have hnb122 := NB330_314.out; have hnc122 := NB314_330.out; have hnb123 := NB330_318.out; have hnc123 := NB318_330.out; have hnb124 := NB330_322.out; have hnc124 := NB322_330.out; have hnb125 := NB330_326.out; have hnc125 := NB326_330.out; have hcz126_0 : w117.cell? ⟨gb330, 0, none⟩ = some (.int .i64 0) := (blk_cell BK330.out 0).trans rfl; have hcz126_1 : w117.cell? ⟨gb330, 1, none⟩ = some (.int .i64 0) := (blk_cell BK330.out 1).trans rfl; have hfz126_0 := blk_frozen BK330.out 0; have hfz126_1 := blk_frozen BK330.out 1; have hcz127_0 : w117.cell? ⟨gb306, 0, none⟩ = some (.int .i64 a1_0) := (blk_cell BK306.out 0).trans rfl; have hcz127_1 : w117.cell? ⟨gb306, 1, none⟩ = some (.int .i64 a1_1) := (blk_cell BK306.out 1).trans rfl; have hfz127_0 := blk_frozen BK306.out 0; have hfz127_1 := blk_frozen BK306.out 1) | ((with_reducible refine gate_callee (f := 56) rfl ?_); refine goesL_ (some 77) rfl rfl Try.func56 (by kernel_rfl) rfl #[.agg #[.int .i64 a1_0, .int .i64 a1_1]] rfl (by (try simp only [List.map_toArray, List.map_cons, List.map_nil]); first | done | rfl | (simp only [List.length_drop, List.length_take]; rfl)) ?_; (with_reducible refine (trig_CosOver.calls kj39 a1_0 a1_1 t331 t332 t333 _ A63.out).mono ?_); rintro e w128 ⟨rfl, hb⟩; refine ⟨_, rfl, ?_⟩; have n0_ := kb_ BK305 hb; have n1_ := kb_ BK306 hb; have n2_ := kb_ BK307 hb; have n3_ := kb_ BK308 hb; have n4_ := kb_ BK314 hb; have n5_ := kb_ BK318 hb; have n6_ := kb_ BK322 hb; have n7_ := kb_ BK326 hb; have n8_ := Aside0.mk (blk_below (g := gb330) (o := .cells #[.int .i64 t327, .int .i64 t328] 24 (0, 0)) (by (with_reducible repeat (first | refine blk_drewN ?_ _ | refine blk_drew ?_ | refine blk_alloc ?_ _)); refine blk_put (cs := #[.int .i64 t327, .int .i64 0]) ?_ 1 _ rfl; (with_reducible repeat (first | refine blk_drewN ?_ _ | refine blk_drew ?_ | refine blk_alloc ?_ _)); refine blk_put (cs := #[.int .i64 0, .int .i64 0]) ?_ 0 _ rfl; (with_reducible repeat (first | refine blk_drewN ?_ _ | refine blk_drew ?_ | refine blk_alloc ?_ _)); exact BK330.out) hb); have n9_ := bs_ HB hb; clear BK305; clear BK306; clear BK307; clear BK308; clear BK314; clear BK318; clear BK322; clear BK326; clear BK330; clear HB; have BK305 := n0_; have BK306 := n1_; have BK307 := n2_; have BK308 := n3_; have BK314 := n4_; have BK318 := n5_; have BK322 := n6_; have BK326 := n7_; have BK330 := n8_; have HB := n9_; clear n0_ n1_ n2_ n3_ n4_ n5_ n6_ n7_ n8_ n9_; (try clear hb); (try clear hb2); (try clear hk); (try clear hi)) | ((with_reducible refine gate_dst (N := 20) rfl ?_); refine box_event ?hg (N := 20) ?hd (cs := #[.int .i64 0, .int .i64 0]) (t := 24) ?hr ?_; (case hd => rfl); (case hg => rfl); (case hr => first | (go_simp; done) | (go_simp; rfl)); intro gb334 hg w129 hbox hb; have BK334 := Aside0.mk (hbox); have GW334 := ge_ hg HB; have GE334 := ge_ hg HB; have NB305_334 := nl_ hg BK305; have NB334_305 := ng_ hg BK305; have NB306_334 := nl_ hg BK306; have NB334_306 := ng_ hg BK306; have NB307_334 := nl_ hg BK307; have NB334_307 := ng_ hg BK307; have NB308_334 := nl_ hg BK308; have NB334_308 := ng_ hg BK308; have NB314_334 := nl_ hg BK314; have NB334_314 := ng_ hg BK314; have NB318_334 := nl_ hg BK318; have NB334_318 := ng_ hg BK318; have NB322_334 := nl_ hg BK322; have NB334_322 := ng_ hg BK322; have NB326_334 := nl_ hg BK326; have NB334_326 := ng_ hg BK326; have NB330_334 := nl_ hg BK330; have NB334_330 := ng_ hg BK330; replace BK305 := kb_ BK305 hb; replace BK306 := kb_ BK306 hb; replace BK307 := kb_ BK307 hb; replace BK308 := kb_ BK308 hb; replace BK314 := kb_ BK314 hb; replace BK318 := kb_ BK318 hb; replace BK322 := kb_ BK322 hb; replace BK326 := kb_ BK326 hb; replace BK330 := kb_ BK330 hb; replace HB := bs_ HB hb; clear hb hbox hg; have hnb130 := NB334_305.out; have hnc130 := NB305_334.out; have hnb131 := NB334_306.out; have hnc131 := NB306_334.out; have hnb132 := NB334_307.out; have hnc132 := NB307_334.out; have hnb133 := NB334_308.out; have hnc133 := NB308_334.out; have hnb134 := NB334_314.out; have hnc134 := NB314_334.out; have hnb135 := NB334_318.out; have hnc135 := NB318_334.out; have hnb136 := NB334_322.out; have hnc136 := NB322_334.out; have hnb137 := NB334_326.out; have hnc137 := NB326_334.out; have hnb138 := NB334_330.out; have hnc138 := NB330_334.out; have hcz139_0 : w129.cell? ⟨gb334, 0, none⟩ = some (.int .i64 0) := (blk_cell BK334.out 0).trans rfl; have hcz139_1 : w129.cell? ⟨gb334, 1, none⟩ = some (.int .i64 0) := (blk_cell BK334.out 1).trans rfl; have hfz139_0 := blk_frozen BK334.out 0; have hfz139_1 := blk_frozen BK334.out 1; have hcz140_0 : w129.cell? ⟨gb322, 0, none⟩ = some (.int .i64 t319) := (blk_cell BK322.out 0).trans rfl; have hcz140_1 : w129.cell? ⟨gb322, 1, none⟩ = some (.int .i64 t320) := (blk_cell BK322.out 1).trans rfl; have hfz140_0 := blk_frozen BK322.out 0; have hfz140_1 := blk_frozen BK322.out 1) | ((with_reducible refine gate_callee (f := 57) rfl ?_); refine goesL_ (some 82) rfl rfl Try.func57 (by kernel_rfl) rfl #[.agg #[.int .i64 t331, .int .i64 t332], .agg #[.int .i64 t319, .int .i64 t320]] rfl (by (try simp only [List.map_toArray, List.map_cons, List.map_nil]); first | done | rfl | (simp only [List.length_drop, List.length_take]; rfl)) ?_; (with_reducible refine (sun_Unit.calls kj39 t331 t332 t319 t320 t335 t336 _ A64.out).mono ?_); rintro e w141 ⟨rfl, hb⟩; refine ⟨_, rfl, ?_⟩; have n0_ := kb_ BK305 hb; have n1_ := kb_ BK306 hb; have n2_ := kb_ BK307 hb; have n3_ := kb_ BK308 hb; have n4_ := kb_ BK314 hb; have n5_ := kb_ BK318 hb; have n6_ := kb_ BK322 hb; have n7_ := kb_ BK326 hb; have n8_ := kb_ BK330 hb; have n9_ := Aside0.mk (blk_below (g := gb334) (o := .cells #[.int .i64 t331, .int .i64 t332] 24 (0, 0)) (by (with_reducible repeat (first | refine blk_drewN ?_ _ | refine blk_drew ?_ | refine blk_alloc ?_ _)); refine blk_put (cs := #[.int .i64 t331, .int .i64 0]) ?_ 1 _ rfl; (with_reducible repeat (first | refine blk_drewN ?_ _ | refine blk_drew ?_ | refine blk_alloc ?_ _)); refine blk_put (cs := #[.int .i64 0, .int .i64 0]) ?_ 0 _ rfl; (with_reducible repeat (first | refine blk_drewN ?_ _ | refine blk_drew ?_ | refine blk_alloc ?_ _)); exact BK334.out) hb); have n10_ := bs_ HB hb; clear BK305; clear BK306; clear BK307; clear BK308; clear BK314; clear BK318; clear BK322; clear BK326; clear BK330; clear BK334; clear HB; have BK305 := n0_; have BK306 := n1_; have BK307 := n2_; have BK308 := n3_; have BK314 := n4_; have BK318 := n5_; have BK322 := n6_; have BK326 := n7_; have BK330 := n8_; have BK334 := n9_; have HB := n10_; clear n0_ n1_ n2_ n3_ n4_ n5_ n6_ n7_ n8_ n9_ n10_; (try clear hb); (try clear hb2); (try clear hk); (try clear hi)) | ((with_reducible refine gate_dst (N := 22) rfl ?_); refine box_event ?hg (N := 22) ?hd (cs := #[.int .i64 0, .int .i64 0]) (t := 24) ?hr ?_; (case hd => rfl); (case hg => rfl); (case hr => first | (go_simp; done) | (go_simp; rfl)); intro gb337 hg w142 hbox hb; have BK337 := Aside0.mk (hbox); have GW337 := ge_ hg HB; have GE337 := ge_ hg HB; have NB305_337 := nl_ hg BK305; have NB337_305 := ng_ hg BK305; have NB306_337 := nl_ hg BK306; have NB337_306 := ng_ hg BK306; have NB307_337 := nl_ hg BK307; have NB337_307 := ng_ hg BK307; have NB308_337 := nl_ hg BK308; have NB337_308 := ng_ hg BK308; have NB314_337 := nl_ hg BK314; have NB337_314 := ng_ hg BK314; have NB318_337 := nl_ hg BK318; have NB337_318 := ng_ hg BK318; have NB322_337 := nl_ hg BK322; have NB337_322 := ng_ hg BK322; have NB326_337 := nl_ hg BK326; have NB337_326 := ng_ hg BK326; have NB330_337 := nl_ hg BK330; have NB337_330 := ng_ hg BK330; have NB334_337 := nl_ hg BK334; have NB337_334 := ng_ hg BK334; replace BK305 := kb_ BK305 hb; replace BK306 := kb_ BK306 hb; replace BK307 := kb_ BK307 hb; replace BK308 := kb_ BK308 hb; replace BK314 := kb_ BK314 hb; replace BK318 := kb_ BK318 hb; replace BK322 := kb_ BK322 hb; replace BK326 := kb_ BK326 hb; replace BK330 := kb_ BK330 hb; replace BK334 := kb_ BK334 hb; replace HB := bs_ HB hb; clear hb hbox hg; have hnb143 := NB337_305.out; have hnc143 := NB305_337.out; have hnb144 := NB337_306.out; have hnc144 := NB306_337.out; have hnb145 := NB337_307.out; have hnc145 := NB307_337.out; have hnb146 := NB337_308.out; have hnc146 := NB308_337.out; have hnb147 := NB337_314.out; have hnc147 := NB314_337.out; have hnb148 := NB337_318.out; have hnc148 := NB318_337.out; have hnb149 := NB337_322.out; have hnc149 := NB322_337.out; have hnb150 := NB337_326.out; have hnc150 := NB326_337.out; have hnb151 := NB337_330.out; have hnc151 := NB330_337.out; have hnb152 := NB337_334.out; have hnc152 := NB334_337.out; have hcz153_0 : w142.cell? ⟨gb337, 0, none⟩ = some (.int .i64 0) := (blk_cell BK337.out 0).trans rfl; have hcz153_1 : w142.cell? ⟨gb337, 1, none⟩ = some (.int .i64 0) := (blk_cell BK337.out 1).trans rfl; have hfz153_0 := blk_frozen BK337.out 0; have hfz153_1 := blk_frozen BK337.out 1))
       have n0_ : Aside0 (((w142.setCell ⟨gb337, 0, none⟩ (.int .i64 t335)).setCell ⟨gb337, 1, none⟩ (.int .i64 t336)).heap[gb305]? = some (.cells #[.int .i64 a0_0, .int .i64 a0_1] 24 (0, 0))) := ⟨kk_ BK305⟩
       have n1_ : Aside0 (((w142.setCell ⟨gb337, 0, none⟩ (.int .i64 t335)).setCell ⟨gb337, 1, none⟩ (.int .i64 t336)).heap[gb306]? = some (.cells #[.int .i64 a1_0, .int .i64 a1_1] 24 (0, 0))) := ⟨kk_ BK306⟩
       have n2_ : Aside0 (((w142.setCell ⟨gb337, 0, none⟩ (.int .i64 t335)).setCell ⟨gb337, 1, none⟩ (.int .i64 t336)).heap[gb307]? = some (.cells #[.int .i64 x308000_1, .int .i64 x308001_1] 24 (0, 0))) := ⟨kk_ BK307⟩
       have n3_ : Aside0 (((w142.setCell ⟨gb337, 0, none⟩ (.int .i64 t335)).setCell ⟨gb337, 1, none⟩ (.int .i64 t336)).heap[gb308]? = some (.cells #[.int .i64 x309000_1, .int .i64 x309001_1] 24 (0, 0))) := ⟨kk_ BK308⟩
       have n4_ : Aside0 (((w142.setCell ⟨gb337, 0, none⟩ (.int .i64 t335)).setCell ⟨gb337, 1, none⟩ (.int .i64 t336)).heap[gb314]? = some (.cells #[.int .i64 t311, .int .i64 t312] 24 (0, 0))) := ⟨kk_ BK314⟩
       have n5_ : Aside0 (((w142.setCell ⟨gb337, 0, none⟩ (.int .i64 t335)).setCell ⟨gb337, 1, none⟩ (.int .i64 t336)).heap[gb318]? = some (.cells #[.int .i64 t315, .int .i64 t316] 24 (0, 0))) := ⟨kk_ BK318⟩
       have n6_ : Aside0 (((w142.setCell ⟨gb337, 0, none⟩ (.int .i64 t335)).setCell ⟨gb337, 1, none⟩ (.int .i64 t336)).heap[gb322]? = some (.cells #[.int .i64 t319, .int .i64 t320] 24 (0, 0))) := ⟨kk_ BK322⟩
       have n7_ : Aside0 (((w142.setCell ⟨gb337, 0, none⟩ (.int .i64 t335)).setCell ⟨gb337, 1, none⟩ (.int .i64 t336)).heap[gb326]? = some (.cells #[.int .i64 t323, .int .i64 t324] 24 (0, 0))) := ⟨kk_ BK326⟩
       have n8_ : Aside0 (((w142.setCell ⟨gb337, 0, none⟩ (.int .i64 t335)).setCell ⟨gb337, 1, none⟩ (.int .i64 t336)).heap[gb330]? = some (.cells #[.int .i64 t327, .int .i64 t328] 24 (0, 0))) := ⟨kk_ BK330⟩
       have n9_ : Aside0 (((w142.setCell ⟨gb337, 0, none⟩ (.int .i64 t335)).setCell ⟨gb337, 1, none⟩ (.int .i64 t336)).heap[gb334]? = some (.cells #[.int .i64 t331, .int .i64 t332] 24 (0, 0))) := ⟨kk_ BK334⟩
       have n10_ : Aside0 (((w142.setCell ⟨gb337, 0, none⟩ (.int .i64 t335)).setCell ⟨gb337, 1, none⟩ (.int .i64 t336)).heap[gb337]? = some (.cells #[.int .i64 t335, .int .i64 t336] 24 (0, 0))) := ⟨by (with_reducible repeat (first | refine blk_drewN ?_ _ | refine blk_drew ?_ | refine blk_alloc ?_ _)); refine blk_put (cs := #[.int .i64 t335, .int .i64 0]) ?_ 1 _ rfl; (with_reducible repeat (first | refine blk_drewN ?_ _ | refine blk_drew ?_ | refine blk_alloc ?_ _)); refine blk_put (cs := #[.int .i64 0, .int .i64 0]) ?_ 0 _ rfl; (with_reducible repeat (first | refine blk_drewN ?_ _ | refine blk_drew ?_ | refine blk_alloc ?_ _)); exact BK337.out⟩
       have n11_ : Aside0 (Below w.heap.size w ((w142.setCell ⟨gb337, 0, none⟩ (.int .i64 t335)).setCell ⟨gb337, 1, none⟩ (.int .i64 t336))) := (be_ HB)
       (try clear BK305)
       (try clear BK306)
       (try clear BK307)
       (try clear BK308)
       (try clear BK314)
       (try clear BK318)
       (try clear BK322)
       (try clear BK326)
       (try clear BK330)
       (try clear BK334)
       (try clear BK337)
       (try clear HB)
       generalize ((w142.setCell ⟨gb337, 0, none⟩ (.int .i64 t335)).setCell ⟨gb337, 1, none⟩ (.int .i64 t336)) = w154 at n0_ n1_ n2_ n3_ n4_ n5_ n6_ n7_ n8_ n9_ n10_ n11_ ⊢
       have BK305 := n0_
       have BK306 := n1_
       have BK307 := n2_
       have BK308 := n3_
       have BK314 := n4_
       have BK318 := n5_
       have BK322 := n6_
       have BK326 := n7_
       have BK330 := n8_
       have BK334 := n9_
       have BK337 := n10_
       have HB := n11_
       clear n0_ n1_ n2_ n3_ n4_ n5_ n6_ n7_ n8_ n9_ n10_ n11_
       replace BK305 := Aside0.mk (blk_drew BK305.out)
       replace BK306 := Aside0.mk (blk_drew BK306.out)
       replace BK307 := Aside0.mk (blk_drew BK307.out)
       replace BK308 := Aside0.mk (blk_drew BK308.out)
       replace BK314 := Aside0.mk (blk_drew BK314.out)
       replace BK318 := Aside0.mk (blk_drew BK318.out)
       replace BK322 := Aside0.mk (blk_drew BK322.out)
       replace BK326 := Aside0.mk (blk_drew BK326.out)
       replace BK330 := Aside0.mk (blk_drew BK330.out)
       replace BK334 := Aside0.mk (blk_drew BK334.out)
       replace BK337 := Aside0.mk (blk_drew BK337.out)
       replace HB := Aside0.mk (below_drew1 HB.out)
       refine start_ (n := 9) (S := fun w' => w'.cell? ⟨gb337, 0, none⟩ = some (.int .i64 t335) ∧ w'.cell? ⟨gb337, 1, none⟩ = some (.int .i64 t336) ∧ w'.cell? ⟨gb314, 0, none⟩ = some (.int .i64 t311) ∧ w'.cell? ⟨gb314, 1, none⟩ = some (.int .i64 t312) ∧ w'.cell? ⟨gb330, 0, none⟩ = some (.int .i64 t327) ∧ w'.cell? ⟨gb330, 1, none⟩ = some (.int .i64 t328) ∧ w'.cell? ⟨gb318, 0, none⟩ = some (.int .i64 t315) ∧ w'.cell? ⟨gb318, 1, none⟩ = some (.int .i64 t316)) (ds := []) #[false, false, false, false, false, false, false, false, false] (by kernel_rfl) rfl rfl ⟨(blk_cell BK337.out 0).trans rfl, (blk_cell BK337.out 1).trans rfl, (blk_cell BK314.out 0).trans rfl, (blk_cell BK314.out 1).trans rfl, (blk_cell BK330.out 0).trans rfl, (blk_cell BK330.out 1).trans rfl, (blk_cell BK318.out 0).trans rfl, (blk_cell BK318.out 1).trans rfl⟩ (fun hHeld => ?_); refine with_tabW sun_Equator.tab17 sun_Equator.bits17 (fun HT_ HW_ => ?_)
       generalize w154.drew = w155 at BK305 BK306 BK307 BK308 BK314 BK318 BK322 BK326 BK330 BK334 BK337 HB hHeld ⊢
       refine take_ (i := 0) (N := some 83) (v := ?_) (a' := ?_) #[true, false, false, false, false, false, false, false, false] rfl rfl (take_ofW HT_.out HW_.out (by kernel_rfl)) (fun _ _ _ h => h) (Or.inl ⟨by rfl, ?_⟩) hHeld ?_ ?_
       rotate_left
       ·rintro w' ⟨s0, s1, s2, s3, s4, s5, s6, s7⟩
        go_simp
        with_reducible rfl
       rotate_left
       ·simp only [Act.put, List.setIfInBounds_toArray, List.set_cons_zero, List.set_cons_succ, i64_w, i32_w]
        rfl
       refine take_ (i := 1) (N := some 84) (v := ?_) (a' := ?_) #[true, true, false, false, false, false, false, false, false] rfl rfl (take_ofW HT_.out HW_.out (by kernel_rfl)) (fun _ _ _ h => h) (Or.inl ⟨by rfl, ?_⟩) hHeld ?_ ?_
       rotate_left
       ·rintro w' ⟨s0, s1, s2, s3, s4, s5, s6, s7⟩
        go_simp
        with_reducible rfl
       rotate_left
       ·simp only [Act.put, List.setIfInBounds_toArray, List.set_cons_zero, List.set_cons_succ, i64_w, i32_w]
        rfl
       refine take_ (i := 3) (N := some 86) (v := ?_) (a' := ?_) #[true, true, false, true, false, false, false, false, false] rfl rfl (take_ofW HT_.out HW_.out (by kernel_rfl)) (fun _ _ _ h => h) (Or.inl ⟨by rfl, ?_⟩) hHeld ?_ ?_
       rotate_left
       ·rintro w' ⟨s0, s1, s2, s3, s4, s5, s6, s7⟩
        go_simp
        with_reducible rfl
       rotate_left
       ·simp only [Act.put, List.setIfInBounds_toArray, List.set_cons_zero, List.set_cons_succ, i64_w, i32_w]
        rfl
       refine take_ (i := 4) (N := some 87) (v := ?_) (a' := ?_) #[true, true, false, true, true, false, false, false, false] rfl rfl (take_ofW HT_.out HW_.out (by kernel_rfl)) (fun _ _ _ h => h) (Or.inl ⟨by rfl, ?_⟩) hHeld ?_ ?_
       rotate_left
       ·rintro w' ⟨s0, s1, s2, s3, s4, s5, s6, s7⟩
        go_simp
        with_reducible rfl
       rotate_left
       ·simp only [Act.put, List.setIfInBounds_toArray, List.set_cons_zero, List.set_cons_succ, i64_w, i32_w]
        rfl
       refine join_ (σ := Nat) 1 #[true, true, true, true, true, true, true, true, false] (fun s_ => [(85, .agg #[.int .i64 t338, .int .i64 t339]), (88, .agg #[.int .i64 t340, .int .i64 t341]), (89, .agg #[.int .i64 t342, .int .i64 t343]), (23, .pointer (some ⟨s_, 0, none⟩))]) (fun s_ w' => (w'.cell? ⟨gb337, 0, none⟩ = some (.int .i64 t335) ∧ w'.cell? ⟨gb337, 1, none⟩ = some (.int .i64 t336) ∧ w'.cell? ⟨gb314, 0, none⟩ = some (.int .i64 t311) ∧ w'.cell? ⟨gb314, 1, none⟩ = some (.int .i64 t312) ∧ w'.cell? ⟨gb330, 0, none⟩ = some (.int .i64 t327) ∧ w'.cell? ⟨gb330, 1, none⟩ = some (.int .i64 t328) ∧ w'.cell? ⟨gb318, 0, none⟩ = some (.int .i64 t315) ∧ w'.cell? ⟨gb318, 1, none⟩ = some (.int .i64 t316)) ∧ (w'.heap[gb305]? = some (.cells #[.int .i64 a0_0, .int .i64 a0_1] 24 (0, 0))) ∧ (w'.heap[gb306]? = some (.cells #[.int .i64 a1_0, .int .i64 a1_1] 24 (0, 0))) ∧ (w'.heap[gb307]? = some (.cells #[.int .i64 x308000_1, .int .i64 x308001_1] 24 (0, 0))) ∧ (w'.heap[gb308]? = some (.cells #[.int .i64 x309000_1, .int .i64 x309001_1] 24 (0, 0))) ∧ (w'.heap[gb314]? = some (.cells #[.int .i64 t311, .int .i64 t312] 24 (0, 0))) ∧ (w'.heap[gb318]? = some (.cells #[.int .i64 t315, .int .i64 t316] 24 (0, 0))) ∧ (w'.heap[gb322]? = some (.cells #[.int .i64 t319, .int .i64 t320] 24 (0, 0))) ∧ (w'.heap[gb326]? = some (.cells #[.int .i64 t323, .int .i64 t324] 24 (0, 0))) ∧ (w'.heap[gb330]? = some (.cells #[.int .i64 t327, .int .i64 t328] 24 (0, 0))) ∧ (w'.heap[gb334]? = some (.cells #[.int .i64 t331, .int .i64 t332] 24 (0, 0))) ∧ (w'.heap[gb337]? = some (.cells #[.int .i64 t335, .int .i64 t336] 24 (0, 0))) ∧ (w'.heap[s_]? = some (.cells #[.int .i64 0, .int .i64 0] 24 (0, 0))) ∧ (w.heap.size ≤ s_) ∧ (w.heap.size ≤ s_) ∧ (gb305 ≠ s_) ∧ (s_ ≠ gb305) ∧ (gb306 ≠ s_) ∧ (s_ ≠ gb306) ∧ (gb307 ≠ s_) ∧ (s_ ≠ gb307) ∧ (gb308 ≠ s_) ∧ (s_ ≠ gb308) ∧ (gb314 ≠ s_) ∧ (s_ ≠ gb314) ∧ (gb318 ≠ s_) ∧ (s_ ≠ gb318) ∧ (gb322 ≠ s_) ∧ (s_ ≠ gb322) ∧ (gb326 ≠ s_) ∧ (s_ ≠ gb326) ∧ (gb330 ≠ s_) ∧ (s_ ≠ gb330) ∧ (gb334 ≠ s_) ∧ (s_ ≠ gb334) ∧ (gb337 ≠ s_) ∧ (s_ ≠ gb337) ∧ (Below w.heap.size w w')) ?_ ?_
       rotate_left
       ·intro hCont
        refine two_ (i := 2) (j := 7) (Ni := some 85) (Nj := some 23) #[true, true, true, true, true, false, false, false, false] #[true, true, false, true, true, false, false, true, false] rfl rfl rfl rfl (two_of HT_.out (by kernel_rfl)) (by decide) (by decide) (fun K hK => ?_) (fun K hK => ?_)
        ·skip
         refine goes_ Try.func57 (by kernel_rfl) rfl #[.agg #[.int .i64 t335, .int .i64 t336], .agg #[.int .i64 t311, .int .i64 t312]] (by rfl) rfl rfl (by (try simp only [List.map_toArray, List.map_cons, List.map_nil]); first | done | rfl | (simp only [List.length_drop, List.length_take]; rfl)) ?_
         with_reducible refine (sun_Unit.calls kj39 t335 t336 t311 t312 t338 t339 _ A65.out).mono ?_
         rintro e w156 ⟨rfl, hb⟩
         refine ⟨_, rfl, ?_⟩
         replace BK305 := kb_ BK305 hb
         replace BK306 := kb_ BK306 hb
         replace BK307 := kb_ BK307 hb
         replace BK308 := kb_ BK308 hb
         replace BK314 := kb_ BK314 hb
         replace BK318 := kb_ BK318 hb
         replace BK322 := kb_ BK322 hb
         replace BK326 := kb_ BK326 hb
         replace BK330 := kb_ BK330 hb
         replace BK334 := kb_ BK334 hb
         replace BK337 := kb_ BK337 hb
         replace HB := bs_ HB hb
         (try clear hb)
         (try clear hb2)
         (try clear hk)
         (try clear hi)
         refine hK.out _ _ ⟨(blk_cell BK337.out 0).trans rfl, (blk_cell BK337.out 1).trans rfl, (blk_cell BK314.out 0).trans rfl, (blk_cell BK314.out 1).trans rfl, (blk_cell BK330.out 0).trans rfl, (blk_cell BK330.out 1).trans rfl, (blk_cell BK318.out 0).trans rfl, (blk_cell BK318.out 1).trans rfl⟩ (fun hHeld => ?_)
         clear hK K
         refine norm_ (a' := ?_) ?_ ?_
         rotate_left
         ·show Act.put _ (some 85) _ = _
          simp only [Act.put, List.setIfInBounds_toArray, List.set_cons_zero, List.set_cons_succ, i64_w, i32_w]
          rfl
         refine two_ (i := 5) (j := 7) (Ni := some 88) (Nj := some 23) #[true, true, true, true, true, true, false, false, false] #[true, true, true, true, true, false, false, true, false] rfl rfl rfl rfl (two_of HT_.out (by kernel_rfl)) (by decide) (by decide) (fun K hK => ?_) (fun K hK => ?_)
         ·skip
          refine goes_ Try.func57 (by kernel_rfl) rfl #[.agg #[.int .i64 t327, .int .i64 t328], .agg #[.int .i64 t315, .int .i64 t316]] (by rfl) rfl rfl (by (try simp only [List.map_toArray, List.map_cons, List.map_nil]); first | done | rfl | (simp only [List.length_drop, List.length_take]; rfl)) ?_
          with_reducible refine (sun_Unit.calls kj39 t327 t328 t315 t316 t340 t341 _ A66.out).mono ?_
          rintro e w157 ⟨rfl, hb⟩
          refine ⟨_, rfl, ?_⟩
          replace BK305 := kb_ BK305 hb
          replace BK306 := kb_ BK306 hb
          replace BK307 := kb_ BK307 hb
          replace BK308 := kb_ BK308 hb
          replace BK314 := kb_ BK314 hb
          replace BK318 := kb_ BK318 hb
          replace BK322 := kb_ BK322 hb
          replace BK326 := kb_ BK326 hb
          replace BK330 := kb_ BK330 hb
          replace BK334 := kb_ BK334 hb
          replace BK337 := kb_ BK337 hb
          replace HB := bs_ HB hb
          (try clear hb)
          (try clear hb2)
          (try clear hk)
          (try clear hi)
          refine hK.out _ _ ⟨(blk_cell BK337.out 0).trans rfl, (blk_cell BK337.out 1).trans rfl, (blk_cell BK314.out 0).trans rfl, (blk_cell BK314.out 1).trans rfl, (blk_cell BK330.out 0).trans rfl, (blk_cell BK330.out 1).trans rfl, (blk_cell BK318.out 0).trans rfl, (blk_cell BK318.out 1).trans rfl⟩ (fun hHeld => ?_)
          clear hK K
          refine norm_ (a' := ?_) ?_ ?_
          rotate_left
          ·show Act.put _ (some 88) _ = _
           simp only [Act.put, List.setIfInBounds_toArray, List.set_cons_zero, List.set_cons_succ, i64_w, i32_w]
           rfl
          refine two_ (i := 6) (j := 7) (Ni := some 89) (Nj := some 23) #[true, true, true, true, true, true, true, false, false] #[true, true, true, true, true, true, false, true, false] rfl rfl rfl rfl (two_of HT_.out (by kernel_rfl)) (by decide) (by decide) (fun K hK => ?_) (fun K hK => ?_)
          ·skip
           refine goes_ Try.func58 (by kernel_rfl) rfl #[.agg #[.int .i64 t338, .int .i64 t339], .agg #[.int .i64 t340, .int .i64 t341]] (by rfl) rfl rfl (by (try simp only [List.map_toArray, List.map_cons, List.map_nil]); first | done | rfl | (simp only [List.length_drop, List.length_take]; rfl)) ?_
           with_reducible refine (sun_plus.calls t338 t339 t340 t341 t342 t343 _ A67.out).mono ?_
           rintro e w158 ⟨rfl, hb⟩
           refine ⟨_, rfl, ?_⟩
           replace BK305 := kb_ BK305 hb
           replace BK306 := kb_ BK306 hb
           replace BK307 := kb_ BK307 hb
           replace BK308 := kb_ BK308 hb
           replace BK314 := kb_ BK314 hb
           replace BK318 := kb_ BK318 hb
           replace BK322 := kb_ BK322 hb
           replace BK326 := kb_ BK326 hb
           replace BK330 := kb_ BK330 hb
           replace BK334 := kb_ BK334 hb
           replace BK337 := kb_ BK337 hb
           replace HB := bs_ HB hb
           (try clear hb)
           (try clear hb2)
           (try clear hk)
           (try clear hi)
           refine hK.out _ _ ⟨(blk_cell BK337.out 0).trans rfl, (blk_cell BK337.out 1).trans rfl, (blk_cell BK314.out 0).trans rfl, (blk_cell BK314.out 1).trans rfl, (blk_cell BK330.out 0).trans rfl, (blk_cell BK330.out 1).trans rfl, (blk_cell BK318.out 0).trans rfl, (blk_cell BK318.out 1).trans rfl⟩ (fun hHeld => ?_)
           clear hK K
           refine norm_ (a' := ?_) ?_ ?_
           rotate_left
           ·show Act.put _ (some 89) _ = _
            simp only [Act.put, List.setIfInBounds_toArray, List.set_cons_zero, List.set_cons_succ, i64_w, i32_w]
            rfl
           refine one_ (i := 7) (N := some 23) #[true, true, true, true, true, true, true, true, false] rfl rfl (one_of HT_.out (by kernel_rfl)) (by decide) (fun K hK => ?_)
           refine box_step ?hg (N := 23) ?hd (cs := #[.int .i64 0, .int .i64 0]) (t := 24) ?hr ?_; (case hd => rfl); (case hg => rfl); (case hr => first | (go_simp; done) | (go_simp; rfl))
           intro gb344 hg w159 hbox hb
           have BK344 := Aside0.mk (hbox)
           have GW344 := ge_ hg HB
           have GE344 := ge_ hg HB
           have NB305_344 := nl_ hg BK305
           have NB344_305 := ng_ hg BK305
           have NB306_344 := nl_ hg BK306
           have NB344_306 := ng_ hg BK306
           have NB307_344 := nl_ hg BK307
           have NB344_307 := ng_ hg BK307
           have NB308_344 := nl_ hg BK308
           have NB344_308 := ng_ hg BK308
           have NB314_344 := nl_ hg BK314
           have NB344_314 := ng_ hg BK314
           have NB318_344 := nl_ hg BK318
           have NB344_318 := ng_ hg BK318
           have NB322_344 := nl_ hg BK322
           have NB344_322 := ng_ hg BK322
           have NB326_344 := nl_ hg BK326
           have NB344_326 := ng_ hg BK326
           have NB330_344 := nl_ hg BK330
           have NB344_330 := ng_ hg BK330
           have NB334_344 := nl_ hg BK334
           have NB344_334 := ng_ hg BK334
           have NB337_344 := nl_ hg BK337
           have NB344_337 := ng_ hg BK337
           replace BK305 := kb_ BK305 hb
           replace BK306 := kb_ BK306 hb
           replace BK307 := kb_ BK307 hb
           replace BK308 := kb_ BK308 hb
           replace BK314 := kb_ BK314 hb
           replace BK318 := kb_ BK318 hb
           replace BK322 := kb_ BK322 hb
           replace BK326 := kb_ BK326 hb
           replace BK330 := kb_ BK330 hb
           replace BK334 := kb_ BK334 hb
           replace BK337 := kb_ BK337 hb
           replace HB := bs_ HB hb
           clear hb hbox hg
           refine hK.out _ _ ⟨(blk_cell BK337.out 0).trans rfl, (blk_cell BK337.out 1).trans rfl, (blk_cell BK314.out 0).trans rfl, (blk_cell BK314.out 1).trans rfl, (blk_cell BK330.out 0).trans rfl, (blk_cell BK330.out 1).trans rfl, (blk_cell BK318.out 0).trans rfl, (blk_cell BK318.out 1).trans rfl⟩ (fun hHeld => ?_)
           clear hK K
           refine norm_ (a' := ?_) ?_ ?_
           rotate_left
           ·show Act.put _ (some 23) _ = _
            simp only [Act.put, List.setIfInBounds_toArray, List.set_cons_zero, List.set_cons_succ, i64_w, i32_w]
            rfl
           exact norm_ (by simp only [putAll, Act.put, List.setIfInBounds_toArray, List.set_cons_zero, List.set_cons_succ]) (hCont (gb344) _ ⟨hHeld, (kk_ BK305), (kk_ BK306), (kk_ BK307), (kk_ BK308), (kk_ BK314), (kk_ BK318), (kk_ BK322), (kk_ BK326), (kk_ BK330), (kk_ BK334), (kk_ BK337), (kk_ BK344), GW344.out, GE344.out, NB305_344.out, NB344_305.out, NB306_344.out, NB344_306.out, NB307_344.out, NB344_307.out, NB308_344.out, NB344_308.out, NB314_344.out, NB344_314.out, NB318_344.out, NB344_318.out, NB322_344.out, NB344_322.out, NB326_344.out, NB344_326.out, NB330_344.out, NB344_330.out, NB334_344.out, NB344_334.out, NB337_344.out, NB344_337.out, (be_ HB).out⟩)
          ·skip
           refine box_step ?hg (N := 23) ?hd (cs := #[.int .i64 0, .int .i64 0]) (t := 24) ?hr ?_; (case hd => rfl); (case hg => rfl); (case hr => first | (go_simp; done) | (go_simp; rfl))
           intro gb344 hg w158 hbox hb
           have BK344 := Aside0.mk (hbox)
           have GW344 := ge_ hg HB
           have GE344 := ge_ hg HB
           have NB305_344 := nl_ hg BK305
           have NB344_305 := ng_ hg BK305
           have NB306_344 := nl_ hg BK306
           have NB344_306 := ng_ hg BK306
           have NB307_344 := nl_ hg BK307
           have NB344_307 := ng_ hg BK307
           have NB308_344 := nl_ hg BK308
           have NB344_308 := ng_ hg BK308
           have NB314_344 := nl_ hg BK314
           have NB344_314 := ng_ hg BK314
           have NB318_344 := nl_ hg BK318
           have NB344_318 := ng_ hg BK318
           have NB322_344 := nl_ hg BK322
           have NB344_322 := ng_ hg BK322
           have NB326_344 := nl_ hg BK326
           have NB344_326 := ng_ hg BK326
           have NB330_344 := nl_ hg BK330
           have NB344_330 := ng_ hg BK330
           have NB334_344 := nl_ hg BK334
           have NB344_334 := ng_ hg BK334
           have NB337_344 := nl_ hg BK337
           have NB344_337 := ng_ hg BK337
           replace BK305 := kb_ BK305 hb
           replace BK306 := kb_ BK306 hb
           replace BK307 := kb_ BK307 hb
           replace BK308 := kb_ BK308 hb
           replace BK314 := kb_ BK314 hb
           replace BK318 := kb_ BK318 hb
           replace BK322 := kb_ BK322 hb
           replace BK326 := kb_ BK326 hb
           replace BK330 := kb_ BK330 hb
           replace BK334 := kb_ BK334 hb
           replace BK337 := kb_ BK337 hb
           replace HB := bs_ HB hb
           clear hb hbox hg
           refine hK.out _ _ ⟨(blk_cell BK337.out 0).trans rfl, (blk_cell BK337.out 1).trans rfl, (blk_cell BK314.out 0).trans rfl, (blk_cell BK314.out 1).trans rfl, (blk_cell BK330.out 0).trans rfl, (blk_cell BK330.out 1).trans rfl, (blk_cell BK318.out 0).trans rfl, (blk_cell BK318.out 1).trans rfl⟩ (fun hHeld => ?_)
           clear hK K
           refine norm_ (a' := ?_) ?_ ?_
           rotate_left
           ·show Act.put _ (some 23) _ = _
            simp only [Act.put, List.setIfInBounds_toArray, List.set_cons_zero, List.set_cons_succ, i64_w, i32_w]
            rfl
           refine one_ (i := 6) (N := some 89) #[true, true, true, true, true, true, true, true, false] rfl rfl (one_of HT_.out (by kernel_rfl)) (by decide) (fun K hK => ?_)
           refine goes_ Try.func58 (by kernel_rfl) rfl #[.agg #[.int .i64 t338, .int .i64 t339], .agg #[.int .i64 t340, .int .i64 t341]] (by rfl) rfl rfl (by (try simp only [List.map_toArray, List.map_cons, List.map_nil]); first | done | rfl | (simp only [List.length_drop, List.length_take]; rfl)) ?_
           with_reducible refine (sun_plus.calls t338 t339 t340 t341 t342 t343 _ A67.out).mono ?_
           rintro e w159 ⟨rfl, hb⟩
           refine ⟨_, rfl, ?_⟩
           replace BK305 := kb_ BK305 hb
           replace BK306 := kb_ BK306 hb
           replace BK307 := kb_ BK307 hb
           replace BK308 := kb_ BK308 hb
           replace BK314 := kb_ BK314 hb
           replace BK318 := kb_ BK318 hb
           replace BK322 := kb_ BK322 hb
           replace BK326 := kb_ BK326 hb
           replace BK330 := kb_ BK330 hb
           replace BK334 := kb_ BK334 hb
           replace BK337 := kb_ BK337 hb
           replace BK344 := kb_ BK344 hb
           replace HB := bs_ HB hb
           (try clear hb)
           (try clear hb2)
           (try clear hk)
           (try clear hi)
           refine hK.out _ _ ⟨(blk_cell BK337.out 0).trans rfl, (blk_cell BK337.out 1).trans rfl, (blk_cell BK314.out 0).trans rfl, (blk_cell BK314.out 1).trans rfl, (blk_cell BK330.out 0).trans rfl, (blk_cell BK330.out 1).trans rfl, (blk_cell BK318.out 0).trans rfl, (blk_cell BK318.out 1).trans rfl⟩ (fun hHeld => ?_)
           clear hK K
           refine norm_ (a' := ?_) ?_ ?_
           rotate_left
           ·show Act.put _ (some 89) _ = _
            simp only [Act.put, List.setIfInBounds_toArray, List.set_cons_zero, List.set_cons_succ, i64_w, i32_w]
            rfl
           exact norm_ (by simp only [putAll, Act.put, List.setIfInBounds_toArray, List.set_cons_zero, List.set_cons_succ]) (hCont (gb344) _ ⟨hHeld, (kk_ BK305), (kk_ BK306), (kk_ BK307), (kk_ BK308), (kk_ BK314), (kk_ BK318), (kk_ BK322), (kk_ BK326), (kk_ BK330), (kk_ BK334), (kk_ BK337), (kk_ BK344), GW344.out, GE344.out, NB305_344.out, NB344_305.out, NB306_344.out, NB344_306.out, NB307_344.out, NB344_307.out, NB308_344.out, NB344_308.out, NB314_344.out, NB344_314.out, NB318_344.out, NB344_318.out, NB322_344.out, NB344_322.out, NB326_344.out, NB344_326.out, NB330_344.out, NB344_330.out, NB334_344.out, NB344_334.out, NB337_344.out, NB344_337.out, (be_ HB).out⟩)
         ·skip
          refine box_step ?hg (N := 23) ?hd (cs := #[.int .i64 0, .int .i64 0]) (t := 24) ?hr ?_; (case hd => rfl); (case hg => rfl); (case hr => first | (go_simp; done) | (go_simp; rfl))
          intro gb344 hg w157 hbox hb
          have BK344 := Aside0.mk (hbox)
          have GW344 := ge_ hg HB
          have GE344 := ge_ hg HB
          have NB305_344 := nl_ hg BK305
          have NB344_305 := ng_ hg BK305
          have NB306_344 := nl_ hg BK306
          have NB344_306 := ng_ hg BK306
          have NB307_344 := nl_ hg BK307
          have NB344_307 := ng_ hg BK307
          have NB308_344 := nl_ hg BK308
          have NB344_308 := ng_ hg BK308
          have NB314_344 := nl_ hg BK314
          have NB344_314 := ng_ hg BK314
          have NB318_344 := nl_ hg BK318
          have NB344_318 := ng_ hg BK318
          have NB322_344 := nl_ hg BK322
          have NB344_322 := ng_ hg BK322
          have NB326_344 := nl_ hg BK326
          have NB344_326 := ng_ hg BK326
          have NB330_344 := nl_ hg BK330
          have NB344_330 := ng_ hg BK330
          have NB334_344 := nl_ hg BK334
          have NB344_334 := ng_ hg BK334
          have NB337_344 := nl_ hg BK337
          have NB344_337 := ng_ hg BK337
          replace BK305 := kb_ BK305 hb
          replace BK306 := kb_ BK306 hb
          replace BK307 := kb_ BK307 hb
          replace BK308 := kb_ BK308 hb
          replace BK314 := kb_ BK314 hb
          replace BK318 := kb_ BK318 hb
          replace BK322 := kb_ BK322 hb
          replace BK326 := kb_ BK326 hb
          replace BK330 := kb_ BK330 hb
          replace BK334 := kb_ BK334 hb
          replace BK337 := kb_ BK337 hb
          replace HB := bs_ HB hb
          clear hb hbox hg
          refine hK.out _ _ ⟨(blk_cell BK337.out 0).trans rfl, (blk_cell BK337.out 1).trans rfl, (blk_cell BK314.out 0).trans rfl, (blk_cell BK314.out 1).trans rfl, (blk_cell BK330.out 0).trans rfl, (blk_cell BK330.out 1).trans rfl, (blk_cell BK318.out 0).trans rfl, (blk_cell BK318.out 1).trans rfl⟩ (fun hHeld => ?_)
          clear hK K
          refine norm_ (a' := ?_) ?_ ?_
          rotate_left
          ·show Act.put _ (some 23) _ = _
           simp only [Act.put, List.setIfInBounds_toArray, List.set_cons_zero, List.set_cons_succ, i64_w, i32_w]
           rfl
          refine one_ (i := 5) (N := some 88) #[true, true, true, true, true, true, false, true, false] rfl rfl (one_of HT_.out (by kernel_rfl)) (by decide) (fun K hK => ?_)
          refine goes_ Try.func57 (by kernel_rfl) rfl #[.agg #[.int .i64 t327, .int .i64 t328], .agg #[.int .i64 t315, .int .i64 t316]] (by rfl) rfl rfl (by (try simp only [List.map_toArray, List.map_cons, List.map_nil]); first | done | rfl | (simp only [List.length_drop, List.length_take]; rfl)) ?_
          with_reducible refine (sun_Unit.calls kj39 t327 t328 t315 t316 t340 t341 _ A66.out).mono ?_
          rintro e w158 ⟨rfl, hb⟩
          refine ⟨_, rfl, ?_⟩
          replace BK305 := kb_ BK305 hb
          replace BK306 := kb_ BK306 hb
          replace BK307 := kb_ BK307 hb
          replace BK308 := kb_ BK308 hb
          replace BK314 := kb_ BK314 hb
          replace BK318 := kb_ BK318 hb
          replace BK322 := kb_ BK322 hb
          replace BK326 := kb_ BK326 hb
          replace BK330 := kb_ BK330 hb
          replace BK334 := kb_ BK334 hb
          replace BK337 := kb_ BK337 hb
          replace BK344 := kb_ BK344 hb
          replace HB := bs_ HB hb
          (try clear hb)
          (try clear hb2)
          (try clear hk)
          (try clear hi)
          refine hK.out _ _ ⟨(blk_cell BK337.out 0).trans rfl, (blk_cell BK337.out 1).trans rfl, (blk_cell BK314.out 0).trans rfl, (blk_cell BK314.out 1).trans rfl, (blk_cell BK330.out 0).trans rfl, (blk_cell BK330.out 1).trans rfl, (blk_cell BK318.out 0).trans rfl, (blk_cell BK318.out 1).trans rfl⟩ (fun hHeld => ?_)
          clear hK K
          refine norm_ (a' := ?_) ?_ ?_
          rotate_left
          ·show Act.put _ (some 88) _ = _
           simp only [Act.put, List.setIfInBounds_toArray, List.set_cons_zero, List.set_cons_succ, i64_w, i32_w]
           rfl
          refine one_ (i := 6) (N := some 89) #[true, true, true, true, true, true, true, true, false] rfl rfl (one_of HT_.out (by kernel_rfl)) (by decide) (fun K hK => ?_)
          refine goes_ Try.func58 (by kernel_rfl) rfl #[.agg #[.int .i64 t338, .int .i64 t339], .agg #[.int .i64 t340, .int .i64 t341]] (by rfl) rfl rfl (by (try simp only [List.map_toArray, List.map_cons, List.map_nil]); first | done | rfl | (simp only [List.length_drop, List.length_take]; rfl)) ?_
          with_reducible refine (sun_plus.calls t338 t339 t340 t341 t342 t343 _ A67.out).mono ?_
          rintro e w159 ⟨rfl, hb⟩
          refine ⟨_, rfl, ?_⟩
          replace BK305 := kb_ BK305 hb
          replace BK306 := kb_ BK306 hb
          replace BK307 := kb_ BK307 hb
          replace BK308 := kb_ BK308 hb
          replace BK314 := kb_ BK314 hb
          replace BK318 := kb_ BK318 hb
          replace BK322 := kb_ BK322 hb
          replace BK326 := kb_ BK326 hb
          replace BK330 := kb_ BK330 hb
          replace BK334 := kb_ BK334 hb
          replace BK337 := kb_ BK337 hb
          replace BK344 := kb_ BK344 hb
          replace HB := bs_ HB hb
          (try clear hb)
          (try clear hb2)
          (try clear hk)
          (try clear hi)
          refine hK.out _ _ ⟨(blk_cell BK337.out 0).trans rfl, (blk_cell BK337.out 1).trans rfl, (blk_cell BK314.out 0).trans rfl, (blk_cell BK314.out 1).trans rfl, (blk_cell BK330.out 0).trans rfl, (blk_cell BK330.out 1).trans rfl, (blk_cell BK318.out 0).trans rfl, (blk_cell BK318.out 1).trans rfl⟩ (fun hHeld => ?_)
          clear hK K
          refine norm_ (a' := ?_) ?_ ?_
          rotate_left
          ·show Act.put _ (some 89) _ = _
           simp only [Act.put, List.setIfInBounds_toArray, List.set_cons_zero, List.set_cons_succ, i64_w, i32_w]
           rfl
          exact norm_ (by simp only [putAll, Act.put, List.setIfInBounds_toArray, List.set_cons_zero, List.set_cons_succ]) (hCont (gb344) _ ⟨hHeld, (kk_ BK305), (kk_ BK306), (kk_ BK307), (kk_ BK308), (kk_ BK314), (kk_ BK318), (kk_ BK322), (kk_ BK326), (kk_ BK330), (kk_ BK334), (kk_ BK337), (kk_ BK344), GW344.out, GE344.out, NB305_344.out, NB344_305.out, NB306_344.out, NB344_306.out, NB307_344.out, NB344_307.out, NB308_344.out, NB344_308.out, NB314_344.out, NB344_314.out, NB318_344.out, NB344_318.out, NB322_344.out, NB344_322.out, NB326_344.out, NB344_326.out, NB330_344.out, NB344_330.out, NB334_344.out, NB344_334.out, NB337_344.out, NB344_337.out, (be_ HB).out⟩)
        ·skip
         refine box_step ?hg (N := 23) ?hd (cs := #[.int .i64 0, .int .i64 0]) (t := 24) ?hr ?_; (case hd => rfl); (case hg => rfl); (case hr => first | (go_simp; done) | (go_simp; rfl))
         intro gb344 hg w156 hbox hb
         have BK344 := Aside0.mk (hbox)
         have GW344 := ge_ hg HB
         have GE344 := ge_ hg HB
         have NB305_344 := nl_ hg BK305
         have NB344_305 := ng_ hg BK305
         have NB306_344 := nl_ hg BK306
         have NB344_306 := ng_ hg BK306
         have NB307_344 := nl_ hg BK307
         have NB344_307 := ng_ hg BK307
         have NB308_344 := nl_ hg BK308
         have NB344_308 := ng_ hg BK308
         have NB314_344 := nl_ hg BK314
         have NB344_314 := ng_ hg BK314
         have NB318_344 := nl_ hg BK318
         have NB344_318 := ng_ hg BK318
         have NB322_344 := nl_ hg BK322
         have NB344_322 := ng_ hg BK322
         have NB326_344 := nl_ hg BK326
         have NB344_326 := ng_ hg BK326
         have NB330_344 := nl_ hg BK330
         have NB344_330 := ng_ hg BK330
         have NB334_344 := nl_ hg BK334
         have NB344_334 := ng_ hg BK334
         have NB337_344 := nl_ hg BK337
         have NB344_337 := ng_ hg BK337
         replace BK305 := kb_ BK305 hb
         replace BK306 := kb_ BK306 hb
         replace BK307 := kb_ BK307 hb
         replace BK308 := kb_ BK308 hb
         replace BK314 := kb_ BK314 hb
         replace BK318 := kb_ BK318 hb
         replace BK322 := kb_ BK322 hb
         replace BK326 := kb_ BK326 hb
         replace BK330 := kb_ BK330 hb
         replace BK334 := kb_ BK334 hb
         replace BK337 := kb_ BK337 hb
         replace HB := bs_ HB hb
         clear hb hbox hg
         refine hK.out _ _ ⟨(blk_cell BK337.out 0).trans rfl, (blk_cell BK337.out 1).trans rfl, (blk_cell BK314.out 0).trans rfl, (blk_cell BK314.out 1).trans rfl, (blk_cell BK330.out 0).trans rfl, (blk_cell BK330.out 1).trans rfl, (blk_cell BK318.out 0).trans rfl, (blk_cell BK318.out 1).trans rfl⟩ (fun hHeld => ?_)
         clear hK K
         refine norm_ (a' := ?_) ?_ ?_
         rotate_left
         ·show Act.put _ (some 23) _ = _
          simp only [Act.put, List.setIfInBounds_toArray, List.set_cons_zero, List.set_cons_succ, i64_w, i32_w]
          rfl
         refine one_ (i := 2) (N := some 85) #[true, true, true, true, true, false, false, true, false] rfl rfl (one_of HT_.out (by kernel_rfl)) (by decide) (fun K hK => ?_)
         refine goes_ Try.func57 (by kernel_rfl) rfl #[.agg #[.int .i64 t335, .int .i64 t336], .agg #[.int .i64 t311, .int .i64 t312]] (by rfl) rfl rfl (by (try simp only [List.map_toArray, List.map_cons, List.map_nil]); first | done | rfl | (simp only [List.length_drop, List.length_take]; rfl)) ?_
         with_reducible refine (sun_Unit.calls kj39 t335 t336 t311 t312 t338 t339 _ A65.out).mono ?_
         rintro e w157 ⟨rfl, hb⟩
         refine ⟨_, rfl, ?_⟩
         replace BK305 := kb_ BK305 hb
         replace BK306 := kb_ BK306 hb
         replace BK307 := kb_ BK307 hb
         replace BK308 := kb_ BK308 hb
         replace BK314 := kb_ BK314 hb
         replace BK318 := kb_ BK318 hb
         replace BK322 := kb_ BK322 hb
         replace BK326 := kb_ BK326 hb
         replace BK330 := kb_ BK330 hb
         replace BK334 := kb_ BK334 hb
         replace BK337 := kb_ BK337 hb
         replace BK344 := kb_ BK344 hb
         replace HB := bs_ HB hb
         (try clear hb)
         (try clear hb2)
         (try clear hk)
         (try clear hi)
         refine hK.out _ _ ⟨(blk_cell BK337.out 0).trans rfl, (blk_cell BK337.out 1).trans rfl, (blk_cell BK314.out 0).trans rfl, (blk_cell BK314.out 1).trans rfl, (blk_cell BK330.out 0).trans rfl, (blk_cell BK330.out 1).trans rfl, (blk_cell BK318.out 0).trans rfl, (blk_cell BK318.out 1).trans rfl⟩ (fun hHeld => ?_)
         clear hK K
         refine norm_ (a' := ?_) ?_ ?_
         rotate_left
         ·show Act.put _ (some 85) _ = _
          simp only [Act.put, List.setIfInBounds_toArray, List.set_cons_zero, List.set_cons_succ, i64_w, i32_w]
          rfl
         refine one_ (i := 5) (N := some 88) #[true, true, true, true, true, true, false, true, false] rfl rfl (one_of HT_.out (by kernel_rfl)) (by decide) (fun K hK => ?_)
         refine goes_ Try.func57 (by kernel_rfl) rfl #[.agg #[.int .i64 t327, .int .i64 t328], .agg #[.int .i64 t315, .int .i64 t316]] (by rfl) rfl rfl (by (try simp only [List.map_toArray, List.map_cons, List.map_nil]); first | done | rfl | (simp only [List.length_drop, List.length_take]; rfl)) ?_
         with_reducible refine (sun_Unit.calls kj39 t327 t328 t315 t316 t340 t341 _ A66.out).mono ?_
         rintro e w158 ⟨rfl, hb⟩
         refine ⟨_, rfl, ?_⟩
         replace BK305 := kb_ BK305 hb
         replace BK306 := kb_ BK306 hb
         replace BK307 := kb_ BK307 hb
         replace BK308 := kb_ BK308 hb
         replace BK314 := kb_ BK314 hb
         replace BK318 := kb_ BK318 hb
         replace BK322 := kb_ BK322 hb
         replace BK326 := kb_ BK326 hb
         replace BK330 := kb_ BK330 hb
         replace BK334 := kb_ BK334 hb
         replace BK337 := kb_ BK337 hb
         replace BK344 := kb_ BK344 hb
         replace HB := bs_ HB hb
         (try clear hb)
         (try clear hb2)
         (try clear hk)
         (try clear hi)
         refine hK.out _ _ ⟨(blk_cell BK337.out 0).trans rfl, (blk_cell BK337.out 1).trans rfl, (blk_cell BK314.out 0).trans rfl, (blk_cell BK314.out 1).trans rfl, (blk_cell BK330.out 0).trans rfl, (blk_cell BK330.out 1).trans rfl, (blk_cell BK318.out 0).trans rfl, (blk_cell BK318.out 1).trans rfl⟩ (fun hHeld => ?_)
         clear hK K
         refine norm_ (a' := ?_) ?_ ?_
         rotate_left
         ·show Act.put _ (some 88) _ = _
          simp only [Act.put, List.setIfInBounds_toArray, List.set_cons_zero, List.set_cons_succ, i64_w, i32_w]
          rfl
         refine one_ (i := 6) (N := some 89) #[true, true, true, true, true, true, true, true, false] rfl rfl (one_of HT_.out (by kernel_rfl)) (by decide) (fun K hK => ?_)
         refine goes_ Try.func58 (by kernel_rfl) rfl #[.agg #[.int .i64 t338, .int .i64 t339], .agg #[.int .i64 t340, .int .i64 t341]] (by rfl) rfl rfl (by (try simp only [List.map_toArray, List.map_cons, List.map_nil]); first | done | rfl | (simp only [List.length_drop, List.length_take]; rfl)) ?_
         with_reducible refine (sun_plus.calls t338 t339 t340 t341 t342 t343 _ A67.out).mono ?_
         rintro e w159 ⟨rfl, hb⟩
         refine ⟨_, rfl, ?_⟩
         replace BK305 := kb_ BK305 hb
         replace BK306 := kb_ BK306 hb
         replace BK307 := kb_ BK307 hb
         replace BK308 := kb_ BK308 hb
         replace BK314 := kb_ BK314 hb
         replace BK318 := kb_ BK318 hb
         replace BK322 := kb_ BK322 hb
         replace BK326 := kb_ BK326 hb
         replace BK330 := kb_ BK330 hb
         replace BK334 := kb_ BK334 hb
         replace BK337 := kb_ BK337 hb
         replace BK344 := kb_ BK344 hb
         replace HB := bs_ HB hb
         (try clear hb)
         (try clear hb2)
         (try clear hk)
         (try clear hi)
         refine hK.out _ _ ⟨(blk_cell BK337.out 0).trans rfl, (blk_cell BK337.out 1).trans rfl, (blk_cell BK314.out 0).trans rfl, (blk_cell BK314.out 1).trans rfl, (blk_cell BK330.out 0).trans rfl, (blk_cell BK330.out 1).trans rfl, (blk_cell BK318.out 0).trans rfl, (blk_cell BK318.out 1).trans rfl⟩ (fun hHeld => ?_)
         clear hK K
         refine norm_ (a' := ?_) ?_ ?_
         rotate_left
         ·show Act.put _ (some 89) _ = _
          simp only [Act.put, List.setIfInBounds_toArray, List.set_cons_zero, List.set_cons_succ, i64_w, i32_w]
          rfl
         exact norm_ (by simp only [putAll, Act.put, List.setIfInBounds_toArray, List.set_cons_zero, List.set_cons_succ]) (hCont (gb344) _ ⟨hHeld, (kk_ BK305), (kk_ BK306), (kk_ BK307), (kk_ BK308), (kk_ BK314), (kk_ BK318), (kk_ BK322), (kk_ BK326), (kk_ BK330), (kk_ BK334), (kk_ BK337), (kk_ BK344), GW344.out, GE344.out, NB305_344.out, NB344_305.out, NB306_344.out, NB344_306.out, NB307_344.out, NB344_307.out, NB308_344.out, NB344_308.out, NB314_344.out, NB344_314.out, NB318_344.out, NB344_318.out, NB322_344.out, NB344_322.out, NB326_344.out, NB344_326.out, NB330_344.out, NB344_330.out, NB334_344.out, NB344_334.out, NB337_344.out, NB344_337.out, (be_ HB).out⟩)
       rintro gb344 w160 ⟨hS_, h0_, h1_, h2_, h3_, h4_, h5_, h6_, h7_, h8_, h9_, h10_, h11_, h12_, h13_, h14_, h15_, h16_, h17_, h18_, h19_, h20_, h21_, h22_, h23_, h24_, h25_, h26_, h27_, h28_, h29_, h30_, h31_, h32_, h33_, h34_, h35_, h36_⟩
       have n0_ := Aside0.mk h0_
       have n1_ := Aside0.mk h1_
       have n2_ := Aside0.mk h2_
       have n3_ := Aside0.mk h3_
       have n4_ := Aside0.mk h4_
       have n5_ := Aside0.mk h5_
       have n6_ := Aside0.mk h6_
       have n7_ := Aside0.mk h7_
       have n8_ := Aside0.mk h8_
       have n9_ := Aside0.mk h9_
       have n10_ := Aside0.mk h10_
       have n11_ := Aside0.mk h11_
       have n12_ := Aside0.mk h12_
       have n13_ := Aside0.mk h13_
       have n14_ := Aside0.mk h14_
       have n15_ := Aside0.mk h15_
       have n16_ := Aside0.mk h16_
       have n17_ := Aside0.mk h17_
       have n18_ := Aside0.mk h18_
       have n19_ := Aside0.mk h19_
       have n20_ := Aside0.mk h20_
       have n21_ := Aside0.mk h21_
       have n22_ := Aside0.mk h22_
       have n23_ := Aside0.mk h23_
       have n24_ := Aside0.mk h24_
       have n25_ := Aside0.mk h25_
       have n26_ := Aside0.mk h26_
       have n27_ := Aside0.mk h27_
       have n28_ := Aside0.mk h28_
       have n29_ := Aside0.mk h29_
       have n30_ := Aside0.mk h30_
       have n31_ := Aside0.mk h31_
       have n32_ := Aside0.mk h32_
       have n33_ := Aside0.mk h33_
       have n34_ := Aside0.mk h34_
       have n35_ := Aside0.mk h35_
       have n36_ := Aside0.mk h36_
       clear BK305
       clear BK306
       clear BK307
       clear BK308
       clear BK314
       clear BK318
       clear BK322
       clear BK326
       clear BK330
       clear BK334
       clear BK337
       clear HB
       clear h0_ h1_ h2_ h3_ h4_ h5_ h6_ h7_ h8_ h9_ h10_ h11_ h12_ h13_ h14_ h15_ h16_ h17_ h18_ h19_ h20_ h21_ h22_ h23_ h24_ h25_ h26_ h27_ h28_ h29_ h30_ h31_ h32_ h33_ h34_ h35_ h36_
       have BK305 := n0_
       have BK306 := n1_
       have BK307 := n2_
       have BK308 := n3_
       have BK314 := n4_
       have BK318 := n5_
       have BK322 := n6_
       have BK326 := n7_
       have BK330 := n8_
       have BK334 := n9_
       have BK337 := n10_
       have BK344 := n11_
       have GW344 := n12_
       have GE344 := n13_
       have NB305_344 := n14_
       have NB344_305 := n15_
       have NB306_344 := n16_
       have NB344_306 := n17_
       have NB307_344 := n18_
       have NB344_307 := n19_
       have NB308_344 := n20_
       have NB344_308 := n21_
       have NB314_344 := n22_
       have NB344_314 := n23_
       have NB318_344 := n24_
       have NB344_318 := n25_
       have NB322_344 := n26_
       have NB344_322 := n27_
       have NB326_344 := n28_
       have NB344_326 := n29_
       have NB330_344 := n30_
       have NB344_330 := n31_
       have NB334_344 := n32_
       have NB344_334 := n33_
       have NB337_344 := n34_
       have NB344_337 := n35_
       have HB := n36_
       clear n0_ n1_ n2_ n3_ n4_ n5_ n6_ n7_ n8_ n9_ n10_ n11_ n12_ n13_ n14_ n15_ n16_ n17_ n18_ n19_ n20_ n21_ n22_ n23_ n24_ n25_ n26_ n27_ n28_ n29_ n30_ n31_ n32_ n33_ n34_ n35_ n36_
       have hHeld : w160.cell? ⟨gb337, 0, none⟩ = some (.int .i64 t335) ∧ w160.cell? ⟨gb337, 1, none⟩ = some (.int .i64 t336) ∧ w160.cell? ⟨gb314, 0, none⟩ = some (.int .i64 t311) ∧ w160.cell? ⟨gb314, 1, none⟩ = some (.int .i64 t312) ∧ w160.cell? ⟨gb330, 0, none⟩ = some (.int .i64 t327) ∧ w160.cell? ⟨gb330, 1, none⟩ = some (.int .i64 t328) ∧ w160.cell? ⟨gb318, 0, none⟩ = some (.int .i64 t315) ∧ w160.cell? ⟨gb318, 1, none⟩ = some (.int .i64 t316) := hS_
       refine norm_ (a' := ?_) ?_ ?_
       rotate_left
       ·simp only [putAll, Act.put, List.setIfInBounds_toArray, List.set_cons_zero, List.set_cons_succ]
        rfl
       refine one_ (i := 8) (N := none) #[true, true, true, true, true, true, true, true, true] rfl rfl (one_of HT_.out (by kernel_rfl)) (by decide) (fun K hK => ?_)
       have hs161 : w160.cell? ⟨gb344, 0, none⟩ = some (.int .i64 0) := (blk_cell BK344.out 0).trans rfl
       have hfs161 := blk_frozen BK344.out 0
       have hns161_0 := NB305_344.out
       have hns161_1 := NB306_344.out
       have hns161_2 := NB307_344.out
       have hns161_3 := NB308_344.out
       have hns161_4 := NB314_344.out
       have hns161_5 := NB318_344.out
       have hns161_6 := NB322_344.out
       have hns161_7 := NB326_344.out
       have hns161_8 := NB330_344.out
       have hns161_9 := NB334_344.out
       have hns161_10 := NB337_344.out
       have hms161_0 := NB344_305.out
       have hms161_1 := NB344_306.out
       have hms161_2 := NB344_307.out
       have hms161_3 := NB344_308.out
       have hms161_4 := NB344_314.out
       have hms161_5 := NB344_318.out
       have hms161_6 := NB344_322.out
       have hms161_7 := NB344_326.out
       have hms161_8 := NB344_330.out
       have hms161_9 := NB344_334.out
       have hms161_10 := NB344_337.out
       have hs162 : w160.cell? ⟨gb344, 1, none⟩ = some (.int .i64 0) := (blk_cell BK344.out 1).trans rfl
       have hfs162 := blk_frozen BK344.out 1
       have hns162_0 := NB305_344.out
       have hns162_1 := NB306_344.out
       have hns162_2 := NB307_344.out
       have hns162_3 := NB308_344.out
       have hns162_4 := NB314_344.out
       have hns162_5 := NB318_344.out
       have hns162_6 := NB322_344.out
       have hns162_7 := NB326_344.out
       have hns162_8 := NB330_344.out
       have hns162_9 := NB334_344.out
       have hns162_10 := NB337_344.out
       have hms162_0 := NB344_305.out
       have hms162_1 := NB344_306.out
       have hms162_2 := NB344_307.out
       have hms162_3 := NB344_308.out
       have hms162_4 := NB344_314.out
       have hms162_5 := NB344_318.out
       have hms162_6 := NB344_322.out
       have hms162_7 := NB344_326.out
       have hms162_8 := NB344_330.out
       have hms162_9 := NB344_334.out
       have hms162_10 := NB344_337.out
       refine skip_ (w1 := ?_) (by rfl) rfl ?_ ?_
       rotate_left
       ·go_simp
        rfl
       refine hK.out _ _ ⟨((cell_far (p := ⟨gb344, _, none⟩) NB337_344.out _).trans (((cell_far (p := ⟨gb344, _, none⟩) NB337_344.out _).trans (hHeld.1)))), ((cell_far (p := ⟨gb344, _, none⟩) NB337_344.out _).trans (((cell_far (p := ⟨gb344, _, none⟩) NB337_344.out _).trans (hHeld.2.1)))), ((cell_far (p := ⟨gb344, _, none⟩) NB314_344.out _).trans (((cell_far (p := ⟨gb344, _, none⟩) NB314_344.out _).trans (hHeld.2.2.1)))), ((cell_far (p := ⟨gb344, _, none⟩) NB314_344.out _).trans (((cell_far (p := ⟨gb344, _, none⟩) NB314_344.out _).trans (hHeld.2.2.2.1)))), ((cell_far (p := ⟨gb344, _, none⟩) NB330_344.out _).trans (((cell_far (p := ⟨gb344, _, none⟩) NB330_344.out _).trans (hHeld.2.2.2.2.1)))), ((cell_far (p := ⟨gb344, _, none⟩) NB330_344.out _).trans (((cell_far (p := ⟨gb344, _, none⟩) NB330_344.out _).trans (hHeld.2.2.2.2.2.1)))), ((cell_far (p := ⟨gb344, _, none⟩) NB318_344.out _).trans (((cell_far (p := ⟨gb344, _, none⟩) NB318_344.out _).trans (hHeld.2.2.2.2.2.2.1)))), ((cell_far (p := ⟨gb344, _, none⟩) NB318_344.out _).trans (((cell_far (p := ⟨gb344, _, none⟩) NB318_344.out _).trans (hHeld.2.2.2.2.2.2.2))))⟩ (fun hHeld => ?_)
       clear hK K
       refine done_ (done_of HT_.out (by kernel_rfl)) ?_
       try go_wp2
       have n0_ : Aside0 (((w160.setCell ⟨gb344, 0, none⟩ (.int .i64 t342)).setCell ⟨gb344, 1, none⟩ (.int .i64 t343)).heap[gb305]? = some (.cells #[.int .i64 a0_0, .int .i64 a0_1] 24 (0, 0))) := ⟨kk_ BK305⟩
       have n1_ : Aside0 (((w160.setCell ⟨gb344, 0, none⟩ (.int .i64 t342)).setCell ⟨gb344, 1, none⟩ (.int .i64 t343)).heap[gb306]? = some (.cells #[.int .i64 a1_0, .int .i64 a1_1] 24 (0, 0))) := ⟨kk_ BK306⟩
       have n2_ : Aside0 (((w160.setCell ⟨gb344, 0, none⟩ (.int .i64 t342)).setCell ⟨gb344, 1, none⟩ (.int .i64 t343)).heap[gb307]? = some (.cells #[.int .i64 x308000_1, .int .i64 x308001_1] 24 (0, 0))) := ⟨kk_ BK307⟩
       have n3_ : Aside0 (((w160.setCell ⟨gb344, 0, none⟩ (.int .i64 t342)).setCell ⟨gb344, 1, none⟩ (.int .i64 t343)).heap[gb308]? = some (.cells #[.int .i64 x309000_1, .int .i64 x309001_1] 24 (0, 0))) := ⟨kk_ BK308⟩
       have n4_ : Aside0 (((w160.setCell ⟨gb344, 0, none⟩ (.int .i64 t342)).setCell ⟨gb344, 1, none⟩ (.int .i64 t343)).heap[gb314]? = some (.cells #[.int .i64 t311, .int .i64 t312] 24 (0, 0))) := ⟨kk_ BK314⟩
       have n5_ : Aside0 (((w160.setCell ⟨gb344, 0, none⟩ (.int .i64 t342)).setCell ⟨gb344, 1, none⟩ (.int .i64 t343)).heap[gb318]? = some (.cells #[.int .i64 t315, .int .i64 t316] 24 (0, 0))) := ⟨kk_ BK318⟩
       have n6_ : Aside0 (((w160.setCell ⟨gb344, 0, none⟩ (.int .i64 t342)).setCell ⟨gb344, 1, none⟩ (.int .i64 t343)).heap[gb322]? = some (.cells #[.int .i64 t319, .int .i64 t320] 24 (0, 0))) := ⟨kk_ BK322⟩
       have n7_ : Aside0 (((w160.setCell ⟨gb344, 0, none⟩ (.int .i64 t342)).setCell ⟨gb344, 1, none⟩ (.int .i64 t343)).heap[gb326]? = some (.cells #[.int .i64 t323, .int .i64 t324] 24 (0, 0))) := ⟨kk_ BK326⟩
       have n8_ : Aside0 (((w160.setCell ⟨gb344, 0, none⟩ (.int .i64 t342)).setCell ⟨gb344, 1, none⟩ (.int .i64 t343)).heap[gb330]? = some (.cells #[.int .i64 t327, .int .i64 t328] 24 (0, 0))) := ⟨kk_ BK330⟩
       have n9_ : Aside0 (((w160.setCell ⟨gb344, 0, none⟩ (.int .i64 t342)).setCell ⟨gb344, 1, none⟩ (.int .i64 t343)).heap[gb334]? = some (.cells #[.int .i64 t331, .int .i64 t332] 24 (0, 0))) := ⟨kk_ BK334⟩
       have n10_ : Aside0 (((w160.setCell ⟨gb344, 0, none⟩ (.int .i64 t342)).setCell ⟨gb344, 1, none⟩ (.int .i64 t343)).heap[gb337]? = some (.cells #[.int .i64 t335, .int .i64 t336] 24 (0, 0))) := ⟨kk_ BK337⟩
       have n11_ : Aside0 (((w160.setCell ⟨gb344, 0, none⟩ (.int .i64 t342)).setCell ⟨gb344, 1, none⟩ (.int .i64 t343)).heap[gb344]? = some (.cells #[.int .i64 t342, .int .i64 t343] 24 (0, 0))) := ⟨by (with_reducible repeat (first | refine blk_drewN ?_ _ | refine blk_drew ?_ | refine blk_alloc ?_ _)); refine blk_put (cs := #[.int .i64 t342, .int .i64 0]) ?_ 1 _ rfl; (with_reducible repeat (first | refine blk_drewN ?_ _ | refine blk_drew ?_ | refine blk_alloc ?_ _)); refine blk_put (cs := #[.int .i64 0, .int .i64 0]) ?_ 0 _ rfl; (with_reducible repeat (first | refine blk_drewN ?_ _ | refine blk_drew ?_ | refine blk_alloc ?_ _)); exact BK344.out⟩
       have n12_ : Aside0 (Below w.heap.size w ((w160.setCell ⟨gb344, 0, none⟩ (.int .i64 t342)).setCell ⟨gb344, 1, none⟩ (.int .i64 t343))) := (be_ HB)
       (try clear BK305)
       (try clear BK306)
       (try clear BK307)
       (try clear BK308)
       (try clear BK314)
       (try clear BK318)
       (try clear BK322)
       (try clear BK326)
       (try clear BK330)
       (try clear BK334)
       (try clear BK337)
       (try clear BK344)
       (try clear HB)
       generalize ((w160.setCell ⟨gb344, 0, none⟩ (.int .i64 t342)).setCell ⟨gb344, 1, none⟩ (.int .i64 t343)) = w163 at n0_ n1_ n2_ n3_ n4_ n5_ n6_ n7_ n8_ n9_ n10_ n11_ n12_ ⊢
       have BK305 := n0_
       have BK306 := n1_
       have BK307 := n2_
       have BK308 := n3_
       have BK314 := n4_
       have BK318 := n5_
       have BK322 := n6_
       have BK326 := n7_
       have BK330 := n8_
       have BK334 := n9_
       have BK337 := n10_
       have BK344 := n11_
       have HB := n12_
       clear n0_ n1_ n2_ n3_ n4_ n5_ n6_ n7_ n8_ n9_ n10_ n11_ n12_
       replace BK305 := Aside0.mk (blk_drew BK305.out)
       replace BK306 := Aside0.mk (blk_drew BK306.out)
       replace BK307 := Aside0.mk (blk_drew BK307.out)
       replace BK308 := Aside0.mk (blk_drew BK308.out)
       replace BK314 := Aside0.mk (blk_drew BK314.out)
       replace BK318 := Aside0.mk (blk_drew BK318.out)
       replace BK322 := Aside0.mk (blk_drew BK322.out)
       replace BK326 := Aside0.mk (blk_drew BK326.out)
       replace BK330 := Aside0.mk (blk_drew BK330.out)
       replace BK334 := Aside0.mk (blk_drew BK334.out)
       replace BK337 := Aside0.mk (blk_drew BK337.out)
       replace BK344 := Aside0.mk (blk_drew BK344.out)
       replace HB := Aside0.mk (below_drew1 HB.out)
       refine start_ (n := 17) (S := fun w' => w'.cell? ⟨gb337, 0, none⟩ = some (.int .i64 t335) ∧ w'.cell? ⟨gb337, 1, none⟩ = some (.int .i64 t336) ∧ w'.cell? ⟨gb318, 0, none⟩ = some (.int .i64 t315) ∧ w'.cell? ⟨gb318, 1, none⟩ = some (.int .i64 t316) ∧ w'.cell? ⟨gb330, 0, none⟩ = some (.int .i64 t327) ∧ w'.cell? ⟨gb330, 1, none⟩ = some (.int .i64 t328) ∧ w'.cell? ⟨gb314, 0, none⟩ = some (.int .i64 t311) ∧ w'.cell? ⟨gb314, 1, none⟩ = some (.int .i64 t312) ∧ w'.cell? ⟨gb334, 0, none⟩ = some (.int .i64 t331) ∧ w'.cell? ⟨gb334, 1, none⟩ = some (.int .i64 t332) ∧ w'.cell? ⟨gb326, 0, none⟩ = some (.int .i64 t323) ∧ w'.cell? ⟨gb326, 1, none⟩ = some (.int .i64 t324)) (ds := []) #[false, false, false, false, false, false, false, false, false, false, false, false, false, false, false, false, false] (by kernel_rfl) rfl rfl ⟨(blk_cell BK337.out 0).trans rfl, (blk_cell BK337.out 1).trans rfl, (blk_cell BK318.out 0).trans rfl, (blk_cell BK318.out 1).trans rfl, (blk_cell BK330.out 0).trans rfl, (blk_cell BK330.out 1).trans rfl, (blk_cell BK314.out 0).trans rfl, (blk_cell BK314.out 1).trans rfl, (blk_cell BK334.out 0).trans rfl, (blk_cell BK334.out 1).trans rfl, (blk_cell BK326.out 0).trans rfl, (blk_cell BK326.out 1).trans rfl⟩ (fun hHeld => ?_); refine with_tabW sun_Equator.tab18 sun_Equator.bits18 (fun HT_ HW_ => ?_)
       generalize w163.drew = w164 at BK305 BK306 BK307 BK308 BK314 BK318 BK322 BK326 BK330 BK334 BK337 BK344 HB hHeld ⊢
       refine take_ (i := 0) (N := some 91) (v := ?_) (a' := ?_) #[true, false, false, false, false, false, false, false, false, false, false, false, false, false, false, false, false] rfl rfl (take_ofW HT_.out HW_.out (by kernel_rfl)) (fun _ _ _ h => h) (Or.inl ⟨by rfl, ?_⟩) hHeld ?_ ?_
       rotate_left
       ·rintro w' ⟨s0, s1, s2, s3, s4, s5, s6, s7, s8, s9, s10, s11⟩
        go_simp
        with_reducible rfl
       rotate_left
       ·simp only [Act.put, List.setIfInBounds_toArray, List.set_cons_zero, List.set_cons_succ, i64_w, i32_w]
        rfl
       refine take_ (i := 1) (N := some 92) (v := ?_) (a' := ?_) #[true, true, false, false, false, false, false, false, false, false, false, false, false, false, false, false, false] rfl rfl (take_ofW HT_.out HW_.out (by kernel_rfl)) (fun _ _ _ h => h) (Or.inl ⟨by rfl, ?_⟩) hHeld ?_ ?_
       rotate_left
       ·rintro w' ⟨s0, s1, s2, s3, s4, s5, s6, s7, s8, s9, s10, s11⟩
        go_simp
        with_reducible rfl
       rotate_left
       ·simp only [Act.put, List.setIfInBounds_toArray, List.set_cons_zero, List.set_cons_succ, i64_w, i32_w]
        rfl
       refine take_ (i := 3) (N := some 94) (v := ?_) (a' := ?_) #[true, true, false, true, false, false, false, false, false, false, false, false, false, false, false, false, false] rfl rfl (take_ofW HT_.out HW_.out (by kernel_rfl)) (fun _ _ _ h => h) (Or.inl ⟨by rfl, ?_⟩) hHeld ?_ ?_
       rotate_left
       ·rintro w' ⟨s0, s1, s2, s3, s4, s5, s6, s7, s8, s9, s10, s11⟩
        go_simp
        with_reducible rfl
       rotate_left
       ·simp only [Act.put, List.setIfInBounds_toArray, List.set_cons_zero, List.set_cons_succ, i64_w, i32_w]
        rfl
       refine take_ (i := 4) (N := some 95) (v := ?_) (a' := ?_) #[true, true, false, true, true, false, false, false, false, false, false, false, false, false, false, false, false] rfl rfl (take_ofW HT_.out HW_.out (by kernel_rfl)) (fun _ _ _ h => h) (Or.inl ⟨by rfl, ?_⟩) hHeld ?_ ?_
       rotate_left
       ·rintro w' ⟨s0, s1, s2, s3, s4, s5, s6, s7, s8, s9, s10, s11⟩
        go_simp
        with_reducible rfl
       rotate_left
       ·simp only [Act.put, List.setIfInBounds_toArray, List.set_cons_zero, List.set_cons_succ, i64_w, i32_w]
        rfl
       refine take_ (i := 7) (N := some 98) (v := ?_) (a' := ?_) #[true, true, false, true, true, false, false, true, false, false, false, false, false, false, false, false, false] rfl rfl (take_ofW HT_.out HW_.out (by kernel_rfl)) (fun _ _ _ h => h) (Or.inl ⟨by rfl, ?_⟩) hHeld ?_ ?_
       rotate_left
       ·rintro w' ⟨s0, s1, s2, s3, s4, s5, s6, s7, s8, s9, s10, s11⟩
        go_simp
        with_reducible rfl
       rotate_left
       ·simp only [Act.put, List.setIfInBounds_toArray, List.set_cons_zero, List.set_cons_succ, i64_w, i32_w]
        rfl
       refine take_ (i := 8) (N := some 99) (v := ?_) (a' := ?_) #[true, true, false, true, true, false, false, true, true, false, false, false, false, false, false, false, false] rfl rfl (take_ofW HT_.out HW_.out (by kernel_rfl)) (fun _ _ _ h => h) (Or.inl ⟨by rfl, ?_⟩) hHeld ?_ ?_
       rotate_left
       ·rintro w' ⟨s0, s1, s2, s3, s4, s5, s6, s7, s8, s9, s10, s11⟩
        go_simp
        with_reducible rfl
       rotate_left
       ·simp only [Act.put, List.setIfInBounds_toArray, List.set_cons_zero, List.set_cons_succ, i64_w, i32_w]
        rfl
       refine join_ (σ := Nat) 2 #[true, true, true, true, true, true, true, true, true, true, true, true, true, true, true, false, false] (fun s_ => [(93, .agg #[.int .i64 t345, .int .i64 t346]), (96, .agg #[.int .i64 t347, .int .i64 t348]), (97, .agg #[.int .i64 t349, .int .i64 t350]), (100, .agg #[.int .i64 t351, .int .i64 t352]), (101, .tuple #[.agg #[.int .i64 t353, .int .i64 t354], .int .i64 t355]), (24, .pointer (some ⟨s_, 0, none⟩)), (90, .tuple #[.agg #[.int .i64 t353, .int .i64 t354], .int .i64 t355]), (102, .agg #[.int .i64 t353, .int .i64 t354]), (103, .int .i64 t355)]) (fun s_ w' => (w'.cell? ⟨gb337, 0, none⟩ = some (.int .i64 t335) ∧ w'.cell? ⟨gb337, 1, none⟩ = some (.int .i64 t336) ∧ w'.cell? ⟨gb318, 0, none⟩ = some (.int .i64 t315) ∧ w'.cell? ⟨gb318, 1, none⟩ = some (.int .i64 t316) ∧ w'.cell? ⟨gb330, 0, none⟩ = some (.int .i64 t327) ∧ w'.cell? ⟨gb330, 1, none⟩ = some (.int .i64 t328) ∧ w'.cell? ⟨gb314, 0, none⟩ = some (.int .i64 t311) ∧ w'.cell? ⟨gb314, 1, none⟩ = some (.int .i64 t312) ∧ w'.cell? ⟨gb334, 0, none⟩ = some (.int .i64 t331) ∧ w'.cell? ⟨gb334, 1, none⟩ = some (.int .i64 t332) ∧ w'.cell? ⟨gb326, 0, none⟩ = some (.int .i64 t323) ∧ w'.cell? ⟨gb326, 1, none⟩ = some (.int .i64 t324)) ∧ (w'.heap[gb305]? = some (.cells #[.int .i64 a0_0, .int .i64 a0_1] 24 (0, 0))) ∧ (w'.heap[gb306]? = some (.cells #[.int .i64 a1_0, .int .i64 a1_1] 24 (0, 0))) ∧ (w'.heap[gb307]? = some (.cells #[.int .i64 x308000_1, .int .i64 x308001_1] 24 (0, 0))) ∧ (w'.heap[gb308]? = some (.cells #[.int .i64 x309000_1, .int .i64 x309001_1] 24 (0, 0))) ∧ (w'.heap[gb314]? = some (.cells #[.int .i64 t311, .int .i64 t312] 24 (0, 0))) ∧ (w'.heap[gb318]? = some (.cells #[.int .i64 t315, .int .i64 t316] 24 (0, 0))) ∧ (w'.heap[gb322]? = some (.cells #[.int .i64 t319, .int .i64 t320] 24 (0, 0))) ∧ (w'.heap[gb326]? = some (.cells #[.int .i64 t323, .int .i64 t324] 24 (0, 0))) ∧ (w'.heap[gb330]? = some (.cells #[.int .i64 t327, .int .i64 t328] 24 (0, 0))) ∧ (w'.heap[gb334]? = some (.cells #[.int .i64 t331, .int .i64 t332] 24 (0, 0))) ∧ (w'.heap[gb337]? = some (.cells #[.int .i64 t335, .int .i64 t336] 24 (0, 0))) ∧ (w'.heap[gb344]? = some (.cells #[.int .i64 t342, .int .i64 t343] 24 (0, 0))) ∧ (w'.heap[s_]? = some (.cells #[.int .i64 0, .int .i64 0] 24 (0, 0))) ∧ (w.heap.size ≤ s_) ∧ (w.heap.size ≤ s_) ∧ (gb305 ≠ s_) ∧ (s_ ≠ gb305) ∧ (gb306 ≠ s_) ∧ (s_ ≠ gb306) ∧ (gb307 ≠ s_) ∧ (s_ ≠ gb307) ∧ (gb308 ≠ s_) ∧ (s_ ≠ gb308) ∧ (gb314 ≠ s_) ∧ (s_ ≠ gb314) ∧ (gb318 ≠ s_) ∧ (s_ ≠ gb318) ∧ (gb322 ≠ s_) ∧ (s_ ≠ gb322) ∧ (gb326 ≠ s_) ∧ (s_ ≠ gb326) ∧ (gb330 ≠ s_) ∧ (s_ ≠ gb330) ∧ (gb334 ≠ s_) ∧ (s_ ≠ gb334) ∧ (gb337 ≠ s_) ∧ (s_ ≠ gb337) ∧ (gb344 ≠ s_) ∧ (s_ ≠ gb344) ∧ (Below w.heap.size w w')) ?_ ?_
       rotate_left
       ·intro hJ2_5_6_9_10_14
        refine join_ (σ := Unit) 3 #[true, true, true, true, true, true, true, true, true, true, true, true, true, true, false, false, false] (fun s_ => [(93, .agg #[.int .i64 t345, .int .i64 t346]), (96, .agg #[.int .i64 t347, .int .i64 t348]), (97, .agg #[.int .i64 t349, .int .i64 t350]), (100, .agg #[.int .i64 t351, .int .i64 t352]), (101, .tuple #[.agg #[.int .i64 t353, .int .i64 t354], .int .i64 t355]), (90, .tuple #[.agg #[.int .i64 t353, .int .i64 t354], .int .i64 t355]), (102, .agg #[.int .i64 t353, .int .i64 t354]), (103, .int .i64 t355)]) (fun s_ w' => (w'.cell? ⟨gb337, 0, none⟩ = some (.int .i64 t335) ∧ w'.cell? ⟨gb337, 1, none⟩ = some (.int .i64 t336) ∧ w'.cell? ⟨gb318, 0, none⟩ = some (.int .i64 t315) ∧ w'.cell? ⟨gb318, 1, none⟩ = some (.int .i64 t316) ∧ w'.cell? ⟨gb330, 0, none⟩ = some (.int .i64 t327) ∧ w'.cell? ⟨gb330, 1, none⟩ = some (.int .i64 t328) ∧ w'.cell? ⟨gb314, 0, none⟩ = some (.int .i64 t311) ∧ w'.cell? ⟨gb314, 1, none⟩ = some (.int .i64 t312) ∧ w'.cell? ⟨gb334, 0, none⟩ = some (.int .i64 t331) ∧ w'.cell? ⟨gb334, 1, none⟩ = some (.int .i64 t332) ∧ w'.cell? ⟨gb326, 0, none⟩ = some (.int .i64 t323) ∧ w'.cell? ⟨gb326, 1, none⟩ = some (.int .i64 t324)) ∧ (w'.heap[gb305]? = some (.cells #[.int .i64 a0_0, .int .i64 a0_1] 24 (0, 0))) ∧ (w'.heap[gb306]? = some (.cells #[.int .i64 a1_0, .int .i64 a1_1] 24 (0, 0))) ∧ (w'.heap[gb307]? = some (.cells #[.int .i64 x308000_1, .int .i64 x308001_1] 24 (0, 0))) ∧ (w'.heap[gb308]? = some (.cells #[.int .i64 x309000_1, .int .i64 x309001_1] 24 (0, 0))) ∧ (w'.heap[gb314]? = some (.cells #[.int .i64 t311, .int .i64 t312] 24 (0, 0))) ∧ (w'.heap[gb318]? = some (.cells #[.int .i64 t315, .int .i64 t316] 24 (0, 0))) ∧ (w'.heap[gb322]? = some (.cells #[.int .i64 t319, .int .i64 t320] 24 (0, 0))) ∧ (w'.heap[gb326]? = some (.cells #[.int .i64 t323, .int .i64 t324] 24 (0, 0))) ∧ (w'.heap[gb330]? = some (.cells #[.int .i64 t327, .int .i64 t328] 24 (0, 0))) ∧ (w'.heap[gb334]? = some (.cells #[.int .i64 t331, .int .i64 t332] 24 (0, 0))) ∧ (w'.heap[gb337]? = some (.cells #[.int .i64 t335, .int .i64 t336] 24 (0, 0))) ∧ (w'.heap[gb344]? = some (.cells #[.int .i64 t342, .int .i64 t343] 24 (0, 0))) ∧ (Below w.heap.size w w')) ?_ ?_
        rotate_left
        ·intro hJ2_5_6_9_10
         refine join_ (σ := Nat) 6 #[true, true, true, true, true, true, true, true, true, true, false, false, false, false, true, false, false] (fun s_ => [(93, .agg #[.int .i64 t345, .int .i64 t346]), (96, .agg #[.int .i64 t347, .int .i64 t348]), (97, .agg #[.int .i64 t349, .int .i64 t350]), (100, .agg #[.int .i64 t351, .int .i64 t352]), (24, .pointer (some ⟨s_, 0, none⟩))]) (fun s_ w' => (w'.cell? ⟨gb337, 0, none⟩ = some (.int .i64 t335) ∧ w'.cell? ⟨gb337, 1, none⟩ = some (.int .i64 t336) ∧ w'.cell? ⟨gb318, 0, none⟩ = some (.int .i64 t315) ∧ w'.cell? ⟨gb318, 1, none⟩ = some (.int .i64 t316) ∧ w'.cell? ⟨gb330, 0, none⟩ = some (.int .i64 t327) ∧ w'.cell? ⟨gb330, 1, none⟩ = some (.int .i64 t328) ∧ w'.cell? ⟨gb314, 0, none⟩ = some (.int .i64 t311) ∧ w'.cell? ⟨gb314, 1, none⟩ = some (.int .i64 t312) ∧ w'.cell? ⟨gb334, 0, none⟩ = some (.int .i64 t331) ∧ w'.cell? ⟨gb334, 1, none⟩ = some (.int .i64 t332) ∧ w'.cell? ⟨gb326, 0, none⟩ = some (.int .i64 t323) ∧ w'.cell? ⟨gb326, 1, none⟩ = some (.int .i64 t324)) ∧ (w'.heap[gb305]? = some (.cells #[.int .i64 a0_0, .int .i64 a0_1] 24 (0, 0))) ∧ (w'.heap[gb306]? = some (.cells #[.int .i64 a1_0, .int .i64 a1_1] 24 (0, 0))) ∧ (w'.heap[gb307]? = some (.cells #[.int .i64 x308000_1, .int .i64 x308001_1] 24 (0, 0))) ∧ (w'.heap[gb308]? = some (.cells #[.int .i64 x309000_1, .int .i64 x309001_1] 24 (0, 0))) ∧ (w'.heap[gb314]? = some (.cells #[.int .i64 t311, .int .i64 t312] 24 (0, 0))) ∧ (w'.heap[gb318]? = some (.cells #[.int .i64 t315, .int .i64 t316] 24 (0, 0))) ∧ (w'.heap[gb322]? = some (.cells #[.int .i64 t319, .int .i64 t320] 24 (0, 0))) ∧ (w'.heap[gb326]? = some (.cells #[.int .i64 t323, .int .i64 t324] 24 (0, 0))) ∧ (w'.heap[gb330]? = some (.cells #[.int .i64 t327, .int .i64 t328] 24 (0, 0))) ∧ (w'.heap[gb334]? = some (.cells #[.int .i64 t331, .int .i64 t332] 24 (0, 0))) ∧ (w'.heap[gb337]? = some (.cells #[.int .i64 t335, .int .i64 t336] 24 (0, 0))) ∧ (w'.heap[gb344]? = some (.cells #[.int .i64 t342, .int .i64 t343] 24 (0, 0))) ∧ (w'.heap[s_]? = some (.cells #[.int .i64 0, .int .i64 0] 24 (0, 0))) ∧ (w.heap.size ≤ s_) ∧ (w.heap.size ≤ s_) ∧ (gb305 ≠ s_) ∧ (s_ ≠ gb305) ∧ (gb306 ≠ s_) ∧ (s_ ≠ gb306) ∧ (gb307 ≠ s_) ∧ (s_ ≠ gb307) ∧ (gb308 ≠ s_) ∧ (s_ ≠ gb308) ∧ (gb314 ≠ s_) ∧ (s_ ≠ gb314) ∧ (gb318 ≠ s_) ∧ (s_ ≠ gb318) ∧ (gb322 ≠ s_) ∧ (s_ ≠ gb322) ∧ (gb326 ≠ s_) ∧ (s_ ≠ gb326) ∧ (gb330 ≠ s_) ∧ (s_ ≠ gb330) ∧ (gb334 ≠ s_) ∧ (s_ ≠ gb334) ∧ (gb337 ≠ s_) ∧ (s_ ≠ gb337) ∧ (gb344 ≠ s_) ∧ (s_ ≠ gb344) ∧ (Below w.heap.size w w')) ?_ ?_
         rotate_left
         ·intro hJ2_5_6_9_14
          refine join_ (σ := Unit) 7 #[true, true, true, true, true, true, true, true, true, true, false, false, false, false, false, false, false] (fun s_ => [(93, .agg #[.int .i64 t345, .int .i64 t346]), (96, .agg #[.int .i64 t347, .int .i64 t348]), (97, .agg #[.int .i64 t349, .int .i64 t350]), (100, .agg #[.int .i64 t351, .int .i64 t352])]) (fun s_ w' => (w'.cell? ⟨gb337, 0, none⟩ = some (.int .i64 t335) ∧ w'.cell? ⟨gb337, 1, none⟩ = some (.int .i64 t336) ∧ w'.cell? ⟨gb318, 0, none⟩ = some (.int .i64 t315) ∧ w'.cell? ⟨gb318, 1, none⟩ = some (.int .i64 t316) ∧ w'.cell? ⟨gb330, 0, none⟩ = some (.int .i64 t327) ∧ w'.cell? ⟨gb330, 1, none⟩ = some (.int .i64 t328) ∧ w'.cell? ⟨gb314, 0, none⟩ = some (.int .i64 t311) ∧ w'.cell? ⟨gb314, 1, none⟩ = some (.int .i64 t312) ∧ w'.cell? ⟨gb334, 0, none⟩ = some (.int .i64 t331) ∧ w'.cell? ⟨gb334, 1, none⟩ = some (.int .i64 t332) ∧ w'.cell? ⟨gb326, 0, none⟩ = some (.int .i64 t323) ∧ w'.cell? ⟨gb326, 1, none⟩ = some (.int .i64 t324)) ∧ (w'.heap[gb305]? = some (.cells #[.int .i64 a0_0, .int .i64 a0_1] 24 (0, 0))) ∧ (w'.heap[gb306]? = some (.cells #[.int .i64 a1_0, .int .i64 a1_1] 24 (0, 0))) ∧ (w'.heap[gb307]? = some (.cells #[.int .i64 x308000_1, .int .i64 x308001_1] 24 (0, 0))) ∧ (w'.heap[gb308]? = some (.cells #[.int .i64 x309000_1, .int .i64 x309001_1] 24 (0, 0))) ∧ (w'.heap[gb314]? = some (.cells #[.int .i64 t311, .int .i64 t312] 24 (0, 0))) ∧ (w'.heap[gb318]? = some (.cells #[.int .i64 t315, .int .i64 t316] 24 (0, 0))) ∧ (w'.heap[gb322]? = some (.cells #[.int .i64 t319, .int .i64 t320] 24 (0, 0))) ∧ (w'.heap[gb326]? = some (.cells #[.int .i64 t323, .int .i64 t324] 24 (0, 0))) ∧ (w'.heap[gb330]? = some (.cells #[.int .i64 t327, .int .i64 t328] 24 (0, 0))) ∧ (w'.heap[gb334]? = some (.cells #[.int .i64 t331, .int .i64 t332] 24 (0, 0))) ∧ (w'.heap[gb337]? = some (.cells #[.int .i64 t335, .int .i64 t336] 24 (0, 0))) ∧ (w'.heap[gb344]? = some (.cells #[.int .i64 t342, .int .i64 t343] 24 (0, 0))) ∧ (Below w.heap.size w w')) ?_ ?_
          rotate_left
          ·intro hJ2_5_6_9
           refine join_ (σ := Nat) 7 #[true, true, true, true, true, true, true, true, true, false, false, false, false, false, true, false, false] (fun s_ => [(93, .agg #[.int .i64 t345, .int .i64 t346]), (96, .agg #[.int .i64 t347, .int .i64 t348]), (97, .agg #[.int .i64 t349, .int .i64 t350]), (24, .pointer (some ⟨s_, 0, none⟩))]) (fun s_ w' => (w'.cell? ⟨gb337, 0, none⟩ = some (.int .i64 t335) ∧ w'.cell? ⟨gb337, 1, none⟩ = some (.int .i64 t336) ∧ w'.cell? ⟨gb318, 0, none⟩ = some (.int .i64 t315) ∧ w'.cell? ⟨gb318, 1, none⟩ = some (.int .i64 t316) ∧ w'.cell? ⟨gb330, 0, none⟩ = some (.int .i64 t327) ∧ w'.cell? ⟨gb330, 1, none⟩ = some (.int .i64 t328) ∧ w'.cell? ⟨gb314, 0, none⟩ = some (.int .i64 t311) ∧ w'.cell? ⟨gb314, 1, none⟩ = some (.int .i64 t312) ∧ w'.cell? ⟨gb334, 0, none⟩ = some (.int .i64 t331) ∧ w'.cell? ⟨gb334, 1, none⟩ = some (.int .i64 t332) ∧ w'.cell? ⟨gb326, 0, none⟩ = some (.int .i64 t323) ∧ w'.cell? ⟨gb326, 1, none⟩ = some (.int .i64 t324)) ∧ (w'.heap[gb305]? = some (.cells #[.int .i64 a0_0, .int .i64 a0_1] 24 (0, 0))) ∧ (w'.heap[gb306]? = some (.cells #[.int .i64 a1_0, .int .i64 a1_1] 24 (0, 0))) ∧ (w'.heap[gb307]? = some (.cells #[.int .i64 x308000_1, .int .i64 x308001_1] 24 (0, 0))) ∧ (w'.heap[gb308]? = some (.cells #[.int .i64 x309000_1, .int .i64 x309001_1] 24 (0, 0))) ∧ (w'.heap[gb314]? = some (.cells #[.int .i64 t311, .int .i64 t312] 24 (0, 0))) ∧ (w'.heap[gb318]? = some (.cells #[.int .i64 t315, .int .i64 t316] 24 (0, 0))) ∧ (w'.heap[gb322]? = some (.cells #[.int .i64 t319, .int .i64 t320] 24 (0, 0))) ∧ (w'.heap[gb326]? = some (.cells #[.int .i64 t323, .int .i64 t324] 24 (0, 0))) ∧ (w'.heap[gb330]? = some (.cells #[.int .i64 t327, .int .i64 t328] 24 (0, 0))) ∧ (w'.heap[gb334]? = some (.cells #[.int .i64 t331, .int .i64 t332] 24 (0, 0))) ∧ (w'.heap[gb337]? = some (.cells #[.int .i64 t335, .int .i64 t336] 24 (0, 0))) ∧ (w'.heap[gb344]? = some (.cells #[.int .i64 t342, .int .i64 t343] 24 (0, 0))) ∧ (w'.heap[s_]? = some (.cells #[.int .i64 0, .int .i64 0] 24 (0, 0))) ∧ (w.heap.size ≤ s_) ∧ (w.heap.size ≤ s_) ∧ (gb305 ≠ s_) ∧ (s_ ≠ gb305) ∧ (gb306 ≠ s_) ∧ (s_ ≠ gb306) ∧ (gb307 ≠ s_) ∧ (s_ ≠ gb307) ∧ (gb308 ≠ s_) ∧ (s_ ≠ gb308) ∧ (gb314 ≠ s_) ∧ (s_ ≠ gb314) ∧ (gb318 ≠ s_) ∧ (s_ ≠ gb318) ∧ (gb322 ≠ s_) ∧ (s_ ≠ gb322) ∧ (gb326 ≠ s_) ∧ (s_ ≠ gb326) ∧ (gb330 ≠ s_) ∧ (s_ ≠ gb330) ∧ (gb334 ≠ s_) ∧ (s_ ≠ gb334) ∧ (gb337 ≠ s_) ∧ (s_ ≠ gb337) ∧ (gb344 ≠ s_) ∧ (s_ ≠ gb344) ∧ (Below w.heap.size w w')) ?_ ?_
           rotate_left
           ·intro hJ2_5_6_14
            refine join_ (σ := Unit) 8 #[true, true, true, true, true, true, true, true, true, false, false, false, false, false, false, false, false] (fun s_ => [(93, .agg #[.int .i64 t345, .int .i64 t346]), (96, .agg #[.int .i64 t347, .int .i64 t348]), (97, .agg #[.int .i64 t349, .int .i64 t350])]) (fun s_ w' => (w'.cell? ⟨gb337, 0, none⟩ = some (.int .i64 t335) ∧ w'.cell? ⟨gb337, 1, none⟩ = some (.int .i64 t336) ∧ w'.cell? ⟨gb318, 0, none⟩ = some (.int .i64 t315) ∧ w'.cell? ⟨gb318, 1, none⟩ = some (.int .i64 t316) ∧ w'.cell? ⟨gb330, 0, none⟩ = some (.int .i64 t327) ∧ w'.cell? ⟨gb330, 1, none⟩ = some (.int .i64 t328) ∧ w'.cell? ⟨gb314, 0, none⟩ = some (.int .i64 t311) ∧ w'.cell? ⟨gb314, 1, none⟩ = some (.int .i64 t312) ∧ w'.cell? ⟨gb334, 0, none⟩ = some (.int .i64 t331) ∧ w'.cell? ⟨gb334, 1, none⟩ = some (.int .i64 t332) ∧ w'.cell? ⟨gb326, 0, none⟩ = some (.int .i64 t323) ∧ w'.cell? ⟨gb326, 1, none⟩ = some (.int .i64 t324)) ∧ (w'.heap[gb305]? = some (.cells #[.int .i64 a0_0, .int .i64 a0_1] 24 (0, 0))) ∧ (w'.heap[gb306]? = some (.cells #[.int .i64 a1_0, .int .i64 a1_1] 24 (0, 0))) ∧ (w'.heap[gb307]? = some (.cells #[.int .i64 x308000_1, .int .i64 x308001_1] 24 (0, 0))) ∧ (w'.heap[gb308]? = some (.cells #[.int .i64 x309000_1, .int .i64 x309001_1] 24 (0, 0))) ∧ (w'.heap[gb314]? = some (.cells #[.int .i64 t311, .int .i64 t312] 24 (0, 0))) ∧ (w'.heap[gb318]? = some (.cells #[.int .i64 t315, .int .i64 t316] 24 (0, 0))) ∧ (w'.heap[gb322]? = some (.cells #[.int .i64 t319, .int .i64 t320] 24 (0, 0))) ∧ (w'.heap[gb326]? = some (.cells #[.int .i64 t323, .int .i64 t324] 24 (0, 0))) ∧ (w'.heap[gb330]? = some (.cells #[.int .i64 t327, .int .i64 t328] 24 (0, 0))) ∧ (w'.heap[gb334]? = some (.cells #[.int .i64 t331, .int .i64 t332] 24 (0, 0))) ∧ (w'.heap[gb337]? = some (.cells #[.int .i64 t335, .int .i64 t336] 24 (0, 0))) ∧ (w'.heap[gb344]? = some (.cells #[.int .i64 t342, .int .i64 t343] 24 (0, 0))) ∧ (Below w.heap.size w w')) ?_ ?_
            rotate_left
            ·intro hJ2_5_6
             refine join_ (σ := Nat) 8 #[true, true, true, true, true, true, false, true, true, false, false, false, false, false, true, false, false] (fun s_ => [(93, .agg #[.int .i64 t345, .int .i64 t346]), (96, .agg #[.int .i64 t347, .int .i64 t348]), (24, .pointer (some ⟨s_, 0, none⟩))]) (fun s_ w' => (w'.cell? ⟨gb337, 0, none⟩ = some (.int .i64 t335) ∧ w'.cell? ⟨gb337, 1, none⟩ = some (.int .i64 t336) ∧ w'.cell? ⟨gb318, 0, none⟩ = some (.int .i64 t315) ∧ w'.cell? ⟨gb318, 1, none⟩ = some (.int .i64 t316) ∧ w'.cell? ⟨gb330, 0, none⟩ = some (.int .i64 t327) ∧ w'.cell? ⟨gb330, 1, none⟩ = some (.int .i64 t328) ∧ w'.cell? ⟨gb314, 0, none⟩ = some (.int .i64 t311) ∧ w'.cell? ⟨gb314, 1, none⟩ = some (.int .i64 t312) ∧ w'.cell? ⟨gb334, 0, none⟩ = some (.int .i64 t331) ∧ w'.cell? ⟨gb334, 1, none⟩ = some (.int .i64 t332) ∧ w'.cell? ⟨gb326, 0, none⟩ = some (.int .i64 t323) ∧ w'.cell? ⟨gb326, 1, none⟩ = some (.int .i64 t324)) ∧ (w'.heap[gb305]? = some (.cells #[.int .i64 a0_0, .int .i64 a0_1] 24 (0, 0))) ∧ (w'.heap[gb306]? = some (.cells #[.int .i64 a1_0, .int .i64 a1_1] 24 (0, 0))) ∧ (w'.heap[gb307]? = some (.cells #[.int .i64 x308000_1, .int .i64 x308001_1] 24 (0, 0))) ∧ (w'.heap[gb308]? = some (.cells #[.int .i64 x309000_1, .int .i64 x309001_1] 24 (0, 0))) ∧ (w'.heap[gb314]? = some (.cells #[.int .i64 t311, .int .i64 t312] 24 (0, 0))) ∧ (w'.heap[gb318]? = some (.cells #[.int .i64 t315, .int .i64 t316] 24 (0, 0))) ∧ (w'.heap[gb322]? = some (.cells #[.int .i64 t319, .int .i64 t320] 24 (0, 0))) ∧ (w'.heap[gb326]? = some (.cells #[.int .i64 t323, .int .i64 t324] 24 (0, 0))) ∧ (w'.heap[gb330]? = some (.cells #[.int .i64 t327, .int .i64 t328] 24 (0, 0))) ∧ (w'.heap[gb334]? = some (.cells #[.int .i64 t331, .int .i64 t332] 24 (0, 0))) ∧ (w'.heap[gb337]? = some (.cells #[.int .i64 t335, .int .i64 t336] 24 (0, 0))) ∧ (w'.heap[gb344]? = some (.cells #[.int .i64 t342, .int .i64 t343] 24 (0, 0))) ∧ (w'.heap[s_]? = some (.cells #[.int .i64 0, .int .i64 0] 24 (0, 0))) ∧ (w.heap.size ≤ s_) ∧ (w.heap.size ≤ s_) ∧ (gb305 ≠ s_) ∧ (s_ ≠ gb305) ∧ (gb306 ≠ s_) ∧ (s_ ≠ gb306) ∧ (gb307 ≠ s_) ∧ (s_ ≠ gb307) ∧ (gb308 ≠ s_) ∧ (s_ ≠ gb308) ∧ (gb314 ≠ s_) ∧ (s_ ≠ gb314) ∧ (gb318 ≠ s_) ∧ (s_ ≠ gb318) ∧ (gb322 ≠ s_) ∧ (s_ ≠ gb322) ∧ (gb326 ≠ s_) ∧ (s_ ≠ gb326) ∧ (gb330 ≠ s_) ∧ (s_ ≠ gb330) ∧ (gb334 ≠ s_) ∧ (s_ ≠ gb334) ∧ (gb337 ≠ s_) ∧ (s_ ≠ gb337) ∧ (gb344 ≠ s_) ∧ (s_ ≠ gb344) ∧ (Below w.heap.size w w')) ?_ ?_
             rotate_left
             ·intro hJ2_5_14
              refine join_ (σ := Unit) 9 #[true, true, true, true, true, true, false, true, true, false, false, false, false, false, false, false, false] (fun s_ => [(93, .agg #[.int .i64 t345, .int .i64 t346]), (96, .agg #[.int .i64 t347, .int .i64 t348])]) (fun s_ w' => (w'.cell? ⟨gb337, 0, none⟩ = some (.int .i64 t335) ∧ w'.cell? ⟨gb337, 1, none⟩ = some (.int .i64 t336) ∧ w'.cell? ⟨gb318, 0, none⟩ = some (.int .i64 t315) ∧ w'.cell? ⟨gb318, 1, none⟩ = some (.int .i64 t316) ∧ w'.cell? ⟨gb330, 0, none⟩ = some (.int .i64 t327) ∧ w'.cell? ⟨gb330, 1, none⟩ = some (.int .i64 t328) ∧ w'.cell? ⟨gb314, 0, none⟩ = some (.int .i64 t311) ∧ w'.cell? ⟨gb314, 1, none⟩ = some (.int .i64 t312) ∧ w'.cell? ⟨gb334, 0, none⟩ = some (.int .i64 t331) ∧ w'.cell? ⟨gb334, 1, none⟩ = some (.int .i64 t332) ∧ w'.cell? ⟨gb326, 0, none⟩ = some (.int .i64 t323) ∧ w'.cell? ⟨gb326, 1, none⟩ = some (.int .i64 t324)) ∧ (w'.heap[gb305]? = some (.cells #[.int .i64 a0_0, .int .i64 a0_1] 24 (0, 0))) ∧ (w'.heap[gb306]? = some (.cells #[.int .i64 a1_0, .int .i64 a1_1] 24 (0, 0))) ∧ (w'.heap[gb307]? = some (.cells #[.int .i64 x308000_1, .int .i64 x308001_1] 24 (0, 0))) ∧ (w'.heap[gb308]? = some (.cells #[.int .i64 x309000_1, .int .i64 x309001_1] 24 (0, 0))) ∧ (w'.heap[gb314]? = some (.cells #[.int .i64 t311, .int .i64 t312] 24 (0, 0))) ∧ (w'.heap[gb318]? = some (.cells #[.int .i64 t315, .int .i64 t316] 24 (0, 0))) ∧ (w'.heap[gb322]? = some (.cells #[.int .i64 t319, .int .i64 t320] 24 (0, 0))) ∧ (w'.heap[gb326]? = some (.cells #[.int .i64 t323, .int .i64 t324] 24 (0, 0))) ∧ (w'.heap[gb330]? = some (.cells #[.int .i64 t327, .int .i64 t328] 24 (0, 0))) ∧ (w'.heap[gb334]? = some (.cells #[.int .i64 t331, .int .i64 t332] 24 (0, 0))) ∧ (w'.heap[gb337]? = some (.cells #[.int .i64 t335, .int .i64 t336] 24 (0, 0))) ∧ (w'.heap[gb344]? = some (.cells #[.int .i64 t342, .int .i64 t343] 24 (0, 0))) ∧ (Below w.heap.size w w')) ?_ ?_
              rotate_left
              ·intro hJ2_5
               refine join_ (σ := Nat) 9 #[true, true, true, true, true, false, false, true, true, false, false, false, false, false, true, false, false] (fun s_ => [(93, .agg #[.int .i64 t345, .int .i64 t346]), (24, .pointer (some ⟨s_, 0, none⟩))]) (fun s_ w' => (w'.cell? ⟨gb337, 0, none⟩ = some (.int .i64 t335) ∧ w'.cell? ⟨gb337, 1, none⟩ = some (.int .i64 t336) ∧ w'.cell? ⟨gb318, 0, none⟩ = some (.int .i64 t315) ∧ w'.cell? ⟨gb318, 1, none⟩ = some (.int .i64 t316) ∧ w'.cell? ⟨gb330, 0, none⟩ = some (.int .i64 t327) ∧ w'.cell? ⟨gb330, 1, none⟩ = some (.int .i64 t328) ∧ w'.cell? ⟨gb314, 0, none⟩ = some (.int .i64 t311) ∧ w'.cell? ⟨gb314, 1, none⟩ = some (.int .i64 t312) ∧ w'.cell? ⟨gb334, 0, none⟩ = some (.int .i64 t331) ∧ w'.cell? ⟨gb334, 1, none⟩ = some (.int .i64 t332) ∧ w'.cell? ⟨gb326, 0, none⟩ = some (.int .i64 t323) ∧ w'.cell? ⟨gb326, 1, none⟩ = some (.int .i64 t324)) ∧ (w'.heap[gb305]? = some (.cells #[.int .i64 a0_0, .int .i64 a0_1] 24 (0, 0))) ∧ (w'.heap[gb306]? = some (.cells #[.int .i64 a1_0, .int .i64 a1_1] 24 (0, 0))) ∧ (w'.heap[gb307]? = some (.cells #[.int .i64 x308000_1, .int .i64 x308001_1] 24 (0, 0))) ∧ (w'.heap[gb308]? = some (.cells #[.int .i64 x309000_1, .int .i64 x309001_1] 24 (0, 0))) ∧ (w'.heap[gb314]? = some (.cells #[.int .i64 t311, .int .i64 t312] 24 (0, 0))) ∧ (w'.heap[gb318]? = some (.cells #[.int .i64 t315, .int .i64 t316] 24 (0, 0))) ∧ (w'.heap[gb322]? = some (.cells #[.int .i64 t319, .int .i64 t320] 24 (0, 0))) ∧ (w'.heap[gb326]? = some (.cells #[.int .i64 t323, .int .i64 t324] 24 (0, 0))) ∧ (w'.heap[gb330]? = some (.cells #[.int .i64 t327, .int .i64 t328] 24 (0, 0))) ∧ (w'.heap[gb334]? = some (.cells #[.int .i64 t331, .int .i64 t332] 24 (0, 0))) ∧ (w'.heap[gb337]? = some (.cells #[.int .i64 t335, .int .i64 t336] 24 (0, 0))) ∧ (w'.heap[gb344]? = some (.cells #[.int .i64 t342, .int .i64 t343] 24 (0, 0))) ∧ (w'.heap[s_]? = some (.cells #[.int .i64 0, .int .i64 0] 24 (0, 0))) ∧ (w.heap.size ≤ s_) ∧ (w.heap.size ≤ s_) ∧ (gb305 ≠ s_) ∧ (s_ ≠ gb305) ∧ (gb306 ≠ s_) ∧ (s_ ≠ gb306) ∧ (gb307 ≠ s_) ∧ (s_ ≠ gb307) ∧ (gb308 ≠ s_) ∧ (s_ ≠ gb308) ∧ (gb314 ≠ s_) ∧ (s_ ≠ gb314) ∧ (gb318 ≠ s_) ∧ (s_ ≠ gb318) ∧ (gb322 ≠ s_) ∧ (s_ ≠ gb322) ∧ (gb326 ≠ s_) ∧ (s_ ≠ gb326) ∧ (gb330 ≠ s_) ∧ (s_ ≠ gb330) ∧ (gb334 ≠ s_) ∧ (s_ ≠ gb334) ∧ (gb337 ≠ s_) ∧ (s_ ≠ gb337) ∧ (gb344 ≠ s_) ∧ (s_ ≠ gb344) ∧ (Below w.heap.size w w')) ?_ ?_
               rotate_left
               ·intro hJ2_14
                refine join_ (σ := Unit) 10 #[true, true, true, true, true, false, false, true, true, false, false, false, false, false, false, false, false] (fun s_ => [(93, .agg #[.int .i64 t345, .int .i64 t346])]) (fun s_ w' => (w'.cell? ⟨gb337, 0, none⟩ = some (.int .i64 t335) ∧ w'.cell? ⟨gb337, 1, none⟩ = some (.int .i64 t336) ∧ w'.cell? ⟨gb318, 0, none⟩ = some (.int .i64 t315) ∧ w'.cell? ⟨gb318, 1, none⟩ = some (.int .i64 t316) ∧ w'.cell? ⟨gb330, 0, none⟩ = some (.int .i64 t327) ∧ w'.cell? ⟨gb330, 1, none⟩ = some (.int .i64 t328) ∧ w'.cell? ⟨gb314, 0, none⟩ = some (.int .i64 t311) ∧ w'.cell? ⟨gb314, 1, none⟩ = some (.int .i64 t312) ∧ w'.cell? ⟨gb334, 0, none⟩ = some (.int .i64 t331) ∧ w'.cell? ⟨gb334, 1, none⟩ = some (.int .i64 t332) ∧ w'.cell? ⟨gb326, 0, none⟩ = some (.int .i64 t323) ∧ w'.cell? ⟨gb326, 1, none⟩ = some (.int .i64 t324)) ∧ (w'.heap[gb305]? = some (.cells #[.int .i64 a0_0, .int .i64 a0_1] 24 (0, 0))) ∧ (w'.heap[gb306]? = some (.cells #[.int .i64 a1_0, .int .i64 a1_1] 24 (0, 0))) ∧ (w'.heap[gb307]? = some (.cells #[.int .i64 x308000_1, .int .i64 x308001_1] 24 (0, 0))) ∧ (w'.heap[gb308]? = some (.cells #[.int .i64 x309000_1, .int .i64 x309001_1] 24 (0, 0))) ∧ (w'.heap[gb314]? = some (.cells #[.int .i64 t311, .int .i64 t312] 24 (0, 0))) ∧ (w'.heap[gb318]? = some (.cells #[.int .i64 t315, .int .i64 t316] 24 (0, 0))) ∧ (w'.heap[gb322]? = some (.cells #[.int .i64 t319, .int .i64 t320] 24 (0, 0))) ∧ (w'.heap[gb326]? = some (.cells #[.int .i64 t323, .int .i64 t324] 24 (0, 0))) ∧ (w'.heap[gb330]? = some (.cells #[.int .i64 t327, .int .i64 t328] 24 (0, 0))) ∧ (w'.heap[gb334]? = some (.cells #[.int .i64 t331, .int .i64 t332] 24 (0, 0))) ∧ (w'.heap[gb337]? = some (.cells #[.int .i64 t335, .int .i64 t336] 24 (0, 0))) ∧ (w'.heap[gb344]? = some (.cells #[.int .i64 t342, .int .i64 t343] 24 (0, 0))) ∧ (Below w.heap.size w w')) ?_ ?_
                rotate_left
                ·intro hJ2
                 refine join_ (σ := Nat) 10 #[true, true, false, true, true, false, false, true, true, false, false, false, false, false, true, false, false] (fun s_ => [(24, .pointer (some ⟨s_, 0, none⟩))]) (fun s_ w' => (w'.cell? ⟨gb337, 0, none⟩ = some (.int .i64 t335) ∧ w'.cell? ⟨gb337, 1, none⟩ = some (.int .i64 t336) ∧ w'.cell? ⟨gb318, 0, none⟩ = some (.int .i64 t315) ∧ w'.cell? ⟨gb318, 1, none⟩ = some (.int .i64 t316) ∧ w'.cell? ⟨gb330, 0, none⟩ = some (.int .i64 t327) ∧ w'.cell? ⟨gb330, 1, none⟩ = some (.int .i64 t328) ∧ w'.cell? ⟨gb314, 0, none⟩ = some (.int .i64 t311) ∧ w'.cell? ⟨gb314, 1, none⟩ = some (.int .i64 t312) ∧ w'.cell? ⟨gb334, 0, none⟩ = some (.int .i64 t331) ∧ w'.cell? ⟨gb334, 1, none⟩ = some (.int .i64 t332) ∧ w'.cell? ⟨gb326, 0, none⟩ = some (.int .i64 t323) ∧ w'.cell? ⟨gb326, 1, none⟩ = some (.int .i64 t324)) ∧ (w'.heap[gb305]? = some (.cells #[.int .i64 a0_0, .int .i64 a0_1] 24 (0, 0))) ∧ (w'.heap[gb306]? = some (.cells #[.int .i64 a1_0, .int .i64 a1_1] 24 (0, 0))) ∧ (w'.heap[gb307]? = some (.cells #[.int .i64 x308000_1, .int .i64 x308001_1] 24 (0, 0))) ∧ (w'.heap[gb308]? = some (.cells #[.int .i64 x309000_1, .int .i64 x309001_1] 24 (0, 0))) ∧ (w'.heap[gb314]? = some (.cells #[.int .i64 t311, .int .i64 t312] 24 (0, 0))) ∧ (w'.heap[gb318]? = some (.cells #[.int .i64 t315, .int .i64 t316] 24 (0, 0))) ∧ (w'.heap[gb322]? = some (.cells #[.int .i64 t319, .int .i64 t320] 24 (0, 0))) ∧ (w'.heap[gb326]? = some (.cells #[.int .i64 t323, .int .i64 t324] 24 (0, 0))) ∧ (w'.heap[gb330]? = some (.cells #[.int .i64 t327, .int .i64 t328] 24 (0, 0))) ∧ (w'.heap[gb334]? = some (.cells #[.int .i64 t331, .int .i64 t332] 24 (0, 0))) ∧ (w'.heap[gb337]? = some (.cells #[.int .i64 t335, .int .i64 t336] 24 (0, 0))) ∧ (w'.heap[gb344]? = some (.cells #[.int .i64 t342, .int .i64 t343] 24 (0, 0))) ∧ (w'.heap[s_]? = some (.cells #[.int .i64 0, .int .i64 0] 24 (0, 0))) ∧ (w.heap.size ≤ s_) ∧ (w.heap.size ≤ s_) ∧ (gb305 ≠ s_) ∧ (s_ ≠ gb305) ∧ (gb306 ≠ s_) ∧ (s_ ≠ gb306) ∧ (gb307 ≠ s_) ∧ (s_ ≠ gb307) ∧ (gb308 ≠ s_) ∧ (s_ ≠ gb308) ∧ (gb314 ≠ s_) ∧ (s_ ≠ gb314) ∧ (gb318 ≠ s_) ∧ (s_ ≠ gb318) ∧ (gb322 ≠ s_) ∧ (s_ ≠ gb322) ∧ (gb326 ≠ s_) ∧ (s_ ≠ gb326) ∧ (gb330 ≠ s_) ∧ (s_ ≠ gb330) ∧ (gb334 ≠ s_) ∧ (s_ ≠ gb334) ∧ (gb337 ≠ s_) ∧ (s_ ≠ gb337) ∧ (gb344 ≠ s_) ∧ (s_ ≠ gb344) ∧ (Below w.heap.size w w')) ?_ ?_
                 rotate_left
                 ·intro hJ14
                  refine two_ (i := 2) (j := 14) (Ni := some 93) (Nj := some 24) #[true, true, true, true, true, false, false, true, true, false, false, false, false, false, false, false, false] #[true, true, false, true, true, false, false, true, true, false, false, false, false, false, true, false, false] rfl rfl rfl rfl (two_of HT_.out (by kernel_rfl)) (by decide) (by decide) (fun K hK => ?_) (fun K hK => ?_)
                  ·skip
                   refine goes_ Try.func57 (by kernel_rfl) rfl #[.agg #[.int .i64 t335, .int .i64 t336], .agg #[.int .i64 t315, .int .i64 t316]] (by rfl) rfl rfl (by (try simp only [List.map_toArray, List.map_cons, List.map_nil]); first | done | rfl | (simp only [List.length_drop, List.length_take]; rfl)) ?_
                   with_reducible refine (sun_Unit.calls kj39 t335 t336 t315 t316 t345 t346 _ A68.out).mono ?_
                   rintro e w165 ⟨rfl, hb⟩
                   refine ⟨_, rfl, ?_⟩
                   replace BK305 := kb_ BK305 hb
                   replace BK306 := kb_ BK306 hb
                   replace BK307 := kb_ BK307 hb
                   replace BK308 := kb_ BK308 hb
                   replace BK314 := kb_ BK314 hb
                   replace BK318 := kb_ BK318 hb
                   replace BK322 := kb_ BK322 hb
                   replace BK326 := kb_ BK326 hb
                   replace BK330 := kb_ BK330 hb
                   replace BK334 := kb_ BK334 hb
                   replace BK337 := kb_ BK337 hb
                   replace BK344 := kb_ BK344 hb
                   replace HB := bs_ HB hb
                   (try clear hb)
                   (try clear hb2)
                   (try clear hk)
                   (try clear hi)
                   refine hK.out _ _ ⟨(blk_cell BK337.out 0).trans rfl, (blk_cell BK337.out 1).trans rfl, (blk_cell BK318.out 0).trans rfl, (blk_cell BK318.out 1).trans rfl, (blk_cell BK330.out 0).trans rfl, (blk_cell BK330.out 1).trans rfl, (blk_cell BK314.out 0).trans rfl, (blk_cell BK314.out 1).trans rfl, (blk_cell BK334.out 0).trans rfl, (blk_cell BK334.out 1).trans rfl, (blk_cell BK326.out 0).trans rfl, (blk_cell BK326.out 1).trans rfl⟩ (fun hHeld => ?_)
                   clear hK K
                   refine norm_ (a' := ?_) ?_ ?_
                   rotate_left
                   ·show Act.put _ (some 93) _ = _
                    simp only [Act.put, List.setIfInBounds_toArray, List.set_cons_zero, List.set_cons_succ, i64_w, i32_w]
                    rfl
                   exact norm_ (by first | (simp only [putAll, Act.put, List.setIfInBounds_toArray, List.set_cons_zero, List.set_cons_succ]; done) | (simp only [putAll, Act.put, List.setIfInBounds_toArray, List.set_cons_zero, List.set_cons_succ]; rfl)) (hJ2 () _ ⟨hHeld, (kk_ BK305), (kk_ BK306), (kk_ BK307), (kk_ BK308), (kk_ BK314), (kk_ BK318), (kk_ BK322), (kk_ BK326), (kk_ BK330), (kk_ BK334), (kk_ BK337), (kk_ BK344), (be_ HB).out⟩)
                  ·skip
                   refine box_step ?hg (N := 24) ?hd (cs := #[.int .i64 0, .int .i64 0]) (t := 24) ?hr ?_; (case hd => rfl); (case hg => rfl); (case hr => first | (go_simp; done) | (go_simp; rfl))
                   intro gb356 hg w165 hbox hb
                   have BK356 := Aside0.mk (hbox)
                   have GW356 := ge_ hg HB
                   have GE356 := ge_ hg HB
                   have NB305_356 := nl_ hg BK305
                   have NB356_305 := ng_ hg BK305
                   have NB306_356 := nl_ hg BK306
                   have NB356_306 := ng_ hg BK306
                   have NB307_356 := nl_ hg BK307
                   have NB356_307 := ng_ hg BK307
                   have NB308_356 := nl_ hg BK308
                   have NB356_308 := ng_ hg BK308
                   have NB314_356 := nl_ hg BK314
                   have NB356_314 := ng_ hg BK314
                   have NB318_356 := nl_ hg BK318
                   have NB356_318 := ng_ hg BK318
                   have NB322_356 := nl_ hg BK322
                   have NB356_322 := ng_ hg BK322
                   have NB326_356 := nl_ hg BK326
                   have NB356_326 := ng_ hg BK326
                   have NB330_356 := nl_ hg BK330
                   have NB356_330 := ng_ hg BK330
                   have NB334_356 := nl_ hg BK334
                   have NB356_334 := ng_ hg BK334
                   have NB337_356 := nl_ hg BK337
                   have NB356_337 := ng_ hg BK337
                   have NB344_356 := nl_ hg BK344
                   have NB356_344 := ng_ hg BK344
                   replace BK305 := kb_ BK305 hb
                   replace BK306 := kb_ BK306 hb
                   replace BK307 := kb_ BK307 hb
                   replace BK308 := kb_ BK308 hb
                   replace BK314 := kb_ BK314 hb
                   replace BK318 := kb_ BK318 hb
                   replace BK322 := kb_ BK322 hb
                   replace BK326 := kb_ BK326 hb
                   replace BK330 := kb_ BK330 hb
                   replace BK334 := kb_ BK334 hb
                   replace BK337 := kb_ BK337 hb
                   replace BK344 := kb_ BK344 hb
                   replace HB := bs_ HB hb
                   clear hb hbox hg
                   refine hK.out _ _ ⟨(blk_cell BK337.out 0).trans rfl, (blk_cell BK337.out 1).trans rfl, (blk_cell BK318.out 0).trans rfl, (blk_cell BK318.out 1).trans rfl, (blk_cell BK330.out 0).trans rfl, (blk_cell BK330.out 1).trans rfl, (blk_cell BK314.out 0).trans rfl, (blk_cell BK314.out 1).trans rfl, (blk_cell BK334.out 0).trans rfl, (blk_cell BK334.out 1).trans rfl, (blk_cell BK326.out 0).trans rfl, (blk_cell BK326.out 1).trans rfl⟩ (fun hHeld => ?_)
                   clear hK K
                   refine norm_ (a' := ?_) ?_ ?_
                   rotate_left
                   ·show Act.put _ (some 24) _ = _
                    simp only [Act.put, List.setIfInBounds_toArray, List.set_cons_zero, List.set_cons_succ, i64_w, i32_w]
                    rfl
                   exact norm_ (by first | (simp only [putAll, Act.put, List.setIfInBounds_toArray, List.set_cons_zero, List.set_cons_succ]; done) | (simp only [putAll, Act.put, List.setIfInBounds_toArray, List.set_cons_zero, List.set_cons_succ]; rfl)) (hJ14 (gb356) _ ⟨hHeld, (kk_ BK305), (kk_ BK306), (kk_ BK307), (kk_ BK308), (kk_ BK314), (kk_ BK318), (kk_ BK322), (kk_ BK326), (kk_ BK330), (kk_ BK334), (kk_ BK337), (kk_ BK344), (kk_ BK356), GW356.out, GE356.out, NB305_356.out, NB356_305.out, NB306_356.out, NB356_306.out, NB307_356.out, NB356_307.out, NB308_356.out, NB356_308.out, NB314_356.out, NB356_314.out, NB318_356.out, NB356_318.out, NB322_356.out, NB356_322.out, NB326_356.out, NB356_326.out, NB330_356.out, NB356_330.out, NB334_356.out, NB356_334.out, NB337_356.out, NB356_337.out, NB344_356.out, NB356_344.out, (be_ HB).out⟩)
                 ·skip
                  rintro gb356 w166 ⟨hS_, h0_, h1_, h2_, h3_, h4_, h5_, h6_, h7_, h8_, h9_, h10_, h11_, h12_, h13_, h14_, h15_, h16_, h17_, h18_, h19_, h20_, h21_, h22_, h23_, h24_, h25_, h26_, h27_, h28_, h29_, h30_, h31_, h32_, h33_, h34_, h35_, h36_, h37_, h38_, h39_⟩
                  have n0_ := Aside0.mk h0_
                  have n1_ := Aside0.mk h1_
                  have n2_ := Aside0.mk h2_
                  have n3_ := Aside0.mk h3_
                  have n4_ := Aside0.mk h4_
                  have n5_ := Aside0.mk h5_
                  have n6_ := Aside0.mk h6_
                  have n7_ := Aside0.mk h7_
                  have n8_ := Aside0.mk h8_
                  have n9_ := Aside0.mk h9_
                  have n10_ := Aside0.mk h10_
                  have n11_ := Aside0.mk h11_
                  have n12_ := Aside0.mk h12_
                  have n13_ := Aside0.mk h13_
                  have n14_ := Aside0.mk h14_
                  have n15_ := Aside0.mk h15_
                  have n16_ := Aside0.mk h16_
                  have n17_ := Aside0.mk h17_
                  have n18_ := Aside0.mk h18_
                  have n19_ := Aside0.mk h19_
                  have n20_ := Aside0.mk h20_
                  have n21_ := Aside0.mk h21_
                  have n22_ := Aside0.mk h22_
                  have n23_ := Aside0.mk h23_
                  have n24_ := Aside0.mk h24_
                  have n25_ := Aside0.mk h25_
                  have n26_ := Aside0.mk h26_
                  have n27_ := Aside0.mk h27_
                  have n28_ := Aside0.mk h28_
                  have n29_ := Aside0.mk h29_
                  have n30_ := Aside0.mk h30_
                  have n31_ := Aside0.mk h31_
                  have n32_ := Aside0.mk h32_
                  have n33_ := Aside0.mk h33_
                  have n34_ := Aside0.mk h34_
                  have n35_ := Aside0.mk h35_
                  have n36_ := Aside0.mk h36_
                  have n37_ := Aside0.mk h37_
                  have n38_ := Aside0.mk h38_
                  have n39_ := Aside0.mk h39_
                  clear BK305
                  clear BK306
                  clear BK307
                  clear BK308
                  clear BK314
                  clear BK318
                  clear BK322
                  clear BK326
                  clear BK330
                  clear BK334
                  clear BK337
                  clear BK344
                  clear HB
                  clear h0_ h1_ h2_ h3_ h4_ h5_ h6_ h7_ h8_ h9_ h10_ h11_ h12_ h13_ h14_ h15_ h16_ h17_ h18_ h19_ h20_ h21_ h22_ h23_ h24_ h25_ h26_ h27_ h28_ h29_ h30_ h31_ h32_ h33_ h34_ h35_ h36_ h37_ h38_ h39_
                  have BK305 := n0_
                  have BK306 := n1_
                  have BK307 := n2_
                  have BK308 := n3_
                  have BK314 := n4_
                  have BK318 := n5_
                  have BK322 := n6_
                  have BK326 := n7_
                  have BK330 := n8_
                  have BK334 := n9_
                  have BK337 := n10_
                  have BK344 := n11_
                  have BK356 := n12_
                  have GW356 := n13_
                  have GE356 := n14_
                  have NB305_356 := n15_
                  have NB356_305 := n16_
                  have NB306_356 := n17_
                  have NB356_306 := n18_
                  have NB307_356 := n19_
                  have NB356_307 := n20_
                  have NB308_356 := n21_
                  have NB356_308 := n22_
                  have NB314_356 := n23_
                  have NB356_314 := n24_
                  have NB318_356 := n25_
                  have NB356_318 := n26_
                  have NB322_356 := n27_
                  have NB356_322 := n28_
                  have NB326_356 := n29_
                  have NB356_326 := n30_
                  have NB330_356 := n31_
                  have NB356_330 := n32_
                  have NB334_356 := n33_
                  have NB356_334 := n34_
                  have NB337_356 := n35_
                  have NB356_337 := n36_
                  have NB344_356 := n37_
                  have NB356_344 := n38_
                  have HB := n39_
                  clear n0_ n1_ n2_ n3_ n4_ n5_ n6_ n7_ n8_ n9_ n10_ n11_ n12_ n13_ n14_ n15_ n16_ n17_ n18_ n19_ n20_ n21_ n22_ n23_ n24_ n25_ n26_ n27_ n28_ n29_ n30_ n31_ n32_ n33_ n34_ n35_ n36_ n37_ n38_ n39_
                  have hHeld : w166.cell? ⟨gb337, 0, none⟩ = some (.int .i64 t335) ∧ w166.cell? ⟨gb337, 1, none⟩ = some (.int .i64 t336) ∧ w166.cell? ⟨gb318, 0, none⟩ = some (.int .i64 t315) ∧ w166.cell? ⟨gb318, 1, none⟩ = some (.int .i64 t316) ∧ w166.cell? ⟨gb330, 0, none⟩ = some (.int .i64 t327) ∧ w166.cell? ⟨gb330, 1, none⟩ = some (.int .i64 t328) ∧ w166.cell? ⟨gb314, 0, none⟩ = some (.int .i64 t311) ∧ w166.cell? ⟨gb314, 1, none⟩ = some (.int .i64 t312) ∧ w166.cell? ⟨gb334, 0, none⟩ = some (.int .i64 t331) ∧ w166.cell? ⟨gb334, 1, none⟩ = some (.int .i64 t332) ∧ w166.cell? ⟨gb326, 0, none⟩ = some (.int .i64 t323) ∧ w166.cell? ⟨gb326, 1, none⟩ = some (.int .i64 t324) := hS_
                  refine norm_ (a' := ?_) ?_ ?_
                  rotate_left
                  ·simp only [putAll, Act.put, List.setIfInBounds_toArray, List.set_cons_zero, List.set_cons_succ]
                   rfl
                  refine one_ (i := 2) (N := some 93) #[true, true, true, true, true, false, false, true, true, false, false, false, false, false, true, false, false] rfl rfl (one_of HT_.out (by kernel_rfl)) (by decide) (fun K hK => ?_)
                  refine goes_ Try.func57 (by kernel_rfl) rfl #[.agg #[.int .i64 t335, .int .i64 t336], .agg #[.int .i64 t315, .int .i64 t316]] (by rfl) rfl rfl (by (try simp only [List.map_toArray, List.map_cons, List.map_nil]); first | done | rfl | (simp only [List.length_drop, List.length_take]; rfl)) ?_
                  with_reducible refine (sun_Unit.calls kj39 t335 t336 t315 t316 t345 t346 _ A68.out).mono ?_
                  rintro e w167 ⟨rfl, hb⟩
                  refine ⟨_, rfl, ?_⟩
                  replace BK305 := kb_ BK305 hb
                  replace BK306 := kb_ BK306 hb
                  replace BK307 := kb_ BK307 hb
                  replace BK308 := kb_ BK308 hb
                  replace BK314 := kb_ BK314 hb
                  replace BK318 := kb_ BK318 hb
                  replace BK322 := kb_ BK322 hb
                  replace BK326 := kb_ BK326 hb
                  replace BK330 := kb_ BK330 hb
                  replace BK334 := kb_ BK334 hb
                  replace BK337 := kb_ BK337 hb
                  replace BK344 := kb_ BK344 hb
                  replace BK356 := kb_ BK356 hb
                  replace HB := bs_ HB hb
                  (try clear hb)
                  (try clear hb2)
                  (try clear hk)
                  (try clear hi)
                  refine hK.out _ _ ⟨(blk_cell BK337.out 0).trans rfl, (blk_cell BK337.out 1).trans rfl, (blk_cell BK318.out 0).trans rfl, (blk_cell BK318.out 1).trans rfl, (blk_cell BK330.out 0).trans rfl, (blk_cell BK330.out 1).trans rfl, (blk_cell BK314.out 0).trans rfl, (blk_cell BK314.out 1).trans rfl, (blk_cell BK334.out 0).trans rfl, (blk_cell BK334.out 1).trans rfl, (blk_cell BK326.out 0).trans rfl, (blk_cell BK326.out 1).trans rfl⟩ (fun hHeld => ?_)
                  clear hK K
                  refine norm_ (a' := ?_) ?_ ?_
                  rotate_left
                  ·show Act.put _ (some 93) _ = _
                   simp only [Act.put, List.setIfInBounds_toArray, List.set_cons_zero, List.set_cons_succ, i64_w, i32_w]
                   rfl
                  exact norm_ (by first | (simp only [putAll, Act.put, List.setIfInBounds_toArray, List.set_cons_zero, List.set_cons_succ]; done) | (simp only [putAll, Act.put, List.setIfInBounds_toArray, List.set_cons_zero, List.set_cons_succ]; rfl)) (hJ2_14 (gb356) _ ⟨hHeld, (kk_ BK305), (kk_ BK306), (kk_ BK307), (kk_ BK308), (kk_ BK314), (kk_ BK318), (kk_ BK322), (kk_ BK326), (kk_ BK330), (kk_ BK334), (kk_ BK337), (kk_ BK344), (kk_ BK356), GW356.out, GE356.out, NB305_356.out, NB356_305.out, NB306_356.out, NB356_306.out, NB307_356.out, NB356_307.out, NB308_356.out, NB356_308.out, NB314_356.out, NB356_314.out, NB318_356.out, NB356_318.out, NB322_356.out, NB356_322.out, NB326_356.out, NB356_326.out, NB330_356.out, NB356_330.out, NB334_356.out, NB356_334.out, NB337_356.out, NB356_337.out, NB344_356.out, NB356_344.out, (be_ HB).out⟩)
                ·skip
                 rintro _ w166 ⟨hS_, h0_, h1_, h2_, h3_, h4_, h5_, h6_, h7_, h8_, h9_, h10_, h11_, h12_⟩
                 have n0_ := Aside0.mk h0_
                 have n1_ := Aside0.mk h1_
                 have n2_ := Aside0.mk h2_
                 have n3_ := Aside0.mk h3_
                 have n4_ := Aside0.mk h4_
                 have n5_ := Aside0.mk h5_
                 have n6_ := Aside0.mk h6_
                 have n7_ := Aside0.mk h7_
                 have n8_ := Aside0.mk h8_
                 have n9_ := Aside0.mk h9_
                 have n10_ := Aside0.mk h10_
                 have n11_ := Aside0.mk h11_
                 have n12_ := Aside0.mk h12_
                 clear BK305
                 clear BK306
                 clear BK307
                 clear BK308
                 clear BK314
                 clear BK318
                 clear BK322
                 clear BK326
                 clear BK330
                 clear BK334
                 clear BK337
                 clear BK344
                 clear HB
                 clear h0_ h1_ h2_ h3_ h4_ h5_ h6_ h7_ h8_ h9_ h10_ h11_ h12_
                 have BK305 := n0_
                 have BK306 := n1_
                 have BK307 := n2_
                 have BK308 := n3_
                 have BK314 := n4_
                 have BK318 := n5_
                 have BK322 := n6_
                 have BK326 := n7_
                 have BK330 := n8_
                 have BK334 := n9_
                 have BK337 := n10_
                 have BK344 := n11_
                 have HB := n12_
                 clear n0_ n1_ n2_ n3_ n4_ n5_ n6_ n7_ n8_ n9_ n10_ n11_ n12_
                 have hHeld : w166.cell? ⟨gb337, 0, none⟩ = some (.int .i64 t335) ∧ w166.cell? ⟨gb337, 1, none⟩ = some (.int .i64 t336) ∧ w166.cell? ⟨gb318, 0, none⟩ = some (.int .i64 t315) ∧ w166.cell? ⟨gb318, 1, none⟩ = some (.int .i64 t316) ∧ w166.cell? ⟨gb330, 0, none⟩ = some (.int .i64 t327) ∧ w166.cell? ⟨gb330, 1, none⟩ = some (.int .i64 t328) ∧ w166.cell? ⟨gb314, 0, none⟩ = some (.int .i64 t311) ∧ w166.cell? ⟨gb314, 1, none⟩ = some (.int .i64 t312) ∧ w166.cell? ⟨gb334, 0, none⟩ = some (.int .i64 t331) ∧ w166.cell? ⟨gb334, 1, none⟩ = some (.int .i64 t332) ∧ w166.cell? ⟨gb326, 0, none⟩ = some (.int .i64 t323) ∧ w166.cell? ⟨gb326, 1, none⟩ = some (.int .i64 t324) := hS_
                 refine norm_ (a' := ?_) ?_ ?_
                 rotate_left
                 ·simp only [putAll, Act.put, List.setIfInBounds_toArray, List.set_cons_zero, List.set_cons_succ]
                  rfl
                 refine two_ (i := 5) (j := 14) (Ni := some 96) (Nj := some 24) #[true, true, true, true, true, true, false, true, true, false, false, false, false, false, false, false, false] #[true, true, true, true, true, false, false, true, true, false, false, false, false, false, true, false, false] rfl rfl rfl rfl (two_of HT_.out (by kernel_rfl)) (by decide) (by decide) (fun K hK => ?_) (fun K hK => ?_)
                 ·skip
                  refine goes_ Try.func57 (by kernel_rfl) rfl #[.agg #[.int .i64 t327, .int .i64 t328], .agg #[.int .i64 t311, .int .i64 t312]] (by rfl) rfl rfl (by (try simp only [List.map_toArray, List.map_cons, List.map_nil]); first | done | rfl | (simp only [List.length_drop, List.length_take]; rfl)) ?_
                  with_reducible refine (sun_Unit.calls kj39 t327 t328 t311 t312 t347 t348 _ A69.out).mono ?_
                  rintro e w167 ⟨rfl, hb⟩
                  refine ⟨_, rfl, ?_⟩
                  replace BK305 := kb_ BK305 hb
                  replace BK306 := kb_ BK306 hb
                  replace BK307 := kb_ BK307 hb
                  replace BK308 := kb_ BK308 hb
                  replace BK314 := kb_ BK314 hb
                  replace BK318 := kb_ BK318 hb
                  replace BK322 := kb_ BK322 hb
                  replace BK326 := kb_ BK326 hb
                  replace BK330 := kb_ BK330 hb
                  replace BK334 := kb_ BK334 hb
                  replace BK337 := kb_ BK337 hb
                  replace BK344 := kb_ BK344 hb
                  replace HB := bs_ HB hb
                  (try clear hb)
                  (try clear hb2)
                  (try clear hk)
                  (try clear hi)
                  refine hK.out _ _ ⟨(blk_cell BK337.out 0).trans rfl, (blk_cell BK337.out 1).trans rfl, (blk_cell BK318.out 0).trans rfl, (blk_cell BK318.out 1).trans rfl, (blk_cell BK330.out 0).trans rfl, (blk_cell BK330.out 1).trans rfl, (blk_cell BK314.out 0).trans rfl, (blk_cell BK314.out 1).trans rfl, (blk_cell BK334.out 0).trans rfl, (blk_cell BK334.out 1).trans rfl, (blk_cell BK326.out 0).trans rfl, (blk_cell BK326.out 1).trans rfl⟩ (fun hHeld => ?_)
                  clear hK K
                  refine norm_ (a' := ?_) ?_ ?_
                  rotate_left
                  ·show Act.put _ (some 96) _ = _
                   simp only [Act.put, List.setIfInBounds_toArray, List.set_cons_zero, List.set_cons_succ, i64_w, i32_w]
                   rfl
                  exact norm_ (by first | (simp only [putAll, Act.put, List.setIfInBounds_toArray, List.set_cons_zero, List.set_cons_succ]; done) | (simp only [putAll, Act.put, List.setIfInBounds_toArray, List.set_cons_zero, List.set_cons_succ]; rfl)) (hJ2_5 () _ ⟨hHeld, (kk_ BK305), (kk_ BK306), (kk_ BK307), (kk_ BK308), (kk_ BK314), (kk_ BK318), (kk_ BK322), (kk_ BK326), (kk_ BK330), (kk_ BK334), (kk_ BK337), (kk_ BK344), (be_ HB).out⟩)
                 ·skip
                  refine box_step ?hg (N := 24) ?hd (cs := #[.int .i64 0, .int .i64 0]) (t := 24) ?hr ?_; (case hd => rfl); (case hg => rfl); (case hr => first | (go_simp; done) | (go_simp; rfl))
                  intro gb356 hg w167 hbox hb
                  have BK356 := Aside0.mk (hbox)
                  have GW356 := ge_ hg HB
                  have GE356 := ge_ hg HB
                  have NB305_356 := nl_ hg BK305
                  have NB356_305 := ng_ hg BK305
                  have NB306_356 := nl_ hg BK306
                  have NB356_306 := ng_ hg BK306
                  have NB307_356 := nl_ hg BK307
                  have NB356_307 := ng_ hg BK307
                  have NB308_356 := nl_ hg BK308
                  have NB356_308 := ng_ hg BK308
                  have NB314_356 := nl_ hg BK314
                  have NB356_314 := ng_ hg BK314
                  have NB318_356 := nl_ hg BK318
                  have NB356_318 := ng_ hg BK318
                  have NB322_356 := nl_ hg BK322
                  have NB356_322 := ng_ hg BK322
                  have NB326_356 := nl_ hg BK326
                  have NB356_326 := ng_ hg BK326
                  have NB330_356 := nl_ hg BK330
                  have NB356_330 := ng_ hg BK330
                  have NB334_356 := nl_ hg BK334
                  have NB356_334 := ng_ hg BK334
                  have NB337_356 := nl_ hg BK337
                  have NB356_337 := ng_ hg BK337
                  have NB344_356 := nl_ hg BK344
                  have NB356_344 := ng_ hg BK344
                  replace BK305 := kb_ BK305 hb
                  replace BK306 := kb_ BK306 hb
                  replace BK307 := kb_ BK307 hb
                  replace BK308 := kb_ BK308 hb
                  replace BK314 := kb_ BK314 hb
                  replace BK318 := kb_ BK318 hb
                  replace BK322 := kb_ BK322 hb
                  replace BK326 := kb_ BK326 hb
                  replace BK330 := kb_ BK330 hb
                  replace BK334 := kb_ BK334 hb
                  replace BK337 := kb_ BK337 hb
                  replace BK344 := kb_ BK344 hb
                  replace HB := bs_ HB hb
                  clear hb hbox hg
                  refine hK.out _ _ ⟨(blk_cell BK337.out 0).trans rfl, (blk_cell BK337.out 1).trans rfl, (blk_cell BK318.out 0).trans rfl, (blk_cell BK318.out 1).trans rfl, (blk_cell BK330.out 0).trans rfl, (blk_cell BK330.out 1).trans rfl, (blk_cell BK314.out 0).trans rfl, (blk_cell BK314.out 1).trans rfl, (blk_cell BK334.out 0).trans rfl, (blk_cell BK334.out 1).trans rfl, (blk_cell BK326.out 0).trans rfl, (blk_cell BK326.out 1).trans rfl⟩ (fun hHeld => ?_)
                  clear hK K
                  refine norm_ (a' := ?_) ?_ ?_
                  rotate_left
                  ·show Act.put _ (some 24) _ = _
                   simp only [Act.put, List.setIfInBounds_toArray, List.set_cons_zero, List.set_cons_succ, i64_w, i32_w]
                   rfl
                  exact norm_ (by first | (simp only [putAll, Act.put, List.setIfInBounds_toArray, List.set_cons_zero, List.set_cons_succ]; done) | (simp only [putAll, Act.put, List.setIfInBounds_toArray, List.set_cons_zero, List.set_cons_succ]; rfl)) (hJ2_14 (gb356) _ ⟨hHeld, (kk_ BK305), (kk_ BK306), (kk_ BK307), (kk_ BK308), (kk_ BK314), (kk_ BK318), (kk_ BK322), (kk_ BK326), (kk_ BK330), (kk_ BK334), (kk_ BK337), (kk_ BK344), (kk_ BK356), GW356.out, GE356.out, NB305_356.out, NB356_305.out, NB306_356.out, NB356_306.out, NB307_356.out, NB356_307.out, NB308_356.out, NB356_308.out, NB314_356.out, NB356_314.out, NB318_356.out, NB356_318.out, NB322_356.out, NB356_322.out, NB326_356.out, NB356_326.out, NB330_356.out, NB356_330.out, NB334_356.out, NB356_334.out, NB337_356.out, NB356_337.out, NB344_356.out, NB356_344.out, (be_ HB).out⟩)
               ·skip
                rintro gb356 w167 ⟨hS_, h0_, h1_, h2_, h3_, h4_, h5_, h6_, h7_, h8_, h9_, h10_, h11_, h12_, h13_, h14_, h15_, h16_, h17_, h18_, h19_, h20_, h21_, h22_, h23_, h24_, h25_, h26_, h27_, h28_, h29_, h30_, h31_, h32_, h33_, h34_, h35_, h36_, h37_, h38_, h39_⟩
                have n0_ := Aside0.mk h0_
                have n1_ := Aside0.mk h1_
                have n2_ := Aside0.mk h2_
                have n3_ := Aside0.mk h3_
                have n4_ := Aside0.mk h4_
                have n5_ := Aside0.mk h5_
                have n6_ := Aside0.mk h6_
                have n7_ := Aside0.mk h7_
                have n8_ := Aside0.mk h8_
                have n9_ := Aside0.mk h9_
                have n10_ := Aside0.mk h10_
                have n11_ := Aside0.mk h11_
                have n12_ := Aside0.mk h12_
                have n13_ := Aside0.mk h13_
                have n14_ := Aside0.mk h14_
                have n15_ := Aside0.mk h15_
                have n16_ := Aside0.mk h16_
                have n17_ := Aside0.mk h17_
                have n18_ := Aside0.mk h18_
                have n19_ := Aside0.mk h19_
                have n20_ := Aside0.mk h20_
                have n21_ := Aside0.mk h21_
                have n22_ := Aside0.mk h22_
                have n23_ := Aside0.mk h23_
                have n24_ := Aside0.mk h24_
                have n25_ := Aside0.mk h25_
                have n26_ := Aside0.mk h26_
                have n27_ := Aside0.mk h27_
                have n28_ := Aside0.mk h28_
                have n29_ := Aside0.mk h29_
                have n30_ := Aside0.mk h30_
                have n31_ := Aside0.mk h31_
                have n32_ := Aside0.mk h32_
                have n33_ := Aside0.mk h33_
                have n34_ := Aside0.mk h34_
                have n35_ := Aside0.mk h35_
                have n36_ := Aside0.mk h36_
                have n37_ := Aside0.mk h37_
                have n38_ := Aside0.mk h38_
                have n39_ := Aside0.mk h39_
                clear BK305
                clear BK306
                clear BK307
                clear BK308
                clear BK314
                clear BK318
                clear BK322
                clear BK326
                clear BK330
                clear BK334
                clear BK337
                clear BK344
                clear HB
                clear h0_ h1_ h2_ h3_ h4_ h5_ h6_ h7_ h8_ h9_ h10_ h11_ h12_ h13_ h14_ h15_ h16_ h17_ h18_ h19_ h20_ h21_ h22_ h23_ h24_ h25_ h26_ h27_ h28_ h29_ h30_ h31_ h32_ h33_ h34_ h35_ h36_ h37_ h38_ h39_
                have BK305 := n0_
                have BK306 := n1_
                have BK307 := n2_
                have BK308 := n3_
                have BK314 := n4_
                have BK318 := n5_
                have BK322 := n6_
                have BK326 := n7_
                have BK330 := n8_
                have BK334 := n9_
                have BK337 := n10_
                have BK344 := n11_
                have BK356 := n12_
                have GW356 := n13_
                have GE356 := n14_
                have NB305_356 := n15_
                have NB356_305 := n16_
                have NB306_356 := n17_
                have NB356_306 := n18_
                have NB307_356 := n19_
                have NB356_307 := n20_
                have NB308_356 := n21_
                have NB356_308 := n22_
                have NB314_356 := n23_
                have NB356_314 := n24_
                have NB318_356 := n25_
                have NB356_318 := n26_
                have NB322_356 := n27_
                have NB356_322 := n28_
                have NB326_356 := n29_
                have NB356_326 := n30_
                have NB330_356 := n31_
                have NB356_330 := n32_
                have NB334_356 := n33_
                have NB356_334 := n34_
                have NB337_356 := n35_
                have NB356_337 := n36_
                have NB344_356 := n37_
                have NB356_344 := n38_
                have HB := n39_
                clear n0_ n1_ n2_ n3_ n4_ n5_ n6_ n7_ n8_ n9_ n10_ n11_ n12_ n13_ n14_ n15_ n16_ n17_ n18_ n19_ n20_ n21_ n22_ n23_ n24_ n25_ n26_ n27_ n28_ n29_ n30_ n31_ n32_ n33_ n34_ n35_ n36_ n37_ n38_ n39_
                have hHeld : w167.cell? ⟨gb337, 0, none⟩ = some (.int .i64 t335) ∧ w167.cell? ⟨gb337, 1, none⟩ = some (.int .i64 t336) ∧ w167.cell? ⟨gb318, 0, none⟩ = some (.int .i64 t315) ∧ w167.cell? ⟨gb318, 1, none⟩ = some (.int .i64 t316) ∧ w167.cell? ⟨gb330, 0, none⟩ = some (.int .i64 t327) ∧ w167.cell? ⟨gb330, 1, none⟩ = some (.int .i64 t328) ∧ w167.cell? ⟨gb314, 0, none⟩ = some (.int .i64 t311) ∧ w167.cell? ⟨gb314, 1, none⟩ = some (.int .i64 t312) ∧ w167.cell? ⟨gb334, 0, none⟩ = some (.int .i64 t331) ∧ w167.cell? ⟨gb334, 1, none⟩ = some (.int .i64 t332) ∧ w167.cell? ⟨gb326, 0, none⟩ = some (.int .i64 t323) ∧ w167.cell? ⟨gb326, 1, none⟩ = some (.int .i64 t324) := hS_
                refine norm_ (a' := ?_) ?_ ?_
                rotate_left
                ·simp only [putAll, Act.put, List.setIfInBounds_toArray, List.set_cons_zero, List.set_cons_succ]
                 rfl
                refine one_ (i := 5) (N := some 96) #[true, true, true, true, true, true, false, true, true, false, false, false, false, false, true, false, false] rfl rfl (one_of HT_.out (by kernel_rfl)) (by decide) (fun K hK => ?_)
                refine goes_ Try.func57 (by kernel_rfl) rfl #[.agg #[.int .i64 t327, .int .i64 t328], .agg #[.int .i64 t311, .int .i64 t312]] (by rfl) rfl rfl (by (try simp only [List.map_toArray, List.map_cons, List.map_nil]); first | done | rfl | (simp only [List.length_drop, List.length_take]; rfl)) ?_
                with_reducible refine (sun_Unit.calls kj39 t327 t328 t311 t312 t347 t348 _ A69.out).mono ?_
                rintro e w168 ⟨rfl, hb⟩
                refine ⟨_, rfl, ?_⟩
                replace BK305 := kb_ BK305 hb
                replace BK306 := kb_ BK306 hb
                replace BK307 := kb_ BK307 hb
                replace BK308 := kb_ BK308 hb
                replace BK314 := kb_ BK314 hb
                replace BK318 := kb_ BK318 hb
                replace BK322 := kb_ BK322 hb
                replace BK326 := kb_ BK326 hb
                replace BK330 := kb_ BK330 hb
                replace BK334 := kb_ BK334 hb
                replace BK337 := kb_ BK337 hb
                replace BK344 := kb_ BK344 hb
                replace BK356 := kb_ BK356 hb
                replace HB := bs_ HB hb
                (try clear hb)
                (try clear hb2)
                (try clear hk)
                (try clear hi)
                refine hK.out _ _ ⟨(blk_cell BK337.out 0).trans rfl, (blk_cell BK337.out 1).trans rfl, (blk_cell BK318.out 0).trans rfl, (blk_cell BK318.out 1).trans rfl, (blk_cell BK330.out 0).trans rfl, (blk_cell BK330.out 1).trans rfl, (blk_cell BK314.out 0).trans rfl, (blk_cell BK314.out 1).trans rfl, (blk_cell BK334.out 0).trans rfl, (blk_cell BK334.out 1).trans rfl, (blk_cell BK326.out 0).trans rfl, (blk_cell BK326.out 1).trans rfl⟩ (fun hHeld => ?_)
                clear hK K
                refine norm_ (a' := ?_) ?_ ?_
                rotate_left
                ·show Act.put _ (some 96) _ = _
                 simp only [Act.put, List.setIfInBounds_toArray, List.set_cons_zero, List.set_cons_succ, i64_w, i32_w]
                 rfl
                exact norm_ (by first | (simp only [putAll, Act.put, List.setIfInBounds_toArray, List.set_cons_zero, List.set_cons_succ]; done) | (simp only [putAll, Act.put, List.setIfInBounds_toArray, List.set_cons_zero, List.set_cons_succ]; rfl)) (hJ2_5_14 (gb356) _ ⟨hHeld, (kk_ BK305), (kk_ BK306), (kk_ BK307), (kk_ BK308), (kk_ BK314), (kk_ BK318), (kk_ BK322), (kk_ BK326), (kk_ BK330), (kk_ BK334), (kk_ BK337), (kk_ BK344), (kk_ BK356), GW356.out, GE356.out, NB305_356.out, NB356_305.out, NB306_356.out, NB356_306.out, NB307_356.out, NB356_307.out, NB308_356.out, NB356_308.out, NB314_356.out, NB356_314.out, NB318_356.out, NB356_318.out, NB322_356.out, NB356_322.out, NB326_356.out, NB356_326.out, NB330_356.out, NB356_330.out, NB334_356.out, NB356_334.out, NB337_356.out, NB356_337.out, NB344_356.out, NB356_344.out, (be_ HB).out⟩)
              ·skip
               rintro _ w167 ⟨hS_, h0_, h1_, h2_, h3_, h4_, h5_, h6_, h7_, h8_, h9_, h10_, h11_, h12_⟩
               have n0_ := Aside0.mk h0_
               have n1_ := Aside0.mk h1_
               have n2_ := Aside0.mk h2_
               have n3_ := Aside0.mk h3_
               have n4_ := Aside0.mk h4_
               have n5_ := Aside0.mk h5_
               have n6_ := Aside0.mk h6_
               have n7_ := Aside0.mk h7_
               have n8_ := Aside0.mk h8_
               have n9_ := Aside0.mk h9_
               have n10_ := Aside0.mk h10_
               have n11_ := Aside0.mk h11_
               have n12_ := Aside0.mk h12_
               clear BK305
               clear BK306
               clear BK307
               clear BK308
               clear BK314
               clear BK318
               clear BK322
               clear BK326
               clear BK330
               clear BK334
               clear BK337
               clear BK344
               clear HB
               clear h0_ h1_ h2_ h3_ h4_ h5_ h6_ h7_ h8_ h9_ h10_ h11_ h12_
               have BK305 := n0_
               have BK306 := n1_
               have BK307 := n2_
               have BK308 := n3_
               have BK314 := n4_
               have BK318 := n5_
               have BK322 := n6_
               have BK326 := n7_
               have BK330 := n8_
               have BK334 := n9_
               have BK337 := n10_
               have BK344 := n11_
               have HB := n12_
               clear n0_ n1_ n2_ n3_ n4_ n5_ n6_ n7_ n8_ n9_ n10_ n11_ n12_
               have hHeld : w167.cell? ⟨gb337, 0, none⟩ = some (.int .i64 t335) ∧ w167.cell? ⟨gb337, 1, none⟩ = some (.int .i64 t336) ∧ w167.cell? ⟨gb318, 0, none⟩ = some (.int .i64 t315) ∧ w167.cell? ⟨gb318, 1, none⟩ = some (.int .i64 t316) ∧ w167.cell? ⟨gb330, 0, none⟩ = some (.int .i64 t327) ∧ w167.cell? ⟨gb330, 1, none⟩ = some (.int .i64 t328) ∧ w167.cell? ⟨gb314, 0, none⟩ = some (.int .i64 t311) ∧ w167.cell? ⟨gb314, 1, none⟩ = some (.int .i64 t312) ∧ w167.cell? ⟨gb334, 0, none⟩ = some (.int .i64 t331) ∧ w167.cell? ⟨gb334, 1, none⟩ = some (.int .i64 t332) ∧ w167.cell? ⟨gb326, 0, none⟩ = some (.int .i64 t323) ∧ w167.cell? ⟨gb326, 1, none⟩ = some (.int .i64 t324) := hS_
               refine norm_ (a' := ?_) ?_ ?_
               rotate_left
               ·simp only [putAll, Act.put, List.setIfInBounds_toArray, List.set_cons_zero, List.set_cons_succ]
                rfl
               refine two_ (i := 6) (j := 14) (Ni := some 97) (Nj := some 24) #[true, true, true, true, true, true, true, true, true, false, false, false, false, false, false, false, false] #[true, true, true, true, true, true, false, true, true, false, false, false, false, false, true, false, false] rfl rfl rfl rfl (two_of HT_.out (by kernel_rfl)) (by decide) (by decide) (fun K hK => ?_) (fun K hK => ?_)
               ·skip
                refine goes_ Try.func60 (by kernel_rfl) rfl #[.agg #[.int .i64 t345, .int .i64 t346], .agg #[.int .i64 t347, .int .i64 t348]] (by rfl) rfl rfl (by (try simp only [List.map_toArray, List.map_cons, List.map_nil]); first | done | rfl | (simp only [List.length_drop, List.length_take]; rfl)) ?_
                with_reducible refine (sun_less.calls t345 t346 t347 t348 t349 t350 _ A70.out).mono ?_
                rintro e w168 ⟨rfl, hb⟩
                refine ⟨_, rfl, ?_⟩
                replace BK305 := kb_ BK305 hb
                replace BK306 := kb_ BK306 hb
                replace BK307 := kb_ BK307 hb
                replace BK308 := kb_ BK308 hb
                replace BK314 := kb_ BK314 hb
                replace BK318 := kb_ BK318 hb
                replace BK322 := kb_ BK322 hb
                replace BK326 := kb_ BK326 hb
                replace BK330 := kb_ BK330 hb
                replace BK334 := kb_ BK334 hb
                replace BK337 := kb_ BK337 hb
                replace BK344 := kb_ BK344 hb
                replace HB := bs_ HB hb
                (try clear hb)
                (try clear hb2)
                (try clear hk)
                (try clear hi)
                refine hK.out _ _ ⟨(blk_cell BK337.out 0).trans rfl, (blk_cell BK337.out 1).trans rfl, (blk_cell BK318.out 0).trans rfl, (blk_cell BK318.out 1).trans rfl, (blk_cell BK330.out 0).trans rfl, (blk_cell BK330.out 1).trans rfl, (blk_cell BK314.out 0).trans rfl, (blk_cell BK314.out 1).trans rfl, (blk_cell BK334.out 0).trans rfl, (blk_cell BK334.out 1).trans rfl, (blk_cell BK326.out 0).trans rfl, (blk_cell BK326.out 1).trans rfl⟩ (fun hHeld => ?_)
                clear hK K
                refine norm_ (a' := ?_) ?_ ?_
                rotate_left
                ·show Act.put _ (some 97) _ = _
                 simp only [Act.put, List.setIfInBounds_toArray, List.set_cons_zero, List.set_cons_succ, i64_w, i32_w]
                 rfl
                exact norm_ (by first | (simp only [putAll, Act.put, List.setIfInBounds_toArray, List.set_cons_zero, List.set_cons_succ]; done) | (simp only [putAll, Act.put, List.setIfInBounds_toArray, List.set_cons_zero, List.set_cons_succ]; rfl)) (hJ2_5_6 () _ ⟨hHeld, (kk_ BK305), (kk_ BK306), (kk_ BK307), (kk_ BK308), (kk_ BK314), (kk_ BK318), (kk_ BK322), (kk_ BK326), (kk_ BK330), (kk_ BK334), (kk_ BK337), (kk_ BK344), (be_ HB).out⟩)
               ·skip
                refine box_step ?hg (N := 24) ?hd (cs := #[.int .i64 0, .int .i64 0]) (t := 24) ?hr ?_; (case hd => rfl); (case hg => rfl); (case hr => first | (go_simp; done) | (go_simp; rfl))
                intro gb356 hg w168 hbox hb
                have BK356 := Aside0.mk (hbox)
                have GW356 := ge_ hg HB
                have GE356 := ge_ hg HB
                have NB305_356 := nl_ hg BK305
                have NB356_305 := ng_ hg BK305
                have NB306_356 := nl_ hg BK306
                have NB356_306 := ng_ hg BK306
                have NB307_356 := nl_ hg BK307
                have NB356_307 := ng_ hg BK307
                have NB308_356 := nl_ hg BK308
                have NB356_308 := ng_ hg BK308
                have NB314_356 := nl_ hg BK314
                have NB356_314 := ng_ hg BK314
                have NB318_356 := nl_ hg BK318
                have NB356_318 := ng_ hg BK318
                have NB322_356 := nl_ hg BK322
                have NB356_322 := ng_ hg BK322
                have NB326_356 := nl_ hg BK326
                have NB356_326 := ng_ hg BK326
                have NB330_356 := nl_ hg BK330
                have NB356_330 := ng_ hg BK330
                have NB334_356 := nl_ hg BK334
                have NB356_334 := ng_ hg BK334
                have NB337_356 := nl_ hg BK337
                have NB356_337 := ng_ hg BK337
                have NB344_356 := nl_ hg BK344
                have NB356_344 := ng_ hg BK344
                replace BK305 := kb_ BK305 hb
                replace BK306 := kb_ BK306 hb
                replace BK307 := kb_ BK307 hb
                replace BK308 := kb_ BK308 hb
                replace BK314 := kb_ BK314 hb
                replace BK318 := kb_ BK318 hb
                replace BK322 := kb_ BK322 hb
                replace BK326 := kb_ BK326 hb
                replace BK330 := kb_ BK330 hb
                replace BK334 := kb_ BK334 hb
                replace BK337 := kb_ BK337 hb
                replace BK344 := kb_ BK344 hb
                replace HB := bs_ HB hb
                clear hb hbox hg
                refine hK.out _ _ ⟨(blk_cell BK337.out 0).trans rfl, (blk_cell BK337.out 1).trans rfl, (blk_cell BK318.out 0).trans rfl, (blk_cell BK318.out 1).trans rfl, (blk_cell BK330.out 0).trans rfl, (blk_cell BK330.out 1).trans rfl, (blk_cell BK314.out 0).trans rfl, (blk_cell BK314.out 1).trans rfl, (blk_cell BK334.out 0).trans rfl, (blk_cell BK334.out 1).trans rfl, (blk_cell BK326.out 0).trans rfl, (blk_cell BK326.out 1).trans rfl⟩ (fun hHeld => ?_)
                clear hK K
                refine norm_ (a' := ?_) ?_ ?_
                rotate_left
                ·show Act.put _ (some 24) _ = _
                 simp only [Act.put, List.setIfInBounds_toArray, List.set_cons_zero, List.set_cons_succ, i64_w, i32_w]
                 rfl
                exact norm_ (by first | (simp only [putAll, Act.put, List.setIfInBounds_toArray, List.set_cons_zero, List.set_cons_succ]; done) | (simp only [putAll, Act.put, List.setIfInBounds_toArray, List.set_cons_zero, List.set_cons_succ]; rfl)) (hJ2_5_14 (gb356) _ ⟨hHeld, (kk_ BK305), (kk_ BK306), (kk_ BK307), (kk_ BK308), (kk_ BK314), (kk_ BK318), (kk_ BK322), (kk_ BK326), (kk_ BK330), (kk_ BK334), (kk_ BK337), (kk_ BK344), (kk_ BK356), GW356.out, GE356.out, NB305_356.out, NB356_305.out, NB306_356.out, NB356_306.out, NB307_356.out, NB356_307.out, NB308_356.out, NB356_308.out, NB314_356.out, NB356_314.out, NB318_356.out, NB356_318.out, NB322_356.out, NB356_322.out, NB326_356.out, NB356_326.out, NB330_356.out, NB356_330.out, NB334_356.out, NB356_334.out, NB337_356.out, NB356_337.out, NB344_356.out, NB356_344.out, (be_ HB).out⟩)
             ·skip
              rintro gb356 w168 ⟨hS_, h0_, h1_, h2_, h3_, h4_, h5_, h6_, h7_, h8_, h9_, h10_, h11_, h12_, h13_, h14_, h15_, h16_, h17_, h18_, h19_, h20_, h21_, h22_, h23_, h24_, h25_, h26_, h27_, h28_, h29_, h30_, h31_, h32_, h33_, h34_, h35_, h36_, h37_, h38_, h39_⟩
              have n0_ := Aside0.mk h0_
              have n1_ := Aside0.mk h1_
              have n2_ := Aside0.mk h2_
              have n3_ := Aside0.mk h3_
              have n4_ := Aside0.mk h4_
              have n5_ := Aside0.mk h5_
              have n6_ := Aside0.mk h6_
              have n7_ := Aside0.mk h7_
              have n8_ := Aside0.mk h8_
              have n9_ := Aside0.mk h9_
              have n10_ := Aside0.mk h10_
              have n11_ := Aside0.mk h11_
              have n12_ := Aside0.mk h12_
              have n13_ := Aside0.mk h13_
              have n14_ := Aside0.mk h14_
              have n15_ := Aside0.mk h15_
              have n16_ := Aside0.mk h16_
              have n17_ := Aside0.mk h17_
              have n18_ := Aside0.mk h18_
              have n19_ := Aside0.mk h19_
              have n20_ := Aside0.mk h20_
              have n21_ := Aside0.mk h21_
              have n22_ := Aside0.mk h22_
              have n23_ := Aside0.mk h23_
              have n24_ := Aside0.mk h24_
              have n25_ := Aside0.mk h25_
              have n26_ := Aside0.mk h26_
              have n27_ := Aside0.mk h27_
              have n28_ := Aside0.mk h28_
              have n29_ := Aside0.mk h29_
              have n30_ := Aside0.mk h30_
              have n31_ := Aside0.mk h31_
              have n32_ := Aside0.mk h32_
              have n33_ := Aside0.mk h33_
              have n34_ := Aside0.mk h34_
              have n35_ := Aside0.mk h35_
              have n36_ := Aside0.mk h36_
              have n37_ := Aside0.mk h37_
              have n38_ := Aside0.mk h38_
              have n39_ := Aside0.mk h39_
              clear BK305
              clear BK306
              clear BK307
              clear BK308
              clear BK314
              clear BK318
              clear BK322
              clear BK326
              clear BK330
              clear BK334
              clear BK337
              clear BK344
              clear HB
              clear h0_ h1_ h2_ h3_ h4_ h5_ h6_ h7_ h8_ h9_ h10_ h11_ h12_ h13_ h14_ h15_ h16_ h17_ h18_ h19_ h20_ h21_ h22_ h23_ h24_ h25_ h26_ h27_ h28_ h29_ h30_ h31_ h32_ h33_ h34_ h35_ h36_ h37_ h38_ h39_
              have BK305 := n0_
              have BK306 := n1_
              have BK307 := n2_
              have BK308 := n3_
              have BK314 := n4_
              have BK318 := n5_
              have BK322 := n6_
              have BK326 := n7_
              have BK330 := n8_
              have BK334 := n9_
              have BK337 := n10_
              have BK344 := n11_
              have BK356 := n12_
              have GW356 := n13_
              have GE356 := n14_
              have NB305_356 := n15_
              have NB356_305 := n16_
              have NB306_356 := n17_
              have NB356_306 := n18_
              have NB307_356 := n19_
              have NB356_307 := n20_
              have NB308_356 := n21_
              have NB356_308 := n22_
              have NB314_356 := n23_
              have NB356_314 := n24_
              have NB318_356 := n25_
              have NB356_318 := n26_
              have NB322_356 := n27_
              have NB356_322 := n28_
              have NB326_356 := n29_
              have NB356_326 := n30_
              have NB330_356 := n31_
              have NB356_330 := n32_
              have NB334_356 := n33_
              have NB356_334 := n34_
              have NB337_356 := n35_
              have NB356_337 := n36_
              have NB344_356 := n37_
              have NB356_344 := n38_
              have HB := n39_
              clear n0_ n1_ n2_ n3_ n4_ n5_ n6_ n7_ n8_ n9_ n10_ n11_ n12_ n13_ n14_ n15_ n16_ n17_ n18_ n19_ n20_ n21_ n22_ n23_ n24_ n25_ n26_ n27_ n28_ n29_ n30_ n31_ n32_ n33_ n34_ n35_ n36_ n37_ n38_ n39_
              have hHeld : w168.cell? ⟨gb337, 0, none⟩ = some (.int .i64 t335) ∧ w168.cell? ⟨gb337, 1, none⟩ = some (.int .i64 t336) ∧ w168.cell? ⟨gb318, 0, none⟩ = some (.int .i64 t315) ∧ w168.cell? ⟨gb318, 1, none⟩ = some (.int .i64 t316) ∧ w168.cell? ⟨gb330, 0, none⟩ = some (.int .i64 t327) ∧ w168.cell? ⟨gb330, 1, none⟩ = some (.int .i64 t328) ∧ w168.cell? ⟨gb314, 0, none⟩ = some (.int .i64 t311) ∧ w168.cell? ⟨gb314, 1, none⟩ = some (.int .i64 t312) ∧ w168.cell? ⟨gb334, 0, none⟩ = some (.int .i64 t331) ∧ w168.cell? ⟨gb334, 1, none⟩ = some (.int .i64 t332) ∧ w168.cell? ⟨gb326, 0, none⟩ = some (.int .i64 t323) ∧ w168.cell? ⟨gb326, 1, none⟩ = some (.int .i64 t324) := hS_
              refine norm_ (a' := ?_) ?_ ?_
              rotate_left
              ·simp only [putAll, Act.put, List.setIfInBounds_toArray, List.set_cons_zero, List.set_cons_succ]
               rfl
              refine one_ (i := 6) (N := some 97) #[true, true, true, true, true, true, true, true, true, false, false, false, false, false, true, false, false] rfl rfl (one_of HT_.out (by kernel_rfl)) (by decide) (fun K hK => ?_)
              refine goes_ Try.func60 (by kernel_rfl) rfl #[.agg #[.int .i64 t345, .int .i64 t346], .agg #[.int .i64 t347, .int .i64 t348]] (by rfl) rfl rfl (by (try simp only [List.map_toArray, List.map_cons, List.map_nil]); first | done | rfl | (simp only [List.length_drop, List.length_take]; rfl)) ?_
              with_reducible refine (sun_less.calls t345 t346 t347 t348 t349 t350 _ A70.out).mono ?_
              rintro e w169 ⟨rfl, hb⟩
              refine ⟨_, rfl, ?_⟩
              replace BK305 := kb_ BK305 hb
              replace BK306 := kb_ BK306 hb
              replace BK307 := kb_ BK307 hb
              replace BK308 := kb_ BK308 hb
              replace BK314 := kb_ BK314 hb
              replace BK318 := kb_ BK318 hb
              replace BK322 := kb_ BK322 hb
              replace BK326 := kb_ BK326 hb
              replace BK330 := kb_ BK330 hb
              replace BK334 := kb_ BK334 hb
              replace BK337 := kb_ BK337 hb
              replace BK344 := kb_ BK344 hb
              replace BK356 := kb_ BK356 hb
              replace HB := bs_ HB hb
              (try clear hb)
              (try clear hb2)
              (try clear hk)
              (try clear hi)
              refine hK.out _ _ ⟨(blk_cell BK337.out 0).trans rfl, (blk_cell BK337.out 1).trans rfl, (blk_cell BK318.out 0).trans rfl, (blk_cell BK318.out 1).trans rfl, (blk_cell BK330.out 0).trans rfl, (blk_cell BK330.out 1).trans rfl, (blk_cell BK314.out 0).trans rfl, (blk_cell BK314.out 1).trans rfl, (blk_cell BK334.out 0).trans rfl, (blk_cell BK334.out 1).trans rfl, (blk_cell BK326.out 0).trans rfl, (blk_cell BK326.out 1).trans rfl⟩ (fun hHeld => ?_)
              clear hK K
              refine norm_ (a' := ?_) ?_ ?_
              rotate_left
              ·show Act.put _ (some 97) _ = _
               simp only [Act.put, List.setIfInBounds_toArray, List.set_cons_zero, List.set_cons_succ, i64_w, i32_w]
               rfl
              exact norm_ (by first | (simp only [putAll, Act.put, List.setIfInBounds_toArray, List.set_cons_zero, List.set_cons_succ]; done) | (simp only [putAll, Act.put, List.setIfInBounds_toArray, List.set_cons_zero, List.set_cons_succ]; rfl)) (hJ2_5_6_14 (gb356) _ ⟨hHeld, (kk_ BK305), (kk_ BK306), (kk_ BK307), (kk_ BK308), (kk_ BK314), (kk_ BK318), (kk_ BK322), (kk_ BK326), (kk_ BK330), (kk_ BK334), (kk_ BK337), (kk_ BK344), (kk_ BK356), GW356.out, GE356.out, NB305_356.out, NB356_305.out, NB306_356.out, NB356_306.out, NB307_356.out, NB356_307.out, NB308_356.out, NB356_308.out, NB314_356.out, NB356_314.out, NB318_356.out, NB356_318.out, NB322_356.out, NB356_322.out, NB326_356.out, NB356_326.out, NB330_356.out, NB356_330.out, NB334_356.out, NB356_334.out, NB337_356.out, NB356_337.out, NB344_356.out, NB356_344.out, (be_ HB).out⟩)
            ·skip
             rintro _ w168 ⟨hS_, h0_, h1_, h2_, h3_, h4_, h5_, h6_, h7_, h8_, h9_, h10_, h11_, h12_⟩
             have n0_ := Aside0.mk h0_
             have n1_ := Aside0.mk h1_
             have n2_ := Aside0.mk h2_
             have n3_ := Aside0.mk h3_
             have n4_ := Aside0.mk h4_
             have n5_ := Aside0.mk h5_
             have n6_ := Aside0.mk h6_
             have n7_ := Aside0.mk h7_
             have n8_ := Aside0.mk h8_
             have n9_ := Aside0.mk h9_
             have n10_ := Aside0.mk h10_
             have n11_ := Aside0.mk h11_
             have n12_ := Aside0.mk h12_
             clear BK305
             clear BK306
             clear BK307
             clear BK308
             clear BK314
             clear BK318
             clear BK322
             clear BK326
             clear BK330
             clear BK334
             clear BK337
             clear BK344
             clear HB
             clear h0_ h1_ h2_ h3_ h4_ h5_ h6_ h7_ h8_ h9_ h10_ h11_ h12_
             have BK305 := n0_
             have BK306 := n1_
             have BK307 := n2_
             have BK308 := n3_
             have BK314 := n4_
             have BK318 := n5_
             have BK322 := n6_
             have BK326 := n7_
             have BK330 := n8_
             have BK334 := n9_
             have BK337 := n10_
             have BK344 := n11_
             have HB := n12_
             clear n0_ n1_ n2_ n3_ n4_ n5_ n6_ n7_ n8_ n9_ n10_ n11_ n12_
             have hHeld : w168.cell? ⟨gb337, 0, none⟩ = some (.int .i64 t335) ∧ w168.cell? ⟨gb337, 1, none⟩ = some (.int .i64 t336) ∧ w168.cell? ⟨gb318, 0, none⟩ = some (.int .i64 t315) ∧ w168.cell? ⟨gb318, 1, none⟩ = some (.int .i64 t316) ∧ w168.cell? ⟨gb330, 0, none⟩ = some (.int .i64 t327) ∧ w168.cell? ⟨gb330, 1, none⟩ = some (.int .i64 t328) ∧ w168.cell? ⟨gb314, 0, none⟩ = some (.int .i64 t311) ∧ w168.cell? ⟨gb314, 1, none⟩ = some (.int .i64 t312) ∧ w168.cell? ⟨gb334, 0, none⟩ = some (.int .i64 t331) ∧ w168.cell? ⟨gb334, 1, none⟩ = some (.int .i64 t332) ∧ w168.cell? ⟨gb326, 0, none⟩ = some (.int .i64 t323) ∧ w168.cell? ⟨gb326, 1, none⟩ = some (.int .i64 t324) := hS_
             refine norm_ (a' := ?_) ?_ ?_
             rotate_left
             ·simp only [putAll, Act.put, List.setIfInBounds_toArray, List.set_cons_zero, List.set_cons_succ]
              rfl
             refine two_ (i := 9) (j := 14) (Ni := some 100) (Nj := some 24) #[true, true, true, true, true, true, true, true, true, true, false, false, false, false, false, false, false] #[true, true, true, true, true, true, true, true, true, false, false, false, false, false, true, false, false] rfl rfl rfl rfl (two_of HT_.out (by kernel_rfl)) (by decide) (by decide) (fun K hK => ?_) (fun K hK => ?_)
             ·skip
              refine goes_ Try.func57 (by kernel_rfl) rfl #[.agg #[.int .i64 t331, .int .i64 t332], .agg #[.int .i64 t323, .int .i64 t324]] (by rfl) rfl rfl (by (try simp only [List.map_toArray, List.map_cons, List.map_nil]); first | done | rfl | (simp only [List.length_drop, List.length_take]; rfl)) ?_
              with_reducible refine (sun_Unit.calls kj39 t331 t332 t323 t324 t351 t352 _ A71.out).mono ?_
              rintro e w169 ⟨rfl, hb⟩
              refine ⟨_, rfl, ?_⟩
              replace BK305 := kb_ BK305 hb
              replace BK306 := kb_ BK306 hb
              replace BK307 := kb_ BK307 hb
              replace BK308 := kb_ BK308 hb
              replace BK314 := kb_ BK314 hb
              replace BK318 := kb_ BK318 hb
              replace BK322 := kb_ BK322 hb
              replace BK326 := kb_ BK326 hb
              replace BK330 := kb_ BK330 hb
              replace BK334 := kb_ BK334 hb
              replace BK337 := kb_ BK337 hb
              replace BK344 := kb_ BK344 hb
              replace HB := bs_ HB hb
              (try clear hb)
              (try clear hb2)
              (try clear hk)
              (try clear hi)
              refine hK.out _ _ ⟨(blk_cell BK337.out 0).trans rfl, (blk_cell BK337.out 1).trans rfl, (blk_cell BK318.out 0).trans rfl, (blk_cell BK318.out 1).trans rfl, (blk_cell BK330.out 0).trans rfl, (blk_cell BK330.out 1).trans rfl, (blk_cell BK314.out 0).trans rfl, (blk_cell BK314.out 1).trans rfl, (blk_cell BK334.out 0).trans rfl, (blk_cell BK334.out 1).trans rfl, (blk_cell BK326.out 0).trans rfl, (blk_cell BK326.out 1).trans rfl⟩ (fun hHeld => ?_)
              clear hK K
              refine norm_ (a' := ?_) ?_ ?_
              rotate_left
              ·show Act.put _ (some 100) _ = _
               simp only [Act.put, List.setIfInBounds_toArray, List.set_cons_zero, List.set_cons_succ, i64_w, i32_w]
               rfl
              exact norm_ (by first | (simp only [putAll, Act.put, List.setIfInBounds_toArray, List.set_cons_zero, List.set_cons_succ]; done) | (simp only [putAll, Act.put, List.setIfInBounds_toArray, List.set_cons_zero, List.set_cons_succ]; rfl)) (hJ2_5_6_9 () _ ⟨hHeld, (kk_ BK305), (kk_ BK306), (kk_ BK307), (kk_ BK308), (kk_ BK314), (kk_ BK318), (kk_ BK322), (kk_ BK326), (kk_ BK330), (kk_ BK334), (kk_ BK337), (kk_ BK344), (be_ HB).out⟩)
             ·skip
              refine box_step ?hg (N := 24) ?hd (cs := #[.int .i64 0, .int .i64 0]) (t := 24) ?hr ?_; (case hd => rfl); (case hg => rfl); (case hr => first | (go_simp; done) | (go_simp; rfl))
              intro gb356 hg w169 hbox hb
              have BK356 := Aside0.mk (hbox)
              have GW356 := ge_ hg HB
              have GE356 := ge_ hg HB
              have NB305_356 := nl_ hg BK305
              have NB356_305 := ng_ hg BK305
              have NB306_356 := nl_ hg BK306
              have NB356_306 := ng_ hg BK306
              have NB307_356 := nl_ hg BK307
              have NB356_307 := ng_ hg BK307
              have NB308_356 := nl_ hg BK308
              have NB356_308 := ng_ hg BK308
              have NB314_356 := nl_ hg BK314
              have NB356_314 := ng_ hg BK314
              have NB318_356 := nl_ hg BK318
              have NB356_318 := ng_ hg BK318
              have NB322_356 := nl_ hg BK322
              have NB356_322 := ng_ hg BK322
              have NB326_356 := nl_ hg BK326
              have NB356_326 := ng_ hg BK326
              have NB330_356 := nl_ hg BK330
              have NB356_330 := ng_ hg BK330
              have NB334_356 := nl_ hg BK334
              have NB356_334 := ng_ hg BK334
              have NB337_356 := nl_ hg BK337
              have NB356_337 := ng_ hg BK337
              have NB344_356 := nl_ hg BK344
              have NB356_344 := ng_ hg BK344
              replace BK305 := kb_ BK305 hb
              replace BK306 := kb_ BK306 hb
              replace BK307 := kb_ BK307 hb
              replace BK308 := kb_ BK308 hb
              replace BK314 := kb_ BK314 hb
              replace BK318 := kb_ BK318 hb
              replace BK322 := kb_ BK322 hb
              replace BK326 := kb_ BK326 hb
              replace BK330 := kb_ BK330 hb
              replace BK334 := kb_ BK334 hb
              replace BK337 := kb_ BK337 hb
              replace BK344 := kb_ BK344 hb
              replace HB := bs_ HB hb
              clear hb hbox hg
              refine hK.out _ _ ⟨(blk_cell BK337.out 0).trans rfl, (blk_cell BK337.out 1).trans rfl, (blk_cell BK318.out 0).trans rfl, (blk_cell BK318.out 1).trans rfl, (blk_cell BK330.out 0).trans rfl, (blk_cell BK330.out 1).trans rfl, (blk_cell BK314.out 0).trans rfl, (blk_cell BK314.out 1).trans rfl, (blk_cell BK334.out 0).trans rfl, (blk_cell BK334.out 1).trans rfl, (blk_cell BK326.out 0).trans rfl, (blk_cell BK326.out 1).trans rfl⟩ (fun hHeld => ?_)
              clear hK K
              refine norm_ (a' := ?_) ?_ ?_
              rotate_left
              ·show Act.put _ (some 24) _ = _
               simp only [Act.put, List.setIfInBounds_toArray, List.set_cons_zero, List.set_cons_succ, i64_w, i32_w]
               rfl
              exact norm_ (by first | (simp only [putAll, Act.put, List.setIfInBounds_toArray, List.set_cons_zero, List.set_cons_succ]; done) | (simp only [putAll, Act.put, List.setIfInBounds_toArray, List.set_cons_zero, List.set_cons_succ]; rfl)) (hJ2_5_6_14 (gb356) _ ⟨hHeld, (kk_ BK305), (kk_ BK306), (kk_ BK307), (kk_ BK308), (kk_ BK314), (kk_ BK318), (kk_ BK322), (kk_ BK326), (kk_ BK330), (kk_ BK334), (kk_ BK337), (kk_ BK344), (kk_ BK356), GW356.out, GE356.out, NB305_356.out, NB356_305.out, NB306_356.out, NB356_306.out, NB307_356.out, NB356_307.out, NB308_356.out, NB356_308.out, NB314_356.out, NB356_314.out, NB318_356.out, NB356_318.out, NB322_356.out, NB356_322.out, NB326_356.out, NB356_326.out, NB330_356.out, NB356_330.out, NB334_356.out, NB356_334.out, NB337_356.out, NB356_337.out, NB344_356.out, NB356_344.out, (be_ HB).out⟩)
           ·skip
            rintro gb356 w169 ⟨hS_, h0_, h1_, h2_, h3_, h4_, h5_, h6_, h7_, h8_, h9_, h10_, h11_, h12_, h13_, h14_, h15_, h16_, h17_, h18_, h19_, h20_, h21_, h22_, h23_, h24_, h25_, h26_, h27_, h28_, h29_, h30_, h31_, h32_, h33_, h34_, h35_, h36_, h37_, h38_, h39_⟩
            have n0_ := Aside0.mk h0_
            have n1_ := Aside0.mk h1_
            have n2_ := Aside0.mk h2_
            have n3_ := Aside0.mk h3_
            have n4_ := Aside0.mk h4_
            have n5_ := Aside0.mk h5_
            have n6_ := Aside0.mk h6_
            have n7_ := Aside0.mk h7_
            have n8_ := Aside0.mk h8_
            have n9_ := Aside0.mk h9_
            have n10_ := Aside0.mk h10_
            have n11_ := Aside0.mk h11_
            have n12_ := Aside0.mk h12_
            have n13_ := Aside0.mk h13_
            have n14_ := Aside0.mk h14_
            have n15_ := Aside0.mk h15_
            have n16_ := Aside0.mk h16_
            have n17_ := Aside0.mk h17_
            have n18_ := Aside0.mk h18_
            have n19_ := Aside0.mk h19_
            have n20_ := Aside0.mk h20_
            have n21_ := Aside0.mk h21_
            have n22_ := Aside0.mk h22_
            have n23_ := Aside0.mk h23_
            have n24_ := Aside0.mk h24_
            have n25_ := Aside0.mk h25_
            have n26_ := Aside0.mk h26_
            have n27_ := Aside0.mk h27_
            have n28_ := Aside0.mk h28_
            have n29_ := Aside0.mk h29_
            have n30_ := Aside0.mk h30_
            have n31_ := Aside0.mk h31_
            have n32_ := Aside0.mk h32_
            have n33_ := Aside0.mk h33_
            have n34_ := Aside0.mk h34_
            have n35_ := Aside0.mk h35_
            have n36_ := Aside0.mk h36_
            have n37_ := Aside0.mk h37_
            have n38_ := Aside0.mk h38_
            have n39_ := Aside0.mk h39_
            clear BK305
            clear BK306
            clear BK307
            clear BK308
            clear BK314
            clear BK318
            clear BK322
            clear BK326
            clear BK330
            clear BK334
            clear BK337
            clear BK344
            clear HB
            clear h0_ h1_ h2_ h3_ h4_ h5_ h6_ h7_ h8_ h9_ h10_ h11_ h12_ h13_ h14_ h15_ h16_ h17_ h18_ h19_ h20_ h21_ h22_ h23_ h24_ h25_ h26_ h27_ h28_ h29_ h30_ h31_ h32_ h33_ h34_ h35_ h36_ h37_ h38_ h39_
            have BK305 := n0_
            have BK306 := n1_
            have BK307 := n2_
            have BK308 := n3_
            have BK314 := n4_
            have BK318 := n5_
            have BK322 := n6_
            have BK326 := n7_
            have BK330 := n8_
            have BK334 := n9_
            have BK337 := n10_
            have BK344 := n11_
            have BK356 := n12_
            have GW356 := n13_
            have GE356 := n14_
            have NB305_356 := n15_
            have NB356_305 := n16_
            have NB306_356 := n17_
            have NB356_306 := n18_
            have NB307_356 := n19_
            have NB356_307 := n20_
            have NB308_356 := n21_
            have NB356_308 := n22_
            have NB314_356 := n23_
            have NB356_314 := n24_
            have NB318_356 := n25_
            have NB356_318 := n26_
            have NB322_356 := n27_
            have NB356_322 := n28_
            have NB326_356 := n29_
            have NB356_326 := n30_
            have NB330_356 := n31_
            have NB356_330 := n32_
            have NB334_356 := n33_
            have NB356_334 := n34_
            have NB337_356 := n35_
            have NB356_337 := n36_
            have NB344_356 := n37_
            have NB356_344 := n38_
            have HB := n39_
            clear n0_ n1_ n2_ n3_ n4_ n5_ n6_ n7_ n8_ n9_ n10_ n11_ n12_ n13_ n14_ n15_ n16_ n17_ n18_ n19_ n20_ n21_ n22_ n23_ n24_ n25_ n26_ n27_ n28_ n29_ n30_ n31_ n32_ n33_ n34_ n35_ n36_ n37_ n38_ n39_
            have hHeld : w169.cell? ⟨gb337, 0, none⟩ = some (.int .i64 t335) ∧ w169.cell? ⟨gb337, 1, none⟩ = some (.int .i64 t336) ∧ w169.cell? ⟨gb318, 0, none⟩ = some (.int .i64 t315) ∧ w169.cell? ⟨gb318, 1, none⟩ = some (.int .i64 t316) ∧ w169.cell? ⟨gb330, 0, none⟩ = some (.int .i64 t327) ∧ w169.cell? ⟨gb330, 1, none⟩ = some (.int .i64 t328) ∧ w169.cell? ⟨gb314, 0, none⟩ = some (.int .i64 t311) ∧ w169.cell? ⟨gb314, 1, none⟩ = some (.int .i64 t312) ∧ w169.cell? ⟨gb334, 0, none⟩ = some (.int .i64 t331) ∧ w169.cell? ⟨gb334, 1, none⟩ = some (.int .i64 t332) ∧ w169.cell? ⟨gb326, 0, none⟩ = some (.int .i64 t323) ∧ w169.cell? ⟨gb326, 1, none⟩ = some (.int .i64 t324) := hS_
            refine norm_ (a' := ?_) ?_ ?_
            rotate_left
            ·simp only [putAll, Act.put, List.setIfInBounds_toArray, List.set_cons_zero, List.set_cons_succ]
             rfl
            refine one_ (i := 9) (N := some 100) #[true, true, true, true, true, true, true, true, true, true, false, false, false, false, true, false, false] rfl rfl (one_of HT_.out (by kernel_rfl)) (by decide) (fun K hK => ?_)
            refine goes_ Try.func57 (by kernel_rfl) rfl #[.agg #[.int .i64 t331, .int .i64 t332], .agg #[.int .i64 t323, .int .i64 t324]] (by rfl) rfl rfl (by (try simp only [List.map_toArray, List.map_cons, List.map_nil]); first | done | rfl | (simp only [List.length_drop, List.length_take]; rfl)) ?_
            with_reducible refine (sun_Unit.calls kj39 t331 t332 t323 t324 t351 t352 _ A71.out).mono ?_
            rintro e w170 ⟨rfl, hb⟩
            refine ⟨_, rfl, ?_⟩
            replace BK305 := kb_ BK305 hb
            replace BK306 := kb_ BK306 hb
            replace BK307 := kb_ BK307 hb
            replace BK308 := kb_ BK308 hb
            replace BK314 := kb_ BK314 hb
            replace BK318 := kb_ BK318 hb
            replace BK322 := kb_ BK322 hb
            replace BK326 := kb_ BK326 hb
            replace BK330 := kb_ BK330 hb
            replace BK334 := kb_ BK334 hb
            replace BK337 := kb_ BK337 hb
            replace BK344 := kb_ BK344 hb
            replace BK356 := kb_ BK356 hb
            replace HB := bs_ HB hb
            (try clear hb)
            (try clear hb2)
            (try clear hk)
            (try clear hi)
            refine hK.out _ _ ⟨(blk_cell BK337.out 0).trans rfl, (blk_cell BK337.out 1).trans rfl, (blk_cell BK318.out 0).trans rfl, (blk_cell BK318.out 1).trans rfl, (blk_cell BK330.out 0).trans rfl, (blk_cell BK330.out 1).trans rfl, (blk_cell BK314.out 0).trans rfl, (blk_cell BK314.out 1).trans rfl, (blk_cell BK334.out 0).trans rfl, (blk_cell BK334.out 1).trans rfl, (blk_cell BK326.out 0).trans rfl, (blk_cell BK326.out 1).trans rfl⟩ (fun hHeld => ?_)
            clear hK K
            refine norm_ (a' := ?_) ?_ ?_
            rotate_left
            ·show Act.put _ (some 100) _ = _
             simp only [Act.put, List.setIfInBounds_toArray, List.set_cons_zero, List.set_cons_succ, i64_w, i32_w]
             rfl
            exact norm_ (by first | (simp only [putAll, Act.put, List.setIfInBounds_toArray, List.set_cons_zero, List.set_cons_succ]; done) | (simp only [putAll, Act.put, List.setIfInBounds_toArray, List.set_cons_zero, List.set_cons_succ]; rfl)) (hJ2_5_6_9_14 (gb356) _ ⟨hHeld, (kk_ BK305), (kk_ BK306), (kk_ BK307), (kk_ BK308), (kk_ BK314), (kk_ BK318), (kk_ BK322), (kk_ BK326), (kk_ BK330), (kk_ BK334), (kk_ BK337), (kk_ BK344), (kk_ BK356), GW356.out, GE356.out, NB305_356.out, NB356_305.out, NB306_356.out, NB356_306.out, NB307_356.out, NB356_307.out, NB308_356.out, NB356_308.out, NB314_356.out, NB356_314.out, NB318_356.out, NB356_318.out, NB322_356.out, NB356_322.out, NB326_356.out, NB356_326.out, NB330_356.out, NB356_330.out, NB334_356.out, NB356_334.out, NB337_356.out, NB356_337.out, NB344_356.out, NB356_344.out, (be_ HB).out⟩)
          ·skip
           rintro _ w169 ⟨hS_, h0_, h1_, h2_, h3_, h4_, h5_, h6_, h7_, h8_, h9_, h10_, h11_, h12_⟩
           have n0_ := Aside0.mk h0_
           have n1_ := Aside0.mk h1_
           have n2_ := Aside0.mk h2_
           have n3_ := Aside0.mk h3_
           have n4_ := Aside0.mk h4_
           have n5_ := Aside0.mk h5_
           have n6_ := Aside0.mk h6_
           have n7_ := Aside0.mk h7_
           have n8_ := Aside0.mk h8_
           have n9_ := Aside0.mk h9_
           have n10_ := Aside0.mk h10_
           have n11_ := Aside0.mk h11_
           have n12_ := Aside0.mk h12_
           clear BK305
           clear BK306
           clear BK307
           clear BK308
           clear BK314
           clear BK318
           clear BK322
           clear BK326
           clear BK330
           clear BK334
           clear BK337
           clear BK344
           clear HB
           clear h0_ h1_ h2_ h3_ h4_ h5_ h6_ h7_ h8_ h9_ h10_ h11_ h12_
           have BK305 := n0_
           have BK306 := n1_
           have BK307 := n2_
           have BK308 := n3_
           have BK314 := n4_
           have BK318 := n5_
           have BK322 := n6_
           have BK326 := n7_
           have BK330 := n8_
           have BK334 := n9_
           have BK337 := n10_
           have BK344 := n11_
           have HB := n12_
           clear n0_ n1_ n2_ n3_ n4_ n5_ n6_ n7_ n8_ n9_ n10_ n11_ n12_
           have hHeld : w169.cell? ⟨gb337, 0, none⟩ = some (.int .i64 t335) ∧ w169.cell? ⟨gb337, 1, none⟩ = some (.int .i64 t336) ∧ w169.cell? ⟨gb318, 0, none⟩ = some (.int .i64 t315) ∧ w169.cell? ⟨gb318, 1, none⟩ = some (.int .i64 t316) ∧ w169.cell? ⟨gb330, 0, none⟩ = some (.int .i64 t327) ∧ w169.cell? ⟨gb330, 1, none⟩ = some (.int .i64 t328) ∧ w169.cell? ⟨gb314, 0, none⟩ = some (.int .i64 t311) ∧ w169.cell? ⟨gb314, 1, none⟩ = some (.int .i64 t312) ∧ w169.cell? ⟨gb334, 0, none⟩ = some (.int .i64 t331) ∧ w169.cell? ⟨gb334, 1, none⟩ = some (.int .i64 t332) ∧ w169.cell? ⟨gb326, 0, none⟩ = some (.int .i64 t323) ∧ w169.cell? ⟨gb326, 1, none⟩ = some (.int .i64 t324) := hS_
           refine norm_ (a' := ?_) ?_ ?_
           rotate_left
           ·simp only [putAll, Act.put, List.setIfInBounds_toArray, List.set_cons_zero, List.set_cons_succ]
            rfl
           refine two_ (i := 10) (j := 14) (Ni := some 101) (Nj := some 24) #[true, true, true, true, true, true, true, true, true, true, true, false, false, false, false, false, false] #[true, true, true, true, true, true, true, true, true, true, false, false, false, false, true, false, false] rfl rfl rfl rfl (two_of HT_.out (by kernel_rfl)) (by decide) (by decide) (fun K hK => ?_) (fun K hK => ?_)
           ·skip
            refine goes_ Try.func59 (by kernel_rfl) rfl #[.agg #[.int .i64 t349, .int .i64 t350], .agg #[.int .i64 t351, .int .i64 t352]] (by rfl) rfl rfl (by (try simp only [List.map_toArray, List.map_cons, List.map_nil]); first | done | rfl | (simp only [List.length_drop, List.length_take]; rfl)) ?_
            with_reducible refine (trig_Arc.calls kj39 t349 t350 t351 t352 t353 t354 t355 _ A72.out).mono ?_
            rintro e w170 ⟨rfl, hb⟩
            refine ⟨_, rfl, ?_⟩
            replace BK305 := kb_ BK305 hb
            replace BK306 := kb_ BK306 hb
            replace BK307 := kb_ BK307 hb
            replace BK308 := kb_ BK308 hb
            replace BK314 := kb_ BK314 hb
            replace BK318 := kb_ BK318 hb
            replace BK322 := kb_ BK322 hb
            replace BK326 := kb_ BK326 hb
            replace BK330 := kb_ BK330 hb
            replace BK334 := kb_ BK334 hb
            replace BK337 := kb_ BK337 hb
            replace BK344 := kb_ BK344 hb
            replace HB := bs_ HB hb
            (try clear hb)
            (try clear hb2)
            (try clear hk)
            (try clear hi)
            refine hK.out _ _ ⟨(blk_cell BK337.out 0).trans rfl, (blk_cell BK337.out 1).trans rfl, (blk_cell BK318.out 0).trans rfl, (blk_cell BK318.out 1).trans rfl, (blk_cell BK330.out 0).trans rfl, (blk_cell BK330.out 1).trans rfl, (blk_cell BK314.out 0).trans rfl, (blk_cell BK314.out 1).trans rfl, (blk_cell BK334.out 0).trans rfl, (blk_cell BK334.out 1).trans rfl, (blk_cell BK326.out 0).trans rfl, (blk_cell BK326.out 1).trans rfl⟩ (fun hHeld => ?_)
            clear hK K
            refine norm_ (a' := ?_) ?_ ?_
            rotate_left
            ·show Act.put _ (some 101) _ = _
             simp only [Act.put, List.setIfInBounds_toArray, List.set_cons_zero, List.set_cons_succ, i64_w, i32_w]
             rfl
            refine pure_ (i := 11) (N := some 90) (v := ?_) (a' := ?_) #[true, true, true, true, true, true, true, true, true, true, true, true, false, false, false, false, false] rfl rfl (any_of HT_.out (by kernel_rfl)) (fun _ _ _ h => h) (Or.inl ⟨by rfl, ?_⟩) ?_ ?_
            rotate_left
            ·intro w'
             go_simp
             with_reducible rfl
            rotate_left
            ·simp only [Act.put, List.setIfInBounds_toArray, List.set_cons_zero, List.set_cons_succ, i64_w, i32_w]
             rfl
            refine pure_ (i := 12) (N := some 102) (v := ?_) (a' := ?_) #[true, true, true, true, true, true, true, true, true, true, true, true, true, false, false, false, false] rfl rfl (any_of HT_.out (by kernel_rfl)) (fun _ _ _ h => h) (Or.inl ⟨by rfl, ?_⟩) ?_ ?_
            rotate_left
            ·intro w'
             go_simp
             with_reducible rfl
            rotate_left
            ·simp only [Act.put, List.setIfInBounds_toArray, List.set_cons_zero, List.set_cons_succ, i64_w, i32_w]
             rfl
            refine pure_ (i := 13) (N := some 103) (v := ?_) (a' := ?_) #[true, true, true, true, true, true, true, true, true, true, true, true, true, true, false, false, false] rfl rfl (any_of HT_.out (by kernel_rfl)) (fun _ _ _ h => h) (Or.inl ⟨by rfl, ?_⟩) ?_ ?_
            rotate_left
            ·intro w'
             go_simp
             with_reducible rfl
            rotate_left
            ·simp only [Act.put, List.setIfInBounds_toArray, List.set_cons_zero, List.set_cons_succ, i64_w, i32_w]
             rfl
            exact norm_ (by first | (simp only [putAll, Act.put, List.setIfInBounds_toArray, List.set_cons_zero, List.set_cons_succ]; done) | (simp only [putAll, Act.put, List.setIfInBounds_toArray, List.set_cons_zero, List.set_cons_succ]; rfl)) (hJ2_5_6_9_10 () _ ⟨hHeld, (kk_ BK305), (kk_ BK306), (kk_ BK307), (kk_ BK308), (kk_ BK314), (kk_ BK318), (kk_ BK322), (kk_ BK326), (kk_ BK330), (kk_ BK334), (kk_ BK337), (kk_ BK344), (be_ HB).out⟩)
           ·skip
            refine box_step ?hg (N := 24) ?hd (cs := #[.int .i64 0, .int .i64 0]) (t := 24) ?hr ?_; (case hd => rfl); (case hg => rfl); (case hr => first | (go_simp; done) | (go_simp; rfl))
            intro gb356 hg w170 hbox hb
            have BK356 := Aside0.mk (hbox)
            have GW356 := ge_ hg HB
            have GE356 := ge_ hg HB
            have NB305_356 := nl_ hg BK305
            have NB356_305 := ng_ hg BK305
            have NB306_356 := nl_ hg BK306
            have NB356_306 := ng_ hg BK306
            have NB307_356 := nl_ hg BK307
            have NB356_307 := ng_ hg BK307
            have NB308_356 := nl_ hg BK308
            have NB356_308 := ng_ hg BK308
            have NB314_356 := nl_ hg BK314
            have NB356_314 := ng_ hg BK314
            have NB318_356 := nl_ hg BK318
            have NB356_318 := ng_ hg BK318
            have NB322_356 := nl_ hg BK322
            have NB356_322 := ng_ hg BK322
            have NB326_356 := nl_ hg BK326
            have NB356_326 := ng_ hg BK326
            have NB330_356 := nl_ hg BK330
            have NB356_330 := ng_ hg BK330
            have NB334_356 := nl_ hg BK334
            have NB356_334 := ng_ hg BK334
            have NB337_356 := nl_ hg BK337
            have NB356_337 := ng_ hg BK337
            have NB344_356 := nl_ hg BK344
            have NB356_344 := ng_ hg BK344
            replace BK305 := kb_ BK305 hb
            replace BK306 := kb_ BK306 hb
            replace BK307 := kb_ BK307 hb
            replace BK308 := kb_ BK308 hb
            replace BK314 := kb_ BK314 hb
            replace BK318 := kb_ BK318 hb
            replace BK322 := kb_ BK322 hb
            replace BK326 := kb_ BK326 hb
            replace BK330 := kb_ BK330 hb
            replace BK334 := kb_ BK334 hb
            replace BK337 := kb_ BK337 hb
            replace BK344 := kb_ BK344 hb
            replace HB := bs_ HB hb
            clear hb hbox hg
            refine hK.out _ _ ⟨(blk_cell BK337.out 0).trans rfl, (blk_cell BK337.out 1).trans rfl, (blk_cell BK318.out 0).trans rfl, (blk_cell BK318.out 1).trans rfl, (blk_cell BK330.out 0).trans rfl, (blk_cell BK330.out 1).trans rfl, (blk_cell BK314.out 0).trans rfl, (blk_cell BK314.out 1).trans rfl, (blk_cell BK334.out 0).trans rfl, (blk_cell BK334.out 1).trans rfl, (blk_cell BK326.out 0).trans rfl, (blk_cell BK326.out 1).trans rfl⟩ (fun hHeld => ?_)
            clear hK K
            refine norm_ (a' := ?_) ?_ ?_
            rotate_left
            ·show Act.put _ (some 24) _ = _
             simp only [Act.put, List.setIfInBounds_toArray, List.set_cons_zero, List.set_cons_succ, i64_w, i32_w]
             rfl
            exact norm_ (by first | (simp only [putAll, Act.put, List.setIfInBounds_toArray, List.set_cons_zero, List.set_cons_succ]; done) | (simp only [putAll, Act.put, List.setIfInBounds_toArray, List.set_cons_zero, List.set_cons_succ]; rfl)) (hJ2_5_6_9_14 (gb356) _ ⟨hHeld, (kk_ BK305), (kk_ BK306), (kk_ BK307), (kk_ BK308), (kk_ BK314), (kk_ BK318), (kk_ BK322), (kk_ BK326), (kk_ BK330), (kk_ BK334), (kk_ BK337), (kk_ BK344), (kk_ BK356), GW356.out, GE356.out, NB305_356.out, NB356_305.out, NB306_356.out, NB356_306.out, NB307_356.out, NB356_307.out, NB308_356.out, NB356_308.out, NB314_356.out, NB356_314.out, NB318_356.out, NB356_318.out, NB322_356.out, NB356_322.out, NB326_356.out, NB356_326.out, NB330_356.out, NB356_330.out, NB334_356.out, NB356_334.out, NB337_356.out, NB356_337.out, NB344_356.out, NB356_344.out, (be_ HB).out⟩)
         ·skip
          rintro gb356 w170 ⟨hS_, h0_, h1_, h2_, h3_, h4_, h5_, h6_, h7_, h8_, h9_, h10_, h11_, h12_, h13_, h14_, h15_, h16_, h17_, h18_, h19_, h20_, h21_, h22_, h23_, h24_, h25_, h26_, h27_, h28_, h29_, h30_, h31_, h32_, h33_, h34_, h35_, h36_, h37_, h38_, h39_⟩
          have n0_ := Aside0.mk h0_
          have n1_ := Aside0.mk h1_
          have n2_ := Aside0.mk h2_
          have n3_ := Aside0.mk h3_
          have n4_ := Aside0.mk h4_
          have n5_ := Aside0.mk h5_
          have n6_ := Aside0.mk h6_
          have n7_ := Aside0.mk h7_
          have n8_ := Aside0.mk h8_
          have n9_ := Aside0.mk h9_
          have n10_ := Aside0.mk h10_
          have n11_ := Aside0.mk h11_
          have n12_ := Aside0.mk h12_
          have n13_ := Aside0.mk h13_
          have n14_ := Aside0.mk h14_
          have n15_ := Aside0.mk h15_
          have n16_ := Aside0.mk h16_
          have n17_ := Aside0.mk h17_
          have n18_ := Aside0.mk h18_
          have n19_ := Aside0.mk h19_
          have n20_ := Aside0.mk h20_
          have n21_ := Aside0.mk h21_
          have n22_ := Aside0.mk h22_
          have n23_ := Aside0.mk h23_
          have n24_ := Aside0.mk h24_
          have n25_ := Aside0.mk h25_
          have n26_ := Aside0.mk h26_
          have n27_ := Aside0.mk h27_
          have n28_ := Aside0.mk h28_
          have n29_ := Aside0.mk h29_
          have n30_ := Aside0.mk h30_
          have n31_ := Aside0.mk h31_
          have n32_ := Aside0.mk h32_
          have n33_ := Aside0.mk h33_
          have n34_ := Aside0.mk h34_
          have n35_ := Aside0.mk h35_
          have n36_ := Aside0.mk h36_
          have n37_ := Aside0.mk h37_
          have n38_ := Aside0.mk h38_
          have n39_ := Aside0.mk h39_
          clear BK305
          clear BK306
          clear BK307
          clear BK308
          clear BK314
          clear BK318
          clear BK322
          clear BK326
          clear BK330
          clear BK334
          clear BK337
          clear BK344
          clear HB
          clear h0_ h1_ h2_ h3_ h4_ h5_ h6_ h7_ h8_ h9_ h10_ h11_ h12_ h13_ h14_ h15_ h16_ h17_ h18_ h19_ h20_ h21_ h22_ h23_ h24_ h25_ h26_ h27_ h28_ h29_ h30_ h31_ h32_ h33_ h34_ h35_ h36_ h37_ h38_ h39_
          have BK305 := n0_
          have BK306 := n1_
          have BK307 := n2_
          have BK308 := n3_
          have BK314 := n4_
          have BK318 := n5_
          have BK322 := n6_
          have BK326 := n7_
          have BK330 := n8_
          have BK334 := n9_
          have BK337 := n10_
          have BK344 := n11_
          have BK356 := n12_
          have GW356 := n13_
          have GE356 := n14_
          have NB305_356 := n15_
          have NB356_305 := n16_
          have NB306_356 := n17_
          have NB356_306 := n18_
          have NB307_356 := n19_
          have NB356_307 := n20_
          have NB308_356 := n21_
          have NB356_308 := n22_
          have NB314_356 := n23_
          have NB356_314 := n24_
          have NB318_356 := n25_
          have NB356_318 := n26_
          have NB322_356 := n27_
          have NB356_322 := n28_
          have NB326_356 := n29_
          have NB356_326 := n30_
          have NB330_356 := n31_
          have NB356_330 := n32_
          have NB334_356 := n33_
          have NB356_334 := n34_
          have NB337_356 := n35_
          have NB356_337 := n36_
          have NB344_356 := n37_
          have NB356_344 := n38_
          have HB := n39_
          clear n0_ n1_ n2_ n3_ n4_ n5_ n6_ n7_ n8_ n9_ n10_ n11_ n12_ n13_ n14_ n15_ n16_ n17_ n18_ n19_ n20_ n21_ n22_ n23_ n24_ n25_ n26_ n27_ n28_ n29_ n30_ n31_ n32_ n33_ n34_ n35_ n36_ n37_ n38_ n39_
          have hHeld : w170.cell? ⟨gb337, 0, none⟩ = some (.int .i64 t335) ∧ w170.cell? ⟨gb337, 1, none⟩ = some (.int .i64 t336) ∧ w170.cell? ⟨gb318, 0, none⟩ = some (.int .i64 t315) ∧ w170.cell? ⟨gb318, 1, none⟩ = some (.int .i64 t316) ∧ w170.cell? ⟨gb330, 0, none⟩ = some (.int .i64 t327) ∧ w170.cell? ⟨gb330, 1, none⟩ = some (.int .i64 t328) ∧ w170.cell? ⟨gb314, 0, none⟩ = some (.int .i64 t311) ∧ w170.cell? ⟨gb314, 1, none⟩ = some (.int .i64 t312) ∧ w170.cell? ⟨gb334, 0, none⟩ = some (.int .i64 t331) ∧ w170.cell? ⟨gb334, 1, none⟩ = some (.int .i64 t332) ∧ w170.cell? ⟨gb326, 0, none⟩ = some (.int .i64 t323) ∧ w170.cell? ⟨gb326, 1, none⟩ = some (.int .i64 t324) := hS_
          refine norm_ (a' := ?_) ?_ ?_
          rotate_left
          ·simp only [putAll, Act.put, List.setIfInBounds_toArray, List.set_cons_zero, List.set_cons_succ]
           rfl
          refine one_ (i := 10) (N := some 101) #[true, true, true, true, true, true, true, true, true, true, true, false, false, false, true, false, false] rfl rfl (one_of HT_.out (by kernel_rfl)) (by decide) (fun K hK => ?_)
          refine goes_ Try.func59 (by kernel_rfl) rfl #[.agg #[.int .i64 t349, .int .i64 t350], .agg #[.int .i64 t351, .int .i64 t352]] (by rfl) rfl rfl (by (try simp only [List.map_toArray, List.map_cons, List.map_nil]); first | done | rfl | (simp only [List.length_drop, List.length_take]; rfl)) ?_
          with_reducible refine (trig_Arc.calls kj39 t349 t350 t351 t352 t353 t354 t355 _ A72.out).mono ?_
          rintro e w171 ⟨rfl, hb⟩
          refine ⟨_, rfl, ?_⟩
          replace BK305 := kb_ BK305 hb
          replace BK306 := kb_ BK306 hb
          replace BK307 := kb_ BK307 hb
          replace BK308 := kb_ BK308 hb
          replace BK314 := kb_ BK314 hb
          replace BK318 := kb_ BK318 hb
          replace BK322 := kb_ BK322 hb
          replace BK326 := kb_ BK326 hb
          replace BK330 := kb_ BK330 hb
          replace BK334 := kb_ BK334 hb
          replace BK337 := kb_ BK337 hb
          replace BK344 := kb_ BK344 hb
          replace BK356 := kb_ BK356 hb
          replace HB := bs_ HB hb
          (try clear hb)
          (try clear hb2)
          (try clear hk)
          (try clear hi)
          refine hK.out _ _ ⟨(blk_cell BK337.out 0).trans rfl, (blk_cell BK337.out 1).trans rfl, (blk_cell BK318.out 0).trans rfl, (blk_cell BK318.out 1).trans rfl, (blk_cell BK330.out 0).trans rfl, (blk_cell BK330.out 1).trans rfl, (blk_cell BK314.out 0).trans rfl, (blk_cell BK314.out 1).trans rfl, (blk_cell BK334.out 0).trans rfl, (blk_cell BK334.out 1).trans rfl, (blk_cell BK326.out 0).trans rfl, (blk_cell BK326.out 1).trans rfl⟩ (fun hHeld => ?_)
          clear hK K
          refine norm_ (a' := ?_) ?_ ?_
          rotate_left
          ·show Act.put _ (some 101) _ = _
           simp only [Act.put, List.setIfInBounds_toArray, List.set_cons_zero, List.set_cons_succ, i64_w, i32_w]
           rfl
          refine pure_ (i := 11) (N := some 90) (v := ?_) (a' := ?_) #[true, true, true, true, true, true, true, true, true, true, true, true, false, false, true, false, false] rfl rfl (any_of HT_.out (by kernel_rfl)) (fun _ _ _ h => h) (Or.inl ⟨by rfl, ?_⟩) ?_ ?_
          rotate_left
          ·intro w'
           go_simp
           with_reducible rfl
          rotate_left
          ·simp only [Act.put, List.setIfInBounds_toArray, List.set_cons_zero, List.set_cons_succ, i64_w, i32_w]
           rfl
          refine pure_ (i := 12) (N := some 102) (v := ?_) (a' := ?_) #[true, true, true, true, true, true, true, true, true, true, true, true, true, false, true, false, false] rfl rfl (any_of HT_.out (by kernel_rfl)) (fun _ _ _ h => h) (Or.inl ⟨by rfl, ?_⟩) ?_ ?_
          rotate_left
          ·intro w'
           go_simp
           with_reducible rfl
          rotate_left
          ·simp only [Act.put, List.setIfInBounds_toArray, List.set_cons_zero, List.set_cons_succ, i64_w, i32_w]
           rfl
          refine pure_ (i := 13) (N := some 103) (v := ?_) (a' := ?_) #[true, true, true, true, true, true, true, true, true, true, true, true, true, true, true, false, false] rfl rfl (any_of HT_.out (by kernel_rfl)) (fun _ _ _ h => h) (Or.inl ⟨by rfl, ?_⟩) ?_ ?_
          rotate_left
          ·intro w'
           go_simp
           with_reducible rfl
          rotate_left
          ·simp only [Act.put, List.setIfInBounds_toArray, List.set_cons_zero, List.set_cons_succ, i64_w, i32_w]
           rfl
          exact norm_ (by first | (simp only [putAll, Act.put, List.setIfInBounds_toArray, List.set_cons_zero, List.set_cons_succ]; done) | (simp only [putAll, Act.put, List.setIfInBounds_toArray, List.set_cons_zero, List.set_cons_succ]; rfl)) (hJ2_5_6_9_10_14 (gb356) _ ⟨hHeld, (kk_ BK305), (kk_ BK306), (kk_ BK307), (kk_ BK308), (kk_ BK314), (kk_ BK318), (kk_ BK322), (kk_ BK326), (kk_ BK330), (kk_ BK334), (kk_ BK337), (kk_ BK344), (kk_ BK356), GW356.out, GE356.out, NB305_356.out, NB356_305.out, NB306_356.out, NB356_306.out, NB307_356.out, NB356_307.out, NB308_356.out, NB356_308.out, NB314_356.out, NB356_314.out, NB318_356.out, NB356_318.out, NB322_356.out, NB356_322.out, NB326_356.out, NB356_326.out, NB330_356.out, NB356_330.out, NB334_356.out, NB356_334.out, NB337_356.out, NB356_337.out, NB344_356.out, NB356_344.out, (be_ HB).out⟩)
        ·skip
         rintro _ w170 ⟨hS_, h0_, h1_, h2_, h3_, h4_, h5_, h6_, h7_, h8_, h9_, h10_, h11_, h12_⟩
         have n0_ := Aside0.mk h0_
         have n1_ := Aside0.mk h1_
         have n2_ := Aside0.mk h2_
         have n3_ := Aside0.mk h3_
         have n4_ := Aside0.mk h4_
         have n5_ := Aside0.mk h5_
         have n6_ := Aside0.mk h6_
         have n7_ := Aside0.mk h7_
         have n8_ := Aside0.mk h8_
         have n9_ := Aside0.mk h9_
         have n10_ := Aside0.mk h10_
         have n11_ := Aside0.mk h11_
         have n12_ := Aside0.mk h12_
         clear BK305
         clear BK306
         clear BK307
         clear BK308
         clear BK314
         clear BK318
         clear BK322
         clear BK326
         clear BK330
         clear BK334
         clear BK337
         clear BK344
         clear HB
         clear h0_ h1_ h2_ h3_ h4_ h5_ h6_ h7_ h8_ h9_ h10_ h11_ h12_
         have BK305 := n0_
         have BK306 := n1_
         have BK307 := n2_
         have BK308 := n3_
         have BK314 := n4_
         have BK318 := n5_
         have BK322 := n6_
         have BK326 := n7_
         have BK330 := n8_
         have BK334 := n9_
         have BK337 := n10_
         have BK344 := n11_
         have HB := n12_
         clear n0_ n1_ n2_ n3_ n4_ n5_ n6_ n7_ n8_ n9_ n10_ n11_ n12_
         have hHeld : w170.cell? ⟨gb337, 0, none⟩ = some (.int .i64 t335) ∧ w170.cell? ⟨gb337, 1, none⟩ = some (.int .i64 t336) ∧ w170.cell? ⟨gb318, 0, none⟩ = some (.int .i64 t315) ∧ w170.cell? ⟨gb318, 1, none⟩ = some (.int .i64 t316) ∧ w170.cell? ⟨gb330, 0, none⟩ = some (.int .i64 t327) ∧ w170.cell? ⟨gb330, 1, none⟩ = some (.int .i64 t328) ∧ w170.cell? ⟨gb314, 0, none⟩ = some (.int .i64 t311) ∧ w170.cell? ⟨gb314, 1, none⟩ = some (.int .i64 t312) ∧ w170.cell? ⟨gb334, 0, none⟩ = some (.int .i64 t331) ∧ w170.cell? ⟨gb334, 1, none⟩ = some (.int .i64 t332) ∧ w170.cell? ⟨gb326, 0, none⟩ = some (.int .i64 t323) ∧ w170.cell? ⟨gb326, 1, none⟩ = some (.int .i64 t324) := hS_
         refine norm_ (a' := ?_) ?_ ?_
         rotate_left
         ·simp only [putAll, Act.put, List.setIfInBounds_toArray, List.set_cons_zero, List.set_cons_succ]
          rfl
         refine one_ (i := 14) (N := some 24) #[true, true, true, true, true, true, true, true, true, true, true, true, true, true, true, false, false] rfl rfl (one_of HT_.out (by kernel_rfl)) (by decide) (fun K hK => ?_)
         refine box_step ?hg (N := 24) ?hd (cs := #[.int .i64 0, .int .i64 0]) (t := 24) ?hr ?_; (case hd => rfl); (case hg => rfl); (case hr => first | (go_simp; done) | (go_simp; rfl))
         intro gb356 hg w171 hbox hb
         have BK356 := Aside0.mk (hbox)
         have GW356 := ge_ hg HB
         have GE356 := ge_ hg HB
         have NB305_356 := nl_ hg BK305
         have NB356_305 := ng_ hg BK305
         have NB306_356 := nl_ hg BK306
         have NB356_306 := ng_ hg BK306
         have NB307_356 := nl_ hg BK307
         have NB356_307 := ng_ hg BK307
         have NB308_356 := nl_ hg BK308
         have NB356_308 := ng_ hg BK308
         have NB314_356 := nl_ hg BK314
         have NB356_314 := ng_ hg BK314
         have NB318_356 := nl_ hg BK318
         have NB356_318 := ng_ hg BK318
         have NB322_356 := nl_ hg BK322
         have NB356_322 := ng_ hg BK322
         have NB326_356 := nl_ hg BK326
         have NB356_326 := ng_ hg BK326
         have NB330_356 := nl_ hg BK330
         have NB356_330 := ng_ hg BK330
         have NB334_356 := nl_ hg BK334
         have NB356_334 := ng_ hg BK334
         have NB337_356 := nl_ hg BK337
         have NB356_337 := ng_ hg BK337
         have NB344_356 := nl_ hg BK344
         have NB356_344 := ng_ hg BK344
         replace BK305 := kb_ BK305 hb
         replace BK306 := kb_ BK306 hb
         replace BK307 := kb_ BK307 hb
         replace BK308 := kb_ BK308 hb
         replace BK314 := kb_ BK314 hb
         replace BK318 := kb_ BK318 hb
         replace BK322 := kb_ BK322 hb
         replace BK326 := kb_ BK326 hb
         replace BK330 := kb_ BK330 hb
         replace BK334 := kb_ BK334 hb
         replace BK337 := kb_ BK337 hb
         replace BK344 := kb_ BK344 hb
         replace HB := bs_ HB hb
         clear hb hbox hg
         refine hK.out _ _ ⟨(blk_cell BK337.out 0).trans rfl, (blk_cell BK337.out 1).trans rfl, (blk_cell BK318.out 0).trans rfl, (blk_cell BK318.out 1).trans rfl, (blk_cell BK330.out 0).trans rfl, (blk_cell BK330.out 1).trans rfl, (blk_cell BK314.out 0).trans rfl, (blk_cell BK314.out 1).trans rfl, (blk_cell BK334.out 0).trans rfl, (blk_cell BK334.out 1).trans rfl, (blk_cell BK326.out 0).trans rfl, (blk_cell BK326.out 1).trans rfl⟩ (fun hHeld => ?_)
         clear hK K
         refine norm_ (a' := ?_) ?_ ?_
         rotate_left
         ·show Act.put _ (some 24) _ = _
          simp only [Act.put, List.setIfInBounds_toArray, List.set_cons_zero, List.set_cons_succ, i64_w, i32_w]
          rfl
         exact norm_ (by first | (simp only [putAll, Act.put, List.setIfInBounds_toArray, List.set_cons_zero, List.set_cons_succ]; done) | (simp only [putAll, Act.put, List.setIfInBounds_toArray, List.set_cons_zero, List.set_cons_succ]; rfl)) (hJ2_5_6_9_10_14 (gb356) _ ⟨hHeld, (kk_ BK305), (kk_ BK306), (kk_ BK307), (kk_ BK308), (kk_ BK314), (kk_ BK318), (kk_ BK322), (kk_ BK326), (kk_ BK330), (kk_ BK334), (kk_ BK337), (kk_ BK344), (kk_ BK356), GW356.out, GE356.out, NB305_356.out, NB356_305.out, NB306_356.out, NB356_306.out, NB307_356.out, NB356_307.out, NB308_356.out, NB356_308.out, NB314_356.out, NB356_314.out, NB318_356.out, NB356_318.out, NB322_356.out, NB356_322.out, NB326_356.out, NB356_326.out, NB330_356.out, NB356_330.out, NB334_356.out, NB356_334.out, NB337_356.out, NB356_337.out, NB344_356.out, NB356_344.out, (be_ HB).out⟩)
       rintro gb356 w171 ⟨hS_, h0_, h1_, h2_, h3_, h4_, h5_, h6_, h7_, h8_, h9_, h10_, h11_, h12_, h13_, h14_, h15_, h16_, h17_, h18_, h19_, h20_, h21_, h22_, h23_, h24_, h25_, h26_, h27_, h28_, h29_, h30_, h31_, h32_, h33_, h34_, h35_, h36_, h37_, h38_, h39_⟩
       have n0_ := Aside0.mk h0_
       have n1_ := Aside0.mk h1_
       have n2_ := Aside0.mk h2_
       have n3_ := Aside0.mk h3_
       have n4_ := Aside0.mk h4_
       have n5_ := Aside0.mk h5_
       have n6_ := Aside0.mk h6_
       have n7_ := Aside0.mk h7_
       have n8_ := Aside0.mk h8_
       have n9_ := Aside0.mk h9_
       have n10_ := Aside0.mk h10_
       have n11_ := Aside0.mk h11_
       have n12_ := Aside0.mk h12_
       have n13_ := Aside0.mk h13_
       have n14_ := Aside0.mk h14_
       have n15_ := Aside0.mk h15_
       have n16_ := Aside0.mk h16_
       have n17_ := Aside0.mk h17_
       have n18_ := Aside0.mk h18_
       have n19_ := Aside0.mk h19_
       have n20_ := Aside0.mk h20_
       have n21_ := Aside0.mk h21_
       have n22_ := Aside0.mk h22_
       have n23_ := Aside0.mk h23_
       have n24_ := Aside0.mk h24_
       have n25_ := Aside0.mk h25_
       have n26_ := Aside0.mk h26_
       have n27_ := Aside0.mk h27_
       have n28_ := Aside0.mk h28_
       have n29_ := Aside0.mk h29_
       have n30_ := Aside0.mk h30_
       have n31_ := Aside0.mk h31_
       have n32_ := Aside0.mk h32_
       have n33_ := Aside0.mk h33_
       have n34_ := Aside0.mk h34_
       have n35_ := Aside0.mk h35_
       have n36_ := Aside0.mk h36_
       have n37_ := Aside0.mk h37_
       have n38_ := Aside0.mk h38_
       have n39_ := Aside0.mk h39_
       clear BK305
       clear BK306
       clear BK307
       clear BK308
       clear BK314
       clear BK318
       clear BK322
       clear BK326
       clear BK330
       clear BK334
       clear BK337
       clear BK344
       clear HB
       clear h0_ h1_ h2_ h3_ h4_ h5_ h6_ h7_ h8_ h9_ h10_ h11_ h12_ h13_ h14_ h15_ h16_ h17_ h18_ h19_ h20_ h21_ h22_ h23_ h24_ h25_ h26_ h27_ h28_ h29_ h30_ h31_ h32_ h33_ h34_ h35_ h36_ h37_ h38_ h39_
       have BK305 := n0_
       have BK306 := n1_
       have BK307 := n2_
       have BK308 := n3_
       have BK314 := n4_
       have BK318 := n5_
       have BK322 := n6_
       have BK326 := n7_
       have BK330 := n8_
       have BK334 := n9_
       have BK337 := n10_
       have BK344 := n11_
       have BK356 := n12_
       have GW356 := n13_
       have GE356 := n14_
       have NB305_356 := n15_
       have NB356_305 := n16_
       have NB306_356 := n17_
       have NB356_306 := n18_
       have NB307_356 := n19_
       have NB356_307 := n20_
       have NB308_356 := n21_
       have NB356_308 := n22_
       have NB314_356 := n23_
       have NB356_314 := n24_
       have NB318_356 := n25_
       have NB356_318 := n26_
       have NB322_356 := n27_
       have NB356_322 := n28_
       have NB326_356 := n29_
       have NB356_326 := n30_
       have NB330_356 := n31_
       have NB356_330 := n32_
       have NB334_356 := n33_
       have NB356_334 := n34_
       have NB337_356 := n35_
       have NB356_337 := n36_
       have NB344_356 := n37_
       have NB356_344 := n38_
       have HB := n39_
       clear n0_ n1_ n2_ n3_ n4_ n5_ n6_ n7_ n8_ n9_ n10_ n11_ n12_ n13_ n14_ n15_ n16_ n17_ n18_ n19_ n20_ n21_ n22_ n23_ n24_ n25_ n26_ n27_ n28_ n29_ n30_ n31_ n32_ n33_ n34_ n35_ n36_ n37_ n38_ n39_
       have hHeld : w171.cell? ⟨gb337, 0, none⟩ = some (.int .i64 t335) ∧ w171.cell? ⟨gb337, 1, none⟩ = some (.int .i64 t336) ∧ w171.cell? ⟨gb318, 0, none⟩ = some (.int .i64 t315) ∧ w171.cell? ⟨gb318, 1, none⟩ = some (.int .i64 t316) ∧ w171.cell? ⟨gb330, 0, none⟩ = some (.int .i64 t327) ∧ w171.cell? ⟨gb330, 1, none⟩ = some (.int .i64 t328) ∧ w171.cell? ⟨gb314, 0, none⟩ = some (.int .i64 t311) ∧ w171.cell? ⟨gb314, 1, none⟩ = some (.int .i64 t312) ∧ w171.cell? ⟨gb334, 0, none⟩ = some (.int .i64 t331) ∧ w171.cell? ⟨gb334, 1, none⟩ = some (.int .i64 t332) ∧ w171.cell? ⟨gb326, 0, none⟩ = some (.int .i64 t323) ∧ w171.cell? ⟨gb326, 1, none⟩ = some (.int .i64 t324) := hS_
       refine norm_ (a' := ?_) ?_ ?_
       rotate_left
       ·simp only [putAll, Act.put, List.setIfInBounds_toArray, List.set_cons_zero, List.set_cons_succ]
        rfl
       refine one_ (i := 15) (N := none) #[true, true, true, true, true, true, true, true, true, true, true, true, true, true, true, true, false] rfl rfl (one_of HT_.out (by kernel_rfl)) (by decide) (fun K hK => ?_)
       have hs172 : w171.cell? ⟨gb356, 0, none⟩ = some (.int .i64 0) := (blk_cell BK356.out 0).trans rfl
       have hfs172 := blk_frozen BK356.out 0
       have hns172_0 := NB305_356.out
       have hns172_1 := NB306_356.out
       have hns172_2 := NB307_356.out
       have hns172_3 := NB308_356.out
       have hns172_4 := NB314_356.out
       have hns172_5 := NB318_356.out
       have hns172_6 := NB322_356.out
       have hns172_7 := NB326_356.out
       have hns172_8 := NB330_356.out
       have hns172_9 := NB334_356.out
       have hns172_10 := NB337_356.out
       have hns172_11 := NB344_356.out
       have hms172_0 := NB356_305.out
       have hms172_1 := NB356_306.out
       have hms172_2 := NB356_307.out
       have hms172_3 := NB356_308.out
       have hms172_4 := NB356_314.out
       have hms172_5 := NB356_318.out
       have hms172_6 := NB356_322.out
       have hms172_7 := NB356_326.out
       have hms172_8 := NB356_330.out
       have hms172_9 := NB356_334.out
       have hms172_10 := NB356_337.out
       have hms172_11 := NB356_344.out
       have hs173 : w171.cell? ⟨gb356, 1, none⟩ = some (.int .i64 0) := (blk_cell BK356.out 1).trans rfl
       have hfs173 := blk_frozen BK356.out 1
       have hns173_0 := NB305_356.out
       have hns173_1 := NB306_356.out
       have hns173_2 := NB307_356.out
       have hns173_3 := NB308_356.out
       have hns173_4 := NB314_356.out
       have hns173_5 := NB318_356.out
       have hns173_6 := NB322_356.out
       have hns173_7 := NB326_356.out
       have hns173_8 := NB330_356.out
       have hns173_9 := NB334_356.out
       have hns173_10 := NB337_356.out
       have hns173_11 := NB344_356.out
       have hms173_0 := NB356_305.out
       have hms173_1 := NB356_306.out
       have hms173_2 := NB356_307.out
       have hms173_3 := NB356_308.out
       have hms173_4 := NB356_314.out
       have hms173_5 := NB356_318.out
       have hms173_6 := NB356_322.out
       have hms173_7 := NB356_326.out
       have hms173_8 := NB356_330.out
       have hms173_9 := NB356_334.out
       have hms173_10 := NB356_337.out
       have hms173_11 := NB356_344.out
       refine skip_ (w1 := ?_) (by rfl) rfl ?_ ?_
       rotate_left
       ·go_simp
        rfl
       refine hK.out _ _ ⟨((cell_far (p := ⟨gb356, _, none⟩) NB337_356.out _).trans (((cell_far (p := ⟨gb356, _, none⟩) NB337_356.out _).trans (hHeld.1)))), ((cell_far (p := ⟨gb356, _, none⟩) NB337_356.out _).trans (((cell_far (p := ⟨gb356, _, none⟩) NB337_356.out _).trans (hHeld.2.1)))), ((cell_far (p := ⟨gb356, _, none⟩) NB318_356.out _).trans (((cell_far (p := ⟨gb356, _, none⟩) NB318_356.out _).trans (hHeld.2.2.1)))), ((cell_far (p := ⟨gb356, _, none⟩) NB318_356.out _).trans (((cell_far (p := ⟨gb356, _, none⟩) NB318_356.out _).trans (hHeld.2.2.2.1)))), ((cell_far (p := ⟨gb356, _, none⟩) NB330_356.out _).trans (((cell_far (p := ⟨gb356, _, none⟩) NB330_356.out _).trans (hHeld.2.2.2.2.1)))), ((cell_far (p := ⟨gb356, _, none⟩) NB330_356.out _).trans (((cell_far (p := ⟨gb356, _, none⟩) NB330_356.out _).trans (hHeld.2.2.2.2.2.1)))), ((cell_far (p := ⟨gb356, _, none⟩) NB314_356.out _).trans (((cell_far (p := ⟨gb356, _, none⟩) NB314_356.out _).trans (hHeld.2.2.2.2.2.2.1)))), ((cell_far (p := ⟨gb356, _, none⟩) NB314_356.out _).trans (((cell_far (p := ⟨gb356, _, none⟩) NB314_356.out _).trans (hHeld.2.2.2.2.2.2.2.1)))), ((cell_far (p := ⟨gb356, _, none⟩) NB334_356.out _).trans (((cell_far (p := ⟨gb356, _, none⟩) NB334_356.out _).trans (hHeld.2.2.2.2.2.2.2.2.1)))), ((cell_far (p := ⟨gb356, _, none⟩) NB334_356.out _).trans (((cell_far (p := ⟨gb356, _, none⟩) NB334_356.out _).trans (hHeld.2.2.2.2.2.2.2.2.2.1)))), ((cell_far (p := ⟨gb356, _, none⟩) NB326_356.out _).trans (((cell_far (p := ⟨gb356, _, none⟩) NB326_356.out _).trans (hHeld.2.2.2.2.2.2.2.2.2.2.1)))), ((cell_far (p := ⟨gb356, _, none⟩) NB326_356.out _).trans (((cell_far (p := ⟨gb356, _, none⟩) NB326_356.out _).trans (hHeld.2.2.2.2.2.2.2.2.2.2.2))))⟩ (fun hHeld => ?_)
       clear hK K
       refine pure_ (i := 16) (N := some 25) (v := ?_) (a' := ?_) #[true, true, true, true, true, true, true, true, true, true, true, true, true, true, true, true, true] rfl rfl (any_of HT_.out (by kernel_rfl)) (fun _ _ _ h => h) (Or.inl ⟨by rfl, ?_⟩) ?_ ?_
       rotate_left
       ·intro w'
        go_simp
        with_reducible rfl
       rotate_left
       ·simp only [Act.put, List.setIfInBounds_toArray, List.set_cons_zero, List.set_cons_succ, i64_w, i32_w]
        rfl
       refine done_ (done_of HT_.out (by kernel_rfl)) ?_
       go_upto_if 105 with (fail)
       (try simp only [Act.put, List.setIfInBounds_toArray, List.set_cons_zero, List.set_cons_succ])
       have H := HC73.out
       clear HC73
       by_cases c174 : t355 = 0
       ·rw [if_pos c174] at H
        have c174b0 : (t355 == 0) = true := beq_iff_eq.mpr c174
        have c174b1 : (t355 != 0) = false := bne_eq_false_iff_eq.mpr c174
        clear c174
        (first | rw [c174b0] | (simp only [i64_w, i32_w]; rw [c174b0]) | skip)
        replace H := Option.bind_eq_some_iff.mp H
        obtain ⟨⟨t357, t358, t359⟩, A1750, H⟩ := H
        replace H : (some (t353, t354, t357, t358, 0)) = some (r1, r2, r3, r4, r5) := H
        have A175 := Aside0.mk A1750
        clear A1750
        simp only [Option.some.injEq, Prod.mk.injEq] at H
        obtain ⟨rfl, rfl, rfl, rfl, rfl⟩ := H
        have hnb176 := NB344_305.out
        have hnc176 := NB305_344.out
        have hnb177 := NB344_306.out
        have hnc177 := NB306_344.out
        have hnb178 := NB344_307.out
        have hnc178 := NB307_344.out
        have hnb179 := NB344_308.out
        have hnc179 := NB308_344.out
        have hnb180 := NB344_314.out
        have hnc180 := NB314_344.out
        have hnb181 := NB344_318.out
        have hnc181 := NB318_344.out
        have hnb182 := NB344_322.out
        have hnc182 := NB322_344.out
        have hnb183 := NB344_326.out
        have hnc183 := NB326_344.out
        have hnb184 := NB344_330.out
        have hnc184 := NB330_344.out
        have hnb185 := NB344_334.out
        have hnc185 := NB334_344.out
        have hnb186 := NB344_337.out
        have hnc186 := NB337_344.out
        have hnb187 := NB344_356.out
        have hnc187 := NB356_344.out
        have hcz188_0 : w171.cell? ⟨gb344, 0, none⟩ = some (.int .i64 t342) := (blk_cell BK344.out 0).trans rfl
        have hcz188_1 : w171.cell? ⟨gb344, 1, none⟩ = some (.int .i64 t343) := (blk_cell BK344.out 1).trans rfl
        have hfz188_0 := blk_frozen BK344.out 0
        have hfz188_1 := blk_frozen BK344.out 1
        try go_wp2_with (first | ((with_reducible refine gate_callee (f := 61) rfl ?_); refine goesL_ (some 111) rfl rfl Try.func61 (by kernel_rfl) rfl #[.agg #[.int .i64 t342, .int .i64 t343]] rfl (by (try simp only [List.map_toArray, List.map_cons, List.map_nil]); first | done | rfl | (simp only [List.length_drop, List.length_take]; rfl)) ?_; (with_reducible refine (trig_ArcSin.calls kj39 t342 t343 t357 t358 t359 _ A175.out).mono ?_); rintro e w189 ⟨rfl, hb⟩; refine ⟨_, rfl, ?_⟩; have n0_ := kb_ BK305 hb; have n1_ := kb_ BK306 hb; have n2_ := kb_ BK307 hb; have n3_ := kb_ BK308 hb; have n4_ := kb_ BK314 hb; have n5_ := kb_ BK318 hb; have n6_ := kb_ BK322 hb; have n7_ := kb_ BK326 hb; have n8_ := kb_ BK330 hb; have n9_ := kb_ BK334 hb; have n10_ := kb_ BK337 hb; have n11_ := kb_ BK344 hb; have n12_ := Aside0.mk (blk_below (g := gb356) (o := .cells #[.int .i64 t353, .int .i64 t354] 24 (0, 0)) (by (with_reducible repeat (first | refine blk_drewN ?_ _ | refine blk_drew ?_ | refine blk_alloc ?_ _)); refine blk_put (cs := #[.int .i64 t353, .int .i64 0]) ?_ 1 _ rfl; (with_reducible repeat (first | refine blk_drewN ?_ _ | refine blk_drew ?_ | refine blk_alloc ?_ _)); refine blk_put (cs := #[.int .i64 0, .int .i64 0]) ?_ 0 _ rfl; (with_reducible repeat (first | refine blk_drewN ?_ _ | refine blk_drew ?_ | refine blk_alloc ?_ _)); exact BK356.out) hb); have n13_ := bs_ HB hb; clear BK305; clear BK306; clear BK307; clear BK308; clear BK314; clear BK318; clear BK322; clear BK326; clear BK330; clear BK334; clear BK337; clear BK344; clear BK356; clear HB; have BK305 := n0_; have BK306 := n1_; have BK307 := n2_; have BK308 := n3_; have BK314 := n4_; have BK318 := n5_; have BK322 := n6_; have BK326 := n7_; have BK330 := n8_; have BK334 := n9_; have BK337 := n10_; have BK344 := n11_; have BK356 := n12_; have HB := n13_; clear n0_ n1_ n2_ n3_ n4_ n5_ n6_ n7_ n8_ n9_ n10_ n11_ n12_ n13_; (try clear hb); (try clear hb2); (try clear hk); (try clear hi)) | ((with_reducible refine gate_dst (N := 26) rfl ?_); refine box_event ?hg (N := 26) ?hd (cs := #[.int .i64 0, .int .i64 0]) (t := 24) ?hr ?_; (case hd => rfl); (case hg => rfl); (case hr => first | (go_simp; done) | (go_simp; rfl)); intro gb360 hg w190 hbox hb; have BK360 := Aside0.mk (hbox); have GW360 := ge_ hg HB; have GE360 := ge_ hg HB; have NB305_360 := nl_ hg BK305; have NB360_305 := ng_ hg BK305; have NB306_360 := nl_ hg BK306; have NB360_306 := ng_ hg BK306; have NB307_360 := nl_ hg BK307; have NB360_307 := ng_ hg BK307; have NB308_360 := nl_ hg BK308; have NB360_308 := ng_ hg BK308; have NB314_360 := nl_ hg BK314; have NB360_314 := ng_ hg BK314; have NB318_360 := nl_ hg BK318; have NB360_318 := ng_ hg BK318; have NB322_360 := nl_ hg BK322; have NB360_322 := ng_ hg BK322; have NB326_360 := nl_ hg BK326; have NB360_326 := ng_ hg BK326; have NB330_360 := nl_ hg BK330; have NB360_330 := ng_ hg BK330; have NB334_360 := nl_ hg BK334; have NB360_334 := ng_ hg BK334; have NB337_360 := nl_ hg BK337; have NB360_337 := ng_ hg BK337; have NB344_360 := nl_ hg BK344; have NB360_344 := ng_ hg BK344; have NB356_360 := nl_ hg BK356; have NB360_356 := ng_ hg BK356; replace BK305 := kb_ BK305 hb; replace BK306 := kb_ BK306 hb; replace BK307 := kb_ BK307 hb; replace BK308 := kb_ BK308 hb; replace BK314 := kb_ BK314 hb; replace BK318 := kb_ BK318 hb; replace BK322 := kb_ BK322 hb; replace BK326 := kb_ BK326 hb; replace BK330 := kb_ BK330 hb; replace BK334 := kb_ BK334 hb; replace BK337 := kb_ BK337 hb; replace BK344 := kb_ BK344 hb; replace BK356 := kb_ BK356 hb; replace HB := bs_ HB hb; clear hb hbox hg; have hnb191 := NB360_305.out; have hnc191 := NB305_360.out; have hnb192 := NB360_306.out; have hnc192 := NB306_360.out; have hnb193 := NB360_307.out; have hnc193 := NB307_360.out; have hnb194 := NB360_308.out; have hnc194 := NB308_360.out; have hnb195 := NB360_314.out; have hnc195 := NB314_360.out; have hnb196 := NB360_318.out; have hnc196 := NB318_360.out; have hnb197 := NB360_322.out; have hnc197 := NB322_360.out; have hnb198 := NB360_326.out; have hnc198 := NB326_360.out; have hnb199 := NB360_330.out; have hnc199 := NB330_360.out; have hnb200 := NB360_334.out; have hnc200 := NB334_360.out; have hnb201 := NB360_337.out; have hnc201 := NB337_360.out; have hnb202 := NB360_344.out; have hnc202 := NB344_360.out; have hnb203 := NB360_356.out; have hnc203 := NB356_360.out; have hcz204_0 : w190.cell? ⟨gb360, 0, none⟩ = some (.int .i64 0) := (blk_cell BK360.out 0).trans rfl; have hcz204_1 : w190.cell? ⟨gb360, 1, none⟩ = some (.int .i64 0) := (blk_cell BK360.out 1).trans rfl; have hfz204_0 := blk_frozen BK360.out 0; have hfz204_1 := blk_frozen BK360.out 1))
        have n0_ : Aside0 (((w190.setCell ⟨gb360, 0, none⟩ (.int .i64 t357)).setCell ⟨gb360, 1, none⟩ (.int .i64 t358)).heap[gb305]? = some (.cells #[.int .i64 a0_0, .int .i64 a0_1] 24 (0, 0))) := ⟨kk_ BK305⟩
        have n1_ : Aside0 (((w190.setCell ⟨gb360, 0, none⟩ (.int .i64 t357)).setCell ⟨gb360, 1, none⟩ (.int .i64 t358)).heap[gb306]? = some (.cells #[.int .i64 a1_0, .int .i64 a1_1] 24 (0, 0))) := ⟨kk_ BK306⟩
        have n2_ : Aside0 (((w190.setCell ⟨gb360, 0, none⟩ (.int .i64 t357)).setCell ⟨gb360, 1, none⟩ (.int .i64 t358)).heap[gb307]? = some (.cells #[.int .i64 x308000_1, .int .i64 x308001_1] 24 (0, 0))) := ⟨kk_ BK307⟩
        have n3_ : Aside0 (((w190.setCell ⟨gb360, 0, none⟩ (.int .i64 t357)).setCell ⟨gb360, 1, none⟩ (.int .i64 t358)).heap[gb308]? = some (.cells #[.int .i64 x309000_1, .int .i64 x309001_1] 24 (0, 0))) := ⟨kk_ BK308⟩
        have n4_ : Aside0 (((w190.setCell ⟨gb360, 0, none⟩ (.int .i64 t357)).setCell ⟨gb360, 1, none⟩ (.int .i64 t358)).heap[gb314]? = some (.cells #[.int .i64 t311, .int .i64 t312] 24 (0, 0))) := ⟨kk_ BK314⟩
        have n5_ : Aside0 (((w190.setCell ⟨gb360, 0, none⟩ (.int .i64 t357)).setCell ⟨gb360, 1, none⟩ (.int .i64 t358)).heap[gb318]? = some (.cells #[.int .i64 t315, .int .i64 t316] 24 (0, 0))) := ⟨kk_ BK318⟩
        have n6_ : Aside0 (((w190.setCell ⟨gb360, 0, none⟩ (.int .i64 t357)).setCell ⟨gb360, 1, none⟩ (.int .i64 t358)).heap[gb322]? = some (.cells #[.int .i64 t319, .int .i64 t320] 24 (0, 0))) := ⟨kk_ BK322⟩
        have n7_ : Aside0 (((w190.setCell ⟨gb360, 0, none⟩ (.int .i64 t357)).setCell ⟨gb360, 1, none⟩ (.int .i64 t358)).heap[gb326]? = some (.cells #[.int .i64 t323, .int .i64 t324] 24 (0, 0))) := ⟨kk_ BK326⟩
        have n8_ : Aside0 (((w190.setCell ⟨gb360, 0, none⟩ (.int .i64 t357)).setCell ⟨gb360, 1, none⟩ (.int .i64 t358)).heap[gb330]? = some (.cells #[.int .i64 t327, .int .i64 t328] 24 (0, 0))) := ⟨kk_ BK330⟩
        have n9_ : Aside0 (((w190.setCell ⟨gb360, 0, none⟩ (.int .i64 t357)).setCell ⟨gb360, 1, none⟩ (.int .i64 t358)).heap[gb334]? = some (.cells #[.int .i64 t331, .int .i64 t332] 24 (0, 0))) := ⟨kk_ BK334⟩
        have n10_ : Aside0 (((w190.setCell ⟨gb360, 0, none⟩ (.int .i64 t357)).setCell ⟨gb360, 1, none⟩ (.int .i64 t358)).heap[gb337]? = some (.cells #[.int .i64 t335, .int .i64 t336] 24 (0, 0))) := ⟨kk_ BK337⟩
        have n11_ : Aside0 (((w190.setCell ⟨gb360, 0, none⟩ (.int .i64 t357)).setCell ⟨gb360, 1, none⟩ (.int .i64 t358)).heap[gb344]? = some (.cells #[.int .i64 t342, .int .i64 t343] 24 (0, 0))) := ⟨kk_ BK344⟩
        have n12_ : Aside0 (((w190.setCell ⟨gb360, 0, none⟩ (.int .i64 t357)).setCell ⟨gb360, 1, none⟩ (.int .i64 t358)).heap[gb356]? = some (.cells #[.int .i64 t353, .int .i64 t354] 24 (0, 0))) := ⟨kk_ BK356⟩
        have n13_ : Aside0 (((w190.setCell ⟨gb360, 0, none⟩ (.int .i64 t357)).setCell ⟨gb360, 1, none⟩ (.int .i64 t358)).heap[gb360]? = some (.cells #[.int .i64 t357, .int .i64 t358] 24 (0, 0))) := ⟨by (with_reducible repeat (first | refine blk_drewN ?_ _ | refine blk_drew ?_ | refine blk_alloc ?_ _)); refine blk_put (cs := #[.int .i64 t357, .int .i64 0]) ?_ 1 _ rfl; (with_reducible repeat (first | refine blk_drewN ?_ _ | refine blk_drew ?_ | refine blk_alloc ?_ _)); refine blk_put (cs := #[.int .i64 0, .int .i64 0]) ?_ 0 _ rfl; (with_reducible repeat (first | refine blk_drewN ?_ _ | refine blk_drew ?_ | refine blk_alloc ?_ _)); exact BK360.out⟩
        have n14_ : Aside0 (Below w.heap.size w ((w190.setCell ⟨gb360, 0, none⟩ (.int .i64 t357)).setCell ⟨gb360, 1, none⟩ (.int .i64 t358))) := (be_ HB)
        (try clear BK305)
        (try clear BK306)
        (try clear BK307)
        (try clear BK308)
        (try clear BK314)
        (try clear BK318)
        (try clear BK322)
        (try clear BK326)
        (try clear BK330)
        (try clear BK334)
        (try clear BK337)
        (try clear BK344)
        (try clear BK356)
        (try clear BK360)
        (try clear HB)
        generalize ((w190.setCell ⟨gb360, 0, none⟩ (.int .i64 t357)).setCell ⟨gb360, 1, none⟩ (.int .i64 t358)) = w205 at n0_ n1_ n2_ n3_ n4_ n5_ n6_ n7_ n8_ n9_ n10_ n11_ n12_ n13_ n14_ ⊢
        have BK305 := n0_
        have BK306 := n1_
        have BK307 := n2_
        have BK308 := n3_
        have BK314 := n4_
        have BK318 := n5_
        have BK322 := n6_
        have BK326 := n7_
        have BK330 := n8_
        have BK334 := n9_
        have BK337 := n10_
        have BK344 := n11_
        have BK356 := n12_
        have BK360 := n13_
        have HB := n14_
        clear n0_ n1_ n2_ n3_ n4_ n5_ n6_ n7_ n8_ n9_ n10_ n11_ n12_ n13_ n14_
        replace BK305 := Aside0.mk (blk_drew BK305.out)
        replace BK306 := Aside0.mk (blk_drew BK306.out)
        replace BK307 := Aside0.mk (blk_drew BK307.out)
        replace BK308 := Aside0.mk (blk_drew BK308.out)
        replace BK314 := Aside0.mk (blk_drew BK314.out)
        replace BK318 := Aside0.mk (blk_drew BK318.out)
        replace BK322 := Aside0.mk (blk_drew BK322.out)
        replace BK326 := Aside0.mk (blk_drew BK326.out)
        replace BK330 := Aside0.mk (blk_drew BK330.out)
        replace BK334 := Aside0.mk (blk_drew BK334.out)
        replace BK337 := Aside0.mk (blk_drew BK337.out)
        replace BK344 := Aside0.mk (blk_drew BK344.out)
        replace BK356 := Aside0.mk (blk_drew BK356.out)
        replace BK360 := Aside0.mk (blk_drew BK360.out)
        replace HB := Aside0.mk (below_drew1 HB.out)
        refine start_ (n := 5) (S := fun w' => w'.cell? ⟨gb356, 0, none⟩ = some (.int .i64 t353) ∧ w'.cell? ⟨gb356, 1, none⟩ = some (.int .i64 t354) ∧ w'.cell? ⟨gb360, 0, none⟩ = some (.int .i64 t357) ∧ w'.cell? ⟨gb360, 1, none⟩ = some (.int .i64 t358)) (ds := []) #[false, false, false, false, false] (by kernel_rfl) rfl rfl ⟨(blk_cell BK356.out 0).trans rfl, (blk_cell BK356.out 1).trans rfl, (blk_cell BK360.out 0).trans rfl, (blk_cell BK360.out 1).trans rfl⟩ (fun hHeld => ?_)
        generalize w205.drew = w206 at BK305 BK306 BK307 BK308 BK314 BK318 BK322 BK326 BK330 BK334 BK337 BK344 BK356 BK360 HB hHeld ⊢
        refine take_ (i := 0) (N := some 114) (v := ?_) (a' := ?_) #[true, false, false, false, false] rfl rfl (by kernel_rfl) (fun _ _ _ h => h) (Or.inl ⟨by rfl, ?_⟩) hHeld ?_ ?_
        rotate_left
        ·rintro w' ⟨s0, s1, s2, s3⟩
         go_simp
         with_reducible rfl
        rotate_left
        ·simp only [Act.put, List.setIfInBounds_toArray, List.set_cons_zero, List.set_cons_succ, i64_w, i32_w]
         rfl
        refine take_ (i := 1) (N := some 115) (v := ?_) (a' := ?_) #[true, true, false, false, false] rfl rfl (by kernel_rfl) (fun _ _ _ h => h) (Or.inl ⟨by rfl, ?_⟩) hHeld ?_ ?_
        rotate_left
        ·rintro w' ⟨s0, s1, s2, s3⟩
         go_simp
         with_reducible rfl
        rotate_left
        ·simp only [Act.put, List.setIfInBounds_toArray, List.set_cons_zero, List.set_cons_succ, i64_w, i32_w]
         rfl
        refine one_ (i := 2) (N := none) #[true, true, true, false, false] rfl rfl (by kernel_rfl) (by decide) (fun K hK => ?_)
        have hs207 : w206.cell? ⟨gb307, 0, none⟩ = some (.int .i64 x308000_1) := (blk_cell BK307.out 0).trans rfl
        have hfs207 := blk_frozen BK307.out 0
        have hns207_0 := NB305_307.out
        have hns207_1 := NB306_307.out
        have hns207_3 := NB308_307.out
        have hns207_4 := NB314_307.out
        have hns207_5 := NB318_307.out
        have hns207_6 := NB322_307.out
        have hns207_7 := NB326_307.out
        have hns207_8 := NB330_307.out
        have hns207_9 := NB334_307.out
        have hns207_10 := NB337_307.out
        have hns207_11 := NB344_307.out
        have hns207_12 := NB356_307.out
        have hns207_13 := NB360_307.out
        have hms207_0 := NB307_305.out
        have hms207_1 := NB307_306.out
        have hms207_3 := NB307_308.out
        have hms207_4 := NB307_314.out
        have hms207_5 := NB307_318.out
        have hms207_6 := NB307_322.out
        have hms207_7 := NB307_326.out
        have hms207_8 := NB307_330.out
        have hms207_9 := NB307_334.out
        have hms207_10 := NB307_337.out
        have hms207_11 := NB307_344.out
        have hms207_12 := NB307_356.out
        have hms207_13 := NB307_360.out
        have hs208 : w206.cell? ⟨gb307, 1, none⟩ = some (.int .i64 x308001_1) := (blk_cell BK307.out 1).trans rfl
        have hfs208 := blk_frozen BK307.out 1
        have hns208_0 := NB305_307.out
        have hns208_1 := NB306_307.out
        have hns208_3 := NB308_307.out
        have hns208_4 := NB314_307.out
        have hns208_5 := NB318_307.out
        have hns208_6 := NB322_307.out
        have hns208_7 := NB326_307.out
        have hns208_8 := NB330_307.out
        have hns208_9 := NB334_307.out
        have hns208_10 := NB337_307.out
        have hns208_11 := NB344_307.out
        have hns208_12 := NB356_307.out
        have hns208_13 := NB360_307.out
        have hms208_0 := NB307_305.out
        have hms208_1 := NB307_306.out
        have hms208_3 := NB307_308.out
        have hms208_4 := NB307_314.out
        have hms208_5 := NB307_318.out
        have hms208_6 := NB307_322.out
        have hms208_7 := NB307_326.out
        have hms208_8 := NB307_330.out
        have hms208_9 := NB307_334.out
        have hms208_10 := NB307_337.out
        have hms208_11 := NB307_344.out
        have hms208_12 := NB307_356.out
        have hms208_13 := NB307_360.out
        refine skip_ (w1 := ?_) (by rfl) rfl ?_ ?_
        rotate_left
        ·go_simp
         rfl
        refine hK.out _ _ ⟨((cell_far (p := ⟨gb307, _, none⟩) NB356_307.out _).trans (((cell_far (p := ⟨gb307, _, none⟩) NB356_307.out _).trans (hHeld.1)))), ((cell_far (p := ⟨gb307, _, none⟩) NB356_307.out _).trans (((cell_far (p := ⟨gb307, _, none⟩) NB356_307.out _).trans (hHeld.2.1)))), ((cell_far (p := ⟨gb307, _, none⟩) NB360_307.out _).trans (((cell_far (p := ⟨gb307, _, none⟩) NB360_307.out _).trans (hHeld.2.2.1)))), ((cell_far (p := ⟨gb307, _, none⟩) NB360_307.out _).trans (((cell_far (p := ⟨gb307, _, none⟩) NB360_307.out _).trans (hHeld.2.2.2))))⟩ (fun hHeld => ?_)
        clear hK K
        refine one_ (i := 3) (N := none) #[true, true, true, true, false] rfl rfl (by kernel_rfl) (by decide) (fun K hK => ?_)
        have hs209 : w206.cell? ⟨gb308, 0, none⟩ = some (.int .i64 x309000_1) := (blk_cell BK308.out 0).trans rfl
        have hfs209 := blk_frozen BK308.out 0
        have hns209_0 := NB305_308.out
        have hns209_1 := NB306_308.out
        have hns209_2 := NB307_308.out
        have hns209_4 := NB314_308.out
        have hns209_5 := NB318_308.out
        have hns209_6 := NB322_308.out
        have hns209_7 := NB326_308.out
        have hns209_8 := NB330_308.out
        have hns209_9 := NB334_308.out
        have hns209_10 := NB337_308.out
        have hns209_11 := NB344_308.out
        have hns209_12 := NB356_308.out
        have hns209_13 := NB360_308.out
        have hms209_0 := NB308_305.out
        have hms209_1 := NB308_306.out
        have hms209_2 := NB308_307.out
        have hms209_4 := NB308_314.out
        have hms209_5 := NB308_318.out
        have hms209_6 := NB308_322.out
        have hms209_7 := NB308_326.out
        have hms209_8 := NB308_330.out
        have hms209_9 := NB308_334.out
        have hms209_10 := NB308_337.out
        have hms209_11 := NB308_344.out
        have hms209_12 := NB308_356.out
        have hms209_13 := NB308_360.out
        have hs210 : w206.cell? ⟨gb308, 1, none⟩ = some (.int .i64 x309001_1) := (blk_cell BK308.out 1).trans rfl
        have hfs210 := blk_frozen BK308.out 1
        have hns210_0 := NB305_308.out
        have hns210_1 := NB306_308.out
        have hns210_2 := NB307_308.out
        have hns210_4 := NB314_308.out
        have hns210_5 := NB318_308.out
        have hns210_6 := NB322_308.out
        have hns210_7 := NB326_308.out
        have hns210_8 := NB330_308.out
        have hns210_9 := NB334_308.out
        have hns210_10 := NB337_308.out
        have hns210_11 := NB344_308.out
        have hns210_12 := NB356_308.out
        have hns210_13 := NB360_308.out
        have hms210_0 := NB308_305.out
        have hms210_1 := NB308_306.out
        have hms210_2 := NB308_307.out
        have hms210_4 := NB308_314.out
        have hms210_5 := NB308_318.out
        have hms210_6 := NB308_322.out
        have hms210_7 := NB308_326.out
        have hms210_8 := NB308_330.out
        have hms210_9 := NB308_334.out
        have hms210_10 := NB308_337.out
        have hms210_11 := NB308_344.out
        have hms210_12 := NB308_356.out
        have hms210_13 := NB308_360.out
        refine skip_ (w1 := ?_) (by rfl) rfl ?_ ?_
        rotate_left
        ·go_simp
         rfl
        refine hK.out _ _ ⟨((cell_far (p := ⟨gb308, _, none⟩) NB356_308.out _).trans (((cell_far (p := ⟨gb308, _, none⟩) NB356_308.out _).trans (hHeld.1)))), ((cell_far (p := ⟨gb308, _, none⟩) NB356_308.out _).trans (((cell_far (p := ⟨gb308, _, none⟩) NB356_308.out _).trans (hHeld.2.1)))), ((cell_far (p := ⟨gb308, _, none⟩) NB360_308.out _).trans (((cell_far (p := ⟨gb308, _, none⟩) NB360_308.out _).trans (hHeld.2.2.1)))), ((cell_far (p := ⟨gb308, _, none⟩) NB360_308.out _).trans (((cell_far (p := ⟨gb308, _, none⟩) NB360_308.out _).trans (hHeld.2.2.2))))⟩ (fun hHeld => ?_)
        clear hK K
        refine pure_ (i := 4) (N := some 6) (v := ?_) (a' := ?_) #[true, true, true, true, true] rfl rfl (by kernel_rfl) (fun _ _ _ h => h) (Or.inl ⟨by rfl, ?_⟩) ?_ ?_
        rotate_left
        ·intro w'
         go_simp
         with_reducible rfl
        rotate_left
        ·simp only [Act.put, List.setIfInBounds_toArray, List.set_cons_zero, List.set_cons_succ, i64_w, i32_w]
         rfl
        refine done_ (by kernel_rfl) ?_
        try go_wp2
        refine bodyPost_ret (results_list (rs := [.cell 4 24, .cell 5 24, .tmp 6]) rfl (by simp) (.cell gb307 24 #[.int .i64 t353, .int .i64 t354] (0, 0) _ rfl (by (with_reducible repeat (first | refine blk_drewN ?_ _ | refine blk_drew ?_ | refine blk_alloc ?_ _)); refine blk_far ?_ NB307_308.out _; (with_reducible repeat (first | refine blk_drewN ?_ _ | refine blk_drew ?_ | refine blk_alloc ?_ _)); refine blk_far ?_ NB307_308.out _; (with_reducible repeat (first | refine blk_drewN ?_ _ | refine blk_drew ?_ | refine blk_alloc ?_ _)); refine blk_put (cs := #[.int .i64 t353, .int .i64 x308001_1]) ?_ 1 _ rfl; (with_reducible repeat (first | refine blk_drewN ?_ _ | refine blk_drew ?_ | refine blk_alloc ?_ _)); refine blk_put (cs := #[.int .i64 x308000_1, .int .i64 x308001_1]) ?_ 0 _ rfl; (with_reducible repeat (first | refine blk_drewN ?_ _ | refine blk_drew ?_ | refine blk_alloc ?_ _)); exact BK307.out) Try.underlying24 rfl (by kernel_rfl) (.cell gb308 24 #[.int .i64 t357, .int .i64 t358] (0, 0) _ rfl (by (with_reducible repeat (first | refine blk_drewN ?_ _ | refine blk_drew ?_ | refine blk_alloc ?_ _)); refine blk_put (cs := #[.int .i64 t357, .int .i64 x309001_1]) ?_ 1 _ rfl; (with_reducible repeat (first | refine blk_drewN ?_ _ | refine blk_drew ?_ | refine blk_alloc ?_ _)); refine blk_put (cs := #[.int .i64 x309000_1, .int .i64 x309001_1]) ?_ 0 _ rfl; (with_reducible repeat (first | refine blk_drewN ?_ _ | refine blk_drew ?_ | refine blk_alloc ?_ _)); refine blk_far ?_ NB308_307.out _; (with_reducible repeat (first | refine blk_drewN ?_ _ | refine blk_drew ?_ | refine blk_alloc ?_ _)); refine blk_far ?_ NB308_307.out _; (with_reducible repeat (first | refine blk_drewN ?_ _ | refine blk_drew ?_ | refine blk_alloc ?_ _)); exact BK308.out) Try.underlying24 rfl (by kernel_rfl) (.tmp .nil)))) rfl ?_
        exact ⟨by first | rfl | (simp [errW_none, errW_some] <;> rfl) | (simp [*, errW_none, errW_some] <;> rfl), (be_ HB).out⟩
       ·rw [if_neg c174] at H
        have c174b0 : (t355 == 0) = false := beq_eq_false_iff_ne.mpr c174
        have c174b1 : (t355 != 0) = true := bne_iff_ne.mpr c174
        (first | rw [c174b0] | (simp only [i64_w, i32_w]; rw [c174b0]) | skip)
        simp only [Option.some.injEq, Prod.mk.injEq] at H
        obtain ⟨rfl, rfl, rfl, rfl, rfl⟩ := H
        have hnb211 := NB307_305.out
        have hnc211 := NB305_307.out
        have hnb212 := NB307_306.out
        have hnc212 := NB306_307.out
        have hnb213 := NB307_308.out
        have hnc213 := NB308_307.out
        have hnb214 := NB307_314.out
        have hnc214 := NB314_307.out
        have hnb215 := NB307_318.out
        have hnc215 := NB318_307.out
        have hnb216 := NB307_322.out
        have hnc216 := NB322_307.out
        have hnb217 := NB307_326.out
        have hnc217 := NB326_307.out
        have hnb218 := NB307_330.out
        have hnc218 := NB330_307.out
        have hnb219 := NB307_334.out
        have hnc219 := NB334_307.out
        have hnb220 := NB307_337.out
        have hnc220 := NB337_307.out
        have hnb221 := NB307_344.out
        have hnc221 := NB344_307.out
        have hnb222 := NB307_356.out
        have hnc222 := NB356_307.out
        have hcz223_0 : w171.cell? ⟨gb307, 0, none⟩ = some (.int .i64 x308000_1) := (blk_cell BK307.out 0).trans rfl
        have hcz223_1 : w171.cell? ⟨gb307, 1, none⟩ = some (.int .i64 x308001_1) := (blk_cell BK307.out 1).trans rfl
        have hfz223_0 := blk_frozen BK307.out 0
        have hfz223_1 := blk_frozen BK307.out 1
        have hnb224 := NB308_305.out
        have hnc224 := NB305_308.out
        have hnb225 := NB308_306.out
        have hnc225 := NB306_308.out
        have hnb226 := NB308_314.out
        have hnc226 := NB314_308.out
        have hnb227 := NB308_318.out
        have hnc227 := NB318_308.out
        have hnb228 := NB308_322.out
        have hnc228 := NB322_308.out
        have hnb229 := NB308_326.out
        have hnc229 := NB326_308.out
        have hnb230 := NB308_330.out
        have hnc230 := NB330_308.out
        have hnb231 := NB308_334.out
        have hnc231 := NB334_308.out
        have hnb232 := NB308_337.out
        have hnc232 := NB337_308.out
        have hnb233 := NB308_344.out
        have hnc233 := NB344_308.out
        have hnb234 := NB308_356.out
        have hnc234 := NB356_308.out
        have hcz235_0 : w171.cell? ⟨gb308, 0, none⟩ = some (.int .i64 x309000_1) := (blk_cell BK308.out 0).trans rfl
        have hcz235_1 : w171.cell? ⟨gb308, 1, none⟩ = some (.int .i64 x309001_1) := (blk_cell BK308.out 1).trans rfl
        have hfz235_0 := blk_frozen BK308.out 0
        have hfz235_1 := blk_frozen BK308.out 1
        go_wp2
        refine bodyPost_ret (results_list (rs := [.cell 4 24, .cell 5 24, .tmp 6]) rfl (by simp) (.cell gb307 24 #[.int .i64 0, .int .i64 0] (0, 0) _ rfl (by (with_reducible repeat (first | refine blk_drewN ?_ _ | refine blk_drew ?_ | refine blk_alloc ?_ _)); refine blk_far ?_ NB307_308.out _; (with_reducible repeat (first | refine blk_drewN ?_ _ | refine blk_drew ?_ | refine blk_alloc ?_ _)); refine blk_far ?_ NB307_308.out _; (with_reducible repeat (first | refine blk_drewN ?_ _ | refine blk_drew ?_ | refine blk_alloc ?_ _)); refine blk_put (cs := #[.int .i64 0, .int .i64 x308001_1]) ?_ 1 _ rfl; (with_reducible repeat (first | refine blk_drewN ?_ _ | refine blk_drew ?_ | refine blk_alloc ?_ _)); refine blk_put (cs := #[.int .i64 x308000_1, .int .i64 x308001_1]) ?_ 0 _ rfl; (with_reducible repeat (first | refine blk_drewN ?_ _ | refine blk_drew ?_ | refine blk_alloc ?_ _)); refine blk_far ?_ NB307_356.out _; (with_reducible repeat (first | refine blk_drewN ?_ _ | refine blk_drew ?_ | refine blk_alloc ?_ _)); refine blk_far ?_ NB307_356.out _; (with_reducible repeat (first | refine blk_drewN ?_ _ | refine blk_drew ?_ | refine blk_alloc ?_ _)); exact BK307.out) Try.underlying24 rfl (by kernel_rfl) (.cell gb308 24 #[.int .i64 0, .int .i64 0] (0, 0) _ rfl (by (with_reducible repeat (first | refine blk_drewN ?_ _ | refine blk_drew ?_ | refine blk_alloc ?_ _)); refine blk_put (cs := #[.int .i64 0, .int .i64 x309001_1]) ?_ 1 _ rfl; (with_reducible repeat (first | refine blk_drewN ?_ _ | refine blk_drew ?_ | refine blk_alloc ?_ _)); refine blk_put (cs := #[.int .i64 x309000_1, .int .i64 x309001_1]) ?_ 0 _ rfl; (with_reducible repeat (first | refine blk_drewN ?_ _ | refine blk_drew ?_ | refine blk_alloc ?_ _)); refine blk_far ?_ NB308_307.out _; (with_reducible repeat (first | refine blk_drewN ?_ _ | refine blk_drew ?_ | refine blk_alloc ?_ _)); refine blk_far ?_ NB308_307.out _; (with_reducible repeat (first | refine blk_drewN ?_ _ | refine blk_drew ?_ | refine blk_alloc ?_ _)); refine blk_far ?_ NB308_356.out _; (with_reducible repeat (first | refine blk_drewN ?_ _ | refine blk_drew ?_ | refine blk_alloc ?_ _)); refine blk_far ?_ NB308_356.out _; (with_reducible repeat (first | refine blk_drewN ?_ _ | refine blk_drew ?_ | refine blk_alloc ?_ _)); exact BK308.out) Try.underlying24 rfl (by kernel_rfl) (.tmp .nil)))) rfl ?_
        exact ⟨by first | rfl | (simp [errW_none, errW_some] <;> rfl) | (simp [*, errW_none, errW_some] <;> rfl), (be_ HB).out⟩
end Go.Proofs.Ytbnchibmegclmaa.PAll
