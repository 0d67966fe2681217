/- Written by a program of this session out of the translation. -/
import Derived.Test.YtedakilpogagiaaSunEquatorsn17
namespace Go.Proofs.Ytedakilpogagiaa.PAll
open Go.RowKit Go.Proofs.YtedakilpogagiaaW.PrintWords Go.Proofs.YtedakilpogagiaaW.PrintLast Go.Proofs.YtedakilpogagiaaW.PrintMore Go.Proofs.Ytedakilpogagiaa.More2 Go.Proofs.Ytedakilpogagiaa.Sq
attribute [local go_sem] max2_int min2_int max_two min_two max_three min_three max_four min_four tdiv2e18_ tdiv1e18_ cellSS_  -- for this text's walks alone
set_option linter.unusedVariables false
set_option linter.unusedSimpArgs false
attribute [local go_sem high] eqA23
mutual
def ephemerislaw2_SunEquators.j0 : Nat → Int → Int → Bool → Int → Int → Int → Int → Int → Int → Int → Int → Option (Bool)
 | 0, _, _, _, _, _, _, _, _, _, _, _ => none
 | k + 1, x7, x8, x37, x339000, x339001, x340000, x340001, x347000, x347001, x348000, x348001 => if x37 = true then (ephemerislaw2_SunEquators.j1 k x7 3 x339000 x339001 x340000 x340001 x347000 x347001 x348000 x348001) else (ephemerislaw2_SunEquators.j1 k x7 x8 x339000 x339001 x340000 x340001 x347000 x347001 x348000 x348001)
def ephemerislaw2_SunEquators.j1 : Nat → Int → Int → Int → Int → Int → Int → Int → Int → Int → Int → Option (Bool)
 | 0, _, _, _, _, _, _, _, _, _, _ => none
 | k + 1, x7, x8, x339000, x339001, x340000, x340001, x347000, x347001, x348000, x348001 => if x8 = 0 then (if x7 = 0 then ((some (([x339000, x339001] : List Int) : List Int)).bind fun y350 => (ephemerislaw2_SunEquators.l0 k y350 (y350.length : Int) 0 x340000 x340001 x347000 x347001 x348000 x348001)) else (if x7 = 11 then (if x339000 < x339001 then (some true) else (some (decide (x340000 < x340001)))) else (some false))) else ((ephemerislaw2_none.f x347000 x347001 x7 x8).bind fun t349 => (if t349 = true then (some (x348000 == 0 && (x348001 == 0))) else (some false)))
def ephemerislaw2_SunEquators.l0 : Nat → List Int → Int → Int → Int → Int → Int → Int → Int → Int → Option (Bool)
 | 0, _, _, _, _, _, _, _, _, _ => none
 | k + 1, x71, x72, x73, x340000, x340001, x347000, x347001, x348000, x348001 => if x73 < x72 then (if 0 ≤ x73 then (if x73 < (x71.length : Int) then ((some (([x340000, x340001] : List Int) : List Int)).bind fun y354 => (ephemerislaw2_SunEquators.l1 k (rd x71 x73) x71 x72 x73 y354 (y354.length : Int) 0 x340000 x340001 x347000 x347001 x348000 x348001)) else (none)) else (none)) else (some true)
def ephemerislaw2_SunEquators.l1 : Nat → Int → List Int → Int → Int → List Int → Int → Int → Int → Int → Int → Int → Int → Int → Option (Bool)
 | 0, _, _, _, _, _, _, _, _, _, _, _, _, _ => none
 | k + 1, x10, x71, x72, x73, x81, x82, x83, x340000, x340001, x347000, x347001, x348000, x348001 => if x83 < x82 then (if 0 ≤ x83 then (if x83 < (x81.length : Int) then ((ephemerisref2_Mod.f x10 1000000000).bind fun t358 => ((ephemerisref2_Equator.f k (wrap64 (t358 * 1048576)) (wrap64 ((rd x81 x83) * 1048576))).bind fun bt359 => ((ephemerisref2_InArc.f k x347000 x347001 bt359.2.1 bt359.1).bind fun t363 => (if t363 = true then ((ephemerisref2_InArcSin.f k x348000 x348001 bt359.2.2).bind fun t364 => (if t364 = true then (ephemerislaw2_SunEquators.l1 k x10 x71 x72 x73 x81 x82 (wrap64 (x83 + 1)) x340000 x340001 x347000 x347001 x348000 x348001) else (some false))) else (some false))))) else (none)) else (none)) else (ephemerislaw2_SunEquators.l0 k x71 x72 (wrap64 (x73 + 1)) x340000 x340001 x347000 x347001 x348000 x348001)
end
def ephemerislaw2_SunEquators.f (k : Nat) (a0_0 : Int) (a0_1 : Int) (a1_0 : Int) (a1_1 : Int) : Option (Bool) := (ephemerislaw2_sunWorks.f k).bind fun t340 => (if t340 = true then ((sun_Equator.f k a0_0 a0_1 a1_0 a1_1).bind fun bt341 => ((ephemerisref2_TwoErr.f k a0_0 a0_1 a1_0 a1_1).bind fun t348 => (if t348 = 0 then (if a1_0 < (-125000000) then (ephemerislaw2_SunEquators.j0 k bt341.2.2.2.2 t348 true a0_0 a0_1 a1_0 a1_1 bt341.1 bt341.2.1 bt341.2.2.1 bt341.2.2.2.1) else (ephemerislaw2_SunEquators.j0 k bt341.2.2.2.2 t348 (decide (a1_1 > 125000000)) a0_0 a0_1 a1_0 a1_1 bt341.1 bt341.2.1 bt341.2.2.1 bt341.2.2.2.1)) else (ephemerislaw2_SunEquators.j0 k bt341.2.2.2.2 t348 false a0_0 a0_1 a1_0 a1_1 bt341.1 bt341.2.1 bt341.2.2.1 bt341.2.2.2.1)))) else (some false))
set_option maxHeartbeats 8000000 in
set_option maxRecDepth 100000 in
theorem ephemerislaw2_SunEquators.calls (k : Nat) (a0_0 : Int) (a0_1 : Int) (a1_0 : Int) (a1_1 : Int) (r : Bool) (w : World) (h : ephemerislaw2_SunEquators.f k a0_0 a0_1 a1_0 a1_1 = some r) (hT : r = true) :
  Calls Try.prog 3 #[.agg #[.int .i64 a0_0, .int .i64 a0_1], .agg #[.int .i64 a1_0, .int .i64 a1_1]] w fun e w' => e = .returned (.bool r) ∧ Below w.heap.size w w' := by
 have hu23 := Try.underlying23
 have hu32 := Try.underlying32
 have HB := Aside0.mk (Below.refl w.heap.size w)
 have H : ((ephemerislaw2_sunWorks.f k).bind fun t340 => (if t340 = true then ((sun_Equator.f k a0_0 a0_1 a1_0 a1_1).bind fun bt341 => ((ephemerisref2_TwoErr.f k a0_0 a0_1 a1_0 a1_1).bind fun t348 => (if t348 = 0 then (if a1_0 < (-125000000) then (ephemerislaw2_SunEquators.j0 k bt341.2.2.2.2 t348 true a0_0 a0_1 a1_0 a1_1 bt341.1 bt341.2.1 bt341.2.2.1 bt341.2.2.2.1) else (ephemerislaw2_SunEquators.j0 k bt341.2.2.2.2 t348 (decide (a1_1 > 125000000)) a0_0 a0_1 a1_0 a1_1 bt341.1 bt341.2.1 bt341.2.2.1 bt341.2.2.2.1)) else (ephemerislaw2_SunEquators.j0 k bt341.2.2.2.2 t348 false a0_0 a0_1 a1_0 a1_1 bt341.1 bt341.2.1 bt341.2.2.1 bt341.2.2.2.1)))) else (some false))) = some r := h
 clear h
 replace H := Option.bind_eq_some_iff.mp H
 obtain ⟨t340, A30, H⟩ := H
 replace H : (if t340 = true then ((sun_Equator.f k a0_0 a0_1 a1_0 a1_1).bind fun bt341 => ((ephemerisref2_TwoErr.f k a0_0 a0_1 a1_0 a1_1).bind fun t348 => (if t348 = 0 then (if a1_0 < (-125000000) then (ephemerislaw2_SunEquators.j0 k bt341.2.2.2.2 t348 true a0_0 a0_1 a1_0 a1_1 bt341.1 bt341.2.1 bt341.2.2.1 bt341.2.2.2.1) else (ephemerislaw2_SunEquators.j0 k bt341.2.2.2.2 t348 (decide (a1_1 > 125000000)) a0_0 a0_1 a1_0 a1_1 bt341.1 bt341.2.1 bt341.2.2.1 bt341.2.2.2.1)) else (ephemerislaw2_SunEquators.j0 k bt341.2.2.2.2 t348 false a0_0 a0_1 a1_0 a1_1 bt341.1 bt341.2.1 bt341.2.2.1 bt341.2.2.2.1)))) else (some false)) = some r := H
 have A3 := Aside0.mk A30
 clear A30
 by_cases c4 : t340 = true
 ·subst c4
  have H1 : ((sun_Equator.f k a0_0 a0_1 a1_0 a1_1).bind fun bt341 => ((ephemerisref2_TwoErr.f k a0_0 a0_1 a1_0 a1_1).bind fun t348 => (if t348 = 0 then (if a1_0 < (-125000000) then (ephemerislaw2_SunEquators.j0 k bt341.2.2.2.2 t348 true a0_0 a0_1 a1_0 a1_1 bt341.1 bt341.2.1 bt341.2.2.1 bt341.2.2.2.1) else (ephemerislaw2_SunEquators.j0 k bt341.2.2.2.2 t348 (decide (a1_1 > 125000000)) a0_0 a0_1 a1_0 a1_1 bt341.1 bt341.2.1 bt341.2.2.1 bt341.2.2.2.1)) else (ephemerislaw2_SunEquators.j0 k bt341.2.2.2.2 t348 false a0_0 a0_1 a1_0 a1_1 bt341.1 bt341.2.1 bt341.2.2.1 bt341.2.2.2.1)))) = some r := by rw [if_pos rfl] at H; exact H
  clear H
  have H := H1
  clear H1
  replace H := Option.bind_eq_some_iff.mp H
  obtain ⟨⟨t341, t342, t343, t344, t345⟩, A50, H⟩ := H
  replace H : ((ephemerisref2_TwoErr.f k a0_0 a0_1 a1_0 a1_1).bind fun t348 => (if t348 = 0 then (if a1_0 < (-125000000) then (ephemerislaw2_SunEquators.j0 k t345 t348 true a0_0 a0_1 a1_0 a1_1 t341 t342 t343 t344) else (ephemerislaw2_SunEquators.j0 k t345 t348 (decide (a1_1 > 125000000)) a0_0 a0_1 a1_0 a1_1 t341 t342 t343 t344)) else (ephemerislaw2_SunEquators.j0 k t345 t348 false a0_0 a0_1 a1_0 a1_1 t341 t342 t343 t344))) = some r := H
  have A5 := Aside0.mk A50
  clear A50
  replace H := Option.bind_eq_some_iff.mp H
  obtain ⟨t348, A60, H⟩ := H
  replace H : (if t348 = 0 then (if a1_0 < (-125000000) then (ephemerislaw2_SunEquators.j0 k t345 t348 true a0_0 a0_1 a1_0 a1_1 t341 t342 t343 t344) else (ephemerislaw2_SunEquators.j0 k t345 t348 (decide (a1_1 > 125000000)) a0_0 a0_1 a1_0 a1_1 t341 t342 t343 t344)) else (ephemerislaw2_SunEquators.j0 k t345 t348 false a0_0 a0_1 a1_0 a1_1 t341 t342 t343 t344)) = some r := H
  have A6 := Aside0.mk A60
  clear A60
  have HC7 := Aside0.mk H
  clear H
  go_enter Try.func3, Try.ntmps3
  go_upto_region 5 with (first | ((with_reducible refine gate_dst (N := 2) rfl ?_); refine box_event ?hg (N := 2) ?hd (cs := #[.int .i64 a0_0, .int .i64 a0_1]) (t := 23) ?hr ?_; (case hd => rfl); (case hg => rfl); (case hr => first | (go_simp; done) | (go_simp; rfl)); intro gb338 hg w8 hbox hb; have BK338 := Aside0.mk (hbox); have GW338 := ge_ hg HB; have GE338 := ge_ hg HB; replace HB := bs_ HB hb; clear hb hbox hg) | ((with_reducible refine gate_dst (N := 3) rfl ?_); refine box_event ?hg (N := 3) ?hd (cs := #[.int .i64 a1_0, .int .i64 a1_1]) (t := 23) ?hr ?_; (case hd => rfl); (case hg => rfl); (case hr => first | (go_simp; done) | (go_simp; rfl)); intro gb339 hg w9 hbox hb; have BK339 := Aside0.mk (hbox); have GW339 := ge_ hg HB; have GE339 := ge_ hg HB; have NB338_339 := nl_ hg BK338; have NB339_338 := ng_ hg BK338; replace BK338 := kb_ BK338 hb; replace HB := bs_ HB hb; clear hb hbox hg) | ((with_reducible refine gate_callee (f := 15) rfl ?_); refine goesL_ (some 14) rfl rfl Try.func15 (by kernel_rfl) rfl #[] rfl (by (try simp only [List.map_toArray, List.map_cons, List.map_nil]); first | done | rfl | (simp only [List.length_drop, List.length_take]; rfl)) ?_; (with_reducible refine (ephemerislaw2_sunWorks.calls k  true _ A3.out rfl).mono ?_); rintro e w10 ⟨rfl, hb⟩; refine ⟨_, rfl, ?_⟩; replace BK338 := kb_ BK338 hb; replace BK339 := kb_ BK339 hb; replace HB := bs_ HB hb; (try clear hb); (try clear hb2); (try clear hk); (try clear hi); have hnb11 := NB338_339.out; have hnc11 := NB339_338.out; have hcz12_0 : w10.cell? ⟨gb338, 0, none⟩ = some (.int .i64 a0_0) := (blk_cell BK338.out 0).trans rfl; have hcz12_1 : w10.cell? ⟨gb338, 1, none⟩ = some (.int .i64 a0_1) := (blk_cell BK338.out 1).trans rfl; have hfz12_0 := blk_frozen BK338.out 0; have hfz12_1 := blk_frozen BK338.out 1; have hcz13_0 : w10.cell? ⟨gb339, 0, none⟩ = some (.int .i64 a1_0) := (blk_cell BK339.out 0).trans rfl; have hcz13_1 : w10.cell? ⟨gb339, 1, none⟩ = some (.int .i64 a1_1) := (blk_cell BK339.out 1).trans rfl; have hfz13_0 := blk_frozen BK339.out 0; have hfz13_1 := blk_frozen BK339.out 1) | ((with_reducible refine gate_callee (f := 16) rfl ?_); refine goesL_ (some 19) rfl rfl Try.func16 (by kernel_rfl) rfl #[.agg #[.int .i64 a0_0, .int .i64 a0_1], .agg #[.int .i64 a1_0, .int .i64 a1_1]] rfl (by (try simp only [List.map_toArray, List.map_cons, List.map_nil]); first | done | rfl | (simp only [List.length_drop, List.length_take]; rfl)) ?_; (with_reducible refine (sun_Equator.calls k a0_0 a0_1 a1_0 a1_1 t341 t342 t343 t344 t345 _ A5.out).mono ?_); rintro e w14 ⟨rfl, hb⟩; refine ⟨_, rfl, ?_⟩; replace BK338 := kb_ BK338 hb; replace BK339 := kb_ BK339 hb; replace HB := bs_ HB hb; (try clear hb); (try clear hb2); (try clear hk); (try clear hi)) | ((with_reducible refine gate_dst (N := 5) rfl ?_); refine box_event ?hg (N := 5) ?hd (cs := #[.int .i64 0, .int .i64 0]) (t := 23) ?hr ?_; (case hd => rfl); (case hg => rfl); (case hr => first | (go_simp; done) | (go_simp; rfl)); intro gb346 hg w15 hbox hb; have BK346 := Aside0.mk (hbox); have GW346 := ge_ hg HB; have GE346 := ge_ hg HB; have NB338_346 := nl_ hg BK338; have NB346_338 := ng_ hg BK338; have NB339_346 := nl_ hg BK339; have NB346_339 := ng_ hg BK339; replace BK338 := kb_ BK338 hb; replace BK339 := kb_ BK339 hb; replace HB := bs_ HB hb; clear hb hbox hg) | ((with_reducible refine gate_dst (N := 6) rfl ?_); refine box_event ?hg (N := 6) ?hd (cs := #[.int .i64 0, .int .i64 0]) (t := 23) ?hr ?_; (case hd => rfl); (case hg => rfl); (case hr => first | (go_simp; done) | (go_simp; rfl)); intro gb347 hg w16 hbox hb; have BK347 := Aside0.mk (hbox); have GW347 := ge_ hg HB; have GE347 := ge_ hg HB; have NB338_347 := nl_ hg BK338; have NB347_338 := ng_ hg BK338; have NB339_347 := nl_ hg BK339; have NB347_339 := ng_ hg BK339; have NB346_347 := nl_ hg BK346; have NB347_346 := ng_ hg BK346; replace BK338 := kb_ BK338 hb; replace BK339 := kb_ BK339 hb; replace BK346 := kb_ BK346 hb; replace HB := bs_ HB hb; clear hb hbox hg; have hnb17 := NB346_338.out; have hnc17 := NB338_346.out; have hnb18 := NB346_339.out; have hnc18 := NB339_346.out; have hnb19 := NB346_347.out; have hnc19 := NB347_346.out; have hcz20_0 : w16.cell? ⟨gb346, 0, none⟩ = some (.int .i64 0) := (blk_cell BK346.out 0).trans rfl; have hcz20_1 : w16.cell? ⟨gb346, 1, none⟩ = some (.int .i64 0) := (blk_cell BK346.out 1).trans rfl; have hfz20_0 := blk_frozen BK346.out 0; have hfz20_1 := blk_frozen BK346.out 1; have hnb21 := NB347_338.out; have hnc21 := NB338_347.out; have hnb22 := NB347_339.out; have hnc22 := NB339_347.out; have hcz23_0 : w16.cell? ⟨gb347, 0, none⟩ = some (.int .i64 0) := (blk_cell BK347.out 0).trans rfl; have hcz23_1 : w16.cell? ⟨gb347, 1, none⟩ = some (.int .i64 0) := (blk_cell BK347.out 1).trans rfl; have hfz23_0 := blk_frozen BK347.out 0; have hfz23_1 := blk_frozen BK347.out 1; have hcz24_0 : w16.cell? ⟨gb338, 0, none⟩ = some (.int .i64 a0_0) := (blk_cell BK338.out 0).trans rfl; have hcz24_1 : w16.cell? ⟨gb338, 1, none⟩ = some (.int .i64 a0_1) := (blk_cell BK338.out 1).trans rfl; have hfz24_0 := blk_frozen BK338.out 0; have hfz24_1 := blk_frozen BK338.out 1; have hcz25_0 : w16.cell? ⟨gb339, 0, none⟩ = some (.int .i64 a1_0) := (blk_cell BK339.out 0).trans rfl; have hcz25_1 : w16.cell? ⟨gb339, 1, none⟩ = some (.int .i64 a1_1) := (blk_cell BK339.out 1).trans rfl; have hfz25_0 := blk_frozen BK339.out 0; have hfz25_1 := blk_frozen BK339.out 1) | ((with_reducible refine gate_callee (f := 17) rfl ?_); refine goesL_ (some 25) rfl rfl Try.func17 (by kernel_rfl) rfl #[.agg #[.int .i64 a0_0, .int .i64 a0_1], .agg #[.int .i64 a1_0, .int .i64 a1_1]] rfl (by (try simp only [List.map_toArray, List.map_cons, List.map_nil]); first | done | rfl | (simp only [List.length_drop, List.length_take]; rfl)) ?_; (with_reducible refine (ephemerisref2_TwoErr.calls k a0_0 a0_1 a1_0 a1_1 t348 _ A6.out).mono ?_); rintro e w26 ⟨rfl, hb⟩; refine ⟨_, rfl, ?_⟩; have n0_ := kb_ BK338 hb; have n1_ := kb_ BK339 hb; have n2_ := Aside0.mk (blk_below (g := gb346) (o := .cells #[.int .i64 t341, .int .i64 t342] 23 (0, 0)) (by (with_reducible repeat (first | refine blk_drewN ?_ _ | refine blk_drew ?_ | refine blk_alloc ?_ _)); refine blk_far ?_ NB346_347.out _; (with_reducible repeat (first | refine blk_drewN ?_ _ | refine blk_drew ?_ | refine blk_alloc ?_ _)); refine blk_far ?_ NB346_347.out _; (with_reducible repeat (first | refine blk_drewN ?_ _ | refine blk_drew ?_ | refine blk_alloc ?_ _)); refine blk_put (cs := #[.int .i64 t341, .int .i64 0]) ?_ 1 _ rfl; (with_reducible repeat (first | refine blk_drewN ?_ _ | refine blk_drew ?_ | refine blk_alloc ?_ _)); refine blk_put (cs := #[.int .i64 0, .int .i64 0]) ?_ 0 _ rfl; (with_reducible repeat (first | refine blk_drewN ?_ _ | refine blk_drew ?_ | refine blk_alloc ?_ _)); exact BK346.out) hb); have n3_ := Aside0.mk (blk_below (g := gb347) (o := .cells #[.int .i64 t343, .int .i64 t344] 23 (0, 0)) (by (with_reducible repeat (first | refine blk_drewN ?_ _ | refine blk_drew ?_ | refine blk_alloc ?_ _)); refine blk_put (cs := #[.int .i64 t343, .int .i64 0]) ?_ 1 _ rfl; (with_reducible repeat (first | refine blk_drewN ?_ _ | refine blk_drew ?_ | refine blk_alloc ?_ _)); refine blk_put (cs := #[.int .i64 0, .int .i64 0]) ?_ 0 _ rfl; (with_reducible repeat (first | refine blk_drewN ?_ _ | refine blk_drew ?_ | refine blk_alloc ?_ _)); refine blk_far ?_ NB347_346.out _; (with_reducible repeat (first | refine blk_drewN ?_ _ | refine blk_drew ?_ | refine blk_alloc ?_ _)); refine blk_far ?_ NB347_346.out _; (with_reducible repeat (first | refine blk_drewN ?_ _ | refine blk_drew ?_ | refine blk_alloc ?_ _)); exact BK347.out) hb); have n4_ := bs_ HB hb; clear BK338; clear BK339; clear BK346; clear BK347; clear HB; have BK338 := n0_; have BK339 := n1_; have BK346 := n2_; have BK347 := n3_; have HB := n4_; clear n0_ n1_ n2_ n3_ n4_; (try clear hb); (try clear hb2); (try clear hk); (try clear hi)))
  (try simp only [Act.put, List.setIfInBounds_toArray, List.set_cons_zero, List.set_cons_succ])
  go_cut [37] (fun v37 wc => ∃ (kq : Nat) (x37_6 : Bool), v37 = .bool x37_6 ∧ Aside0 (ephemerislaw2_SunEquators.j0 kq t345 t348 x37_6 a0_0 a0_1 a1_0 a1_1 t341 t342 t343 t344 = some r) ∧ Aside0 (kq ≤ k) ∧ Aside0 (wc.heap[gb338]? = some (.cells #[.int .i64 a0_0, .int .i64 a0_1] 23 (0, 0))) ∧ Aside0 (wc.heap[gb339]? = some (.cells #[.int .i64 a1_0, .int .i64 a1_1] 23 (0, 0))) ∧ Aside0 (wc.heap[gb346]? = some (.cells #[.int .i64 t341, .int .i64 t342] 23 (0, 0))) ∧ Aside0 (wc.heap[gb347]? = some (.cells #[.int .i64 t343, .int .i64 t344] 23 (0, 0))) ∧ Aside0 (Below w.heap.size w wc))
  case first =>
   have H := HC7.out
   clear HC7
   by_cases c27 : t348 = 0
   ·rw [if_pos c27] at H
    have c27b0 : (t348 == 0) = true := beq_iff_eq.mpr c27
    have c27b1 : (t348 != 0) = false := bne_eq_false_iff_eq.mpr c27
    clear c27
    (first | rw [c27b0] | (simp only [i64_w, i32_w]; rw [c27b0]) | skip)
    by_cases c28 : a1_0 < (-125000000)
    ·rw [if_pos c28] at H
     have c28b0 : decide (a1_0 < (-125000000)) = true := decide_eq_true c28
     clear c28
     have H' := Aside0.mk H
     clear H
     have hnb29 := NB339_338.out
     have hnc29 := NB338_339.out
     have hnb30 := NB339_346.out
     have hnc30 := NB346_339.out
     have hnb31 := NB339_347.out
     have hnc31 := NB347_339.out
     have hcz32_0 : w26.cell? ⟨gb339, 0, none⟩ = some (.int .i64 a1_0) := (blk_cell BK339.out 0).trans rfl
     have hcz32_1 : w26.cell? ⟨gb339, 1, none⟩ = some (.int .i64 a1_1) := (blk_cell BK339.out 1).trans rfl
     have hfz32_0 := blk_frozen BK339.out 0
     have hfz32_1 := blk_frozen BK339.out 1
     go_wp2
     go_meet
     case rel => exact ⟨_, (true), (by first | rfl | (simp; done) | (simp [*]; done)), H', ⟨by first | omega | exact Nat.le_refl _⟩, ⟨kk_ BK338⟩, ⟨kk_ BK339⟩, ⟨kk_ BK346⟩, ⟨kk_ BK347⟩, (be_ HB)⟩
    ·rw [if_neg c28] at H
     have c28b0 : decide (a1_0 < (-125000000)) = false := decide_eq_false c28
     clear c28
     have H' := Aside0.mk H
     clear H
     have hnb33 := NB339_338.out
     have hnc33 := NB338_339.out
     have hnb34 := NB339_346.out
     have hnc34 := NB346_339.out
     have hnb35 := NB339_347.out
     have hnc35 := NB347_339.out
     have hcz36_0 : w26.cell? ⟨gb339, 0, none⟩ = some (.int .i64 a1_0) := (blk_cell BK339.out 0).trans rfl
     have hcz36_1 : w26.cell? ⟨gb339, 1, none⟩ = some (.int .i64 a1_1) := (blk_cell BK339.out 1).trans rfl
     have hfz36_0 := blk_frozen BK339.out 0
     have hfz36_1 := blk_frozen BK339.out 1
     go_wp2
     go_meet
     case rel => exact ⟨_, (decide (a1_1 > 125000000)), (by first | rfl | (simp; done) | (simp [*]; done)), H', ⟨by first | omega | exact Nat.le_refl _⟩, ⟨kk_ BK338⟩, ⟨kk_ BK339⟩, ⟨kk_ BK346⟩, ⟨kk_ BK347⟩, (be_ HB)⟩
   ·rw [if_neg c27] at H
    have c27b0 : (t348 == 0) = false := beq_eq_false_iff_ne.mpr c27
    have c27b1 : (t348 != 0) = true := bne_iff_ne.mpr c27
    (first | rw [c27b0] | (simp only [i64_w, i32_w]; rw [c27b0]) | skip)
    have H' := Aside0.mk H
    clear H
    go_wp2
    go_meet
    case rel => exact ⟨_, (false), (by first | rfl | (simp; done) | (simp [*]; done)), H', ⟨by first | omega | exact Nat.le_refl _⟩, ⟨kk_ BK338⟩, ⟨kk_ BK339⟩, ⟨kk_ BK346⟩, ⟨kk_ BK347⟩, (be_ HB)⟩
  case rest =>
   clear HC7
   try clear c1
   try clear c2
   try clear p2
   try clear c3
   try clear c4
   try clear c11
   try clear c15
   try clear c16
   try clear c17
   try clear c18
   try clear c19
   try clear c21
   try clear c22
   try clear c27
   try clear c27b0
   try clear c27b1
   try clear c28
   try clear c28b0
   try clear c29
   try clear c30
   try clear c31
   try clear c33
   try clear c34
   try clear c35
   try clear hcz12_0
   try clear hcz12_1
   try clear hcz13_0
   try clear hcz13_1
   try clear hcz20_0
   try clear hcz20_1
   try clear hcz23_0
   try clear hcz23_1
   try clear hcz24_0
   try clear hcz24_1
   try clear hcz25_0
   try clear hcz25_1
   try clear hcz32_0
   try clear hcz32_1
   try clear hcz36_0
   try clear hcz36_1
   try clear hfz12_0
   try clear hfz12_1
   try clear hfz13_0
   try clear hfz13_1
   try clear hfz20_0
   try clear hfz20_1
   try clear hfz23_0
   try clear hfz23_1
   try clear hfz24_0
   try clear hfz24_1
   try clear hfz25_0
   try clear hfz25_1
   try clear hfz32_0
   try clear hfz32_1
   try clear hfz36_0
   try clear hfz36_1
   obtain ⟨kq, x37_6, rfl, HA, HJ6, BK338, BK339, BK346, BK347, HB⟩ := hcut
   cases kq with
   | zero => exact absurd HA.out (by simp [ephemerislaw2_SunEquators.j0])
   | succ kj6 =>
    have H := HA.out
    clear HA
    simp only [ephemerislaw2_SunEquators.j0] at H
    have HC37 := Aside0.mk H
    clear H
    go_upto_if 37 with (fail)
    go_cut [8] (fun v8 wc => ∃ (kq : Nat) (x8_36 : Int), v8 = .int .i64 x8_36 ∧ Aside0 (ephemerislaw2_SunEquators.j1 kq t345 x8_36 a0_0 a0_1 a1_0 a1_1 t341 t342 t343 t344 = some r) ∧ Aside0 (kq ≤ kj6) ∧ Aside0 (wc.heap[gb338]? = some (.cells #[.int .i64 a0_0, .int .i64 a0_1] 23 (0, 0))) ∧ Aside0 (wc.heap[gb339]? = some (.cells #[.int .i64 a1_0, .int .i64 a1_1] 23 (0, 0))) ∧ Aside0 (wc.heap[gb346]? = some (.cells #[.int .i64 t341, .int .i64 t342] 23 (0, 0))) ∧ Aside0 (wc.heap[gb347]? = some (.cells #[.int .i64 t343, .int .i64 t344] 23 (0, 0))) ∧ Aside0 (Below w.heap.size w wc))
    case first =>
     have H := HC37.out
     clear HC37
     by_cases c38 : x37_6 = true
     ·subst c38
      have H1 : (ephemerislaw2_SunEquators.j1 kj6 t345 3 a0_0 a0_1 a1_0 a1_1 t341 t342 t343 t344) = some r := by rw [if_pos rfl] at H; exact H
      clear H
      have H := H1
      clear H1
      have H' := Aside0.mk H
      clear H
      go_wp2
      go_meet
      case rel => exact ⟨_, (3), (by first | rfl | (simp; done) | (simp [*]; done)), H', ⟨by have := HJ6.out; first | omega | exact Nat.le_refl _⟩, ⟨kk_ BK338⟩, ⟨kk_ BK339⟩, ⟨kk_ BK346⟩, ⟨kk_ BK347⟩, (be_ HB)⟩
     ·replace c38 := Bool.eq_false_iff.mpr c38
      subst c38
      have H1 : (ephemerislaw2_SunEquators.j1 kj6 t345 t348 a0_0 a0_1 a1_0 a1_1 t341 t342 t343 t344) = some r := by rw [if_neg (show ¬ (false = true) by decide)] at H; exact H
      clear H
      have H := H1
      clear H1
      have H' := Aside0.mk H
      clear H
      go_wp2
      go_meet
      case rel => exact ⟨_, (t348), (by first | rfl | (simp; done) | (simp [*]; done)), H', ⟨by have := HJ6.out; first | omega | exact Nat.le_refl _⟩, ⟨kk_ BK338⟩, ⟨kk_ BK339⟩, ⟨kk_ BK346⟩, ⟨kk_ BK347⟩, (be_ HB)⟩
    case rest =>
     clear HC37
     try clear c1
     try clear c2
     try clear p2
     try clear c3
     try clear c4
     try clear c11
     try clear c15
     try clear c16
     try clear c17
     try clear c18
     try clear c19
     try clear c21
     try clear c22
     try clear c27
     try clear c27b0
     try clear c27b1
     try clear c28
     try clear c28b0
     try clear c29
     try clear c30
     try clear c31
     try clear c33
     try clear c34
     try clear c35
     try clear c38
     try clear hcz12_0
     try clear hcz12_1
     try clear hcz13_0
     try clear hcz13_1
     try clear hcz20_0
     try clear hcz20_1
     try clear hcz23_0
     try clear hcz23_1
     try clear hcz24_0
     try clear hcz24_1
     try clear hcz25_0
     try clear hcz25_1
     try clear hcz32_0
     try clear hcz32_1
     try clear hcz36_0
     try clear hcz36_1
     try clear hfz12_0
     try clear hfz12_1
     try clear hfz13_0
     try clear hfz13_1
     try clear hfz20_0
     try clear hfz20_1
     try clear hfz23_0
     try clear hfz23_1
     try clear hfz24_0
     try clear hfz24_1
     try clear hfz25_0
     try clear hfz25_1
     try clear hfz32_0
     try clear hfz32_1
     try clear hfz36_0
     try clear hfz36_1
     try clear p2
     obtain ⟨kq, x8_36, rfl, HA, HJ36, BK338, BK339, BK346, BK347, HB⟩ := hcut
     cases kq with
     | zero => exact absurd HA.out (by simp [ephemerislaw2_SunEquators.j1])
     | succ kj36 =>
      have H := HA.out
      clear HA
      simp only [ephemerislaw2_SunEquators.j1] at H
      by_cases c39 : x8_36 = 0
      ·rw [if_pos c39] at H
       have c39b0 : (x8_36 == 0) = true := beq_iff_eq.mpr c39
       have c39b1 : (x8_36 != 0) = false := bne_eq_false_iff_eq.mpr c39
       clear c39
       by_cases c40 : t345 = 0
       ·rw [if_pos c40] at H
        have c40b0 : (t345 == 0) = true := beq_iff_eq.mpr c40
        have c40b1 : (t345 != 0) = false := bne_eq_false_iff_eq.mpr c40
        clear c40
        obtain ⟨y350, hy350⟩ : ∃ y_ : List Int, y_ = (([a0_0, a0_1] : List Int)) := ⟨_, rfl⟩
        replace H : (ephemerislaw2_SunEquators.l0 kj36 y350 (y350.length : Int) 0 a1_0 a1_1 t341 t342 t343 t344) = some r := by first | (rw [hy350]; with_reducible exact H) | (have H2_ := (Option.bind_some _ _).symm.trans H; rw [hy350]; with_reducible exact H2_) | (have H2_ := (Option.bind_some _ _).symm.trans H; with_reducible exact H2_) | with_reducible exact H | (rw [hy350]; exact H) | exact H
        have Ny350 := Aside0.mk hy350
        clear hy350
        have H' := Aside0.mk H
        clear H
        have hnb41 := NB338_339.out
        have hnc41 := NB339_338.out
        have hnb42 := NB338_346.out
        have hnc42 := NB346_338.out
        have hnb43 := NB338_347.out
        have hnc43 := NB347_338.out
        have hcz44_0 : wc.cell? ⟨gb338, 0, none⟩ = some (.int .i64 a0_0) := (blk_cell BK338.out 0).trans rfl
        have hcz44_1 : wc.cell? ⟨gb338, 1, none⟩ = some (.int .i64 a0_1) := (blk_cell BK338.out 1).trans rfl
        have hfz44_0 := blk_frozen BK338.out 0
        have hfz44_1 := blk_frozen BK338.out 1
        go_wp2_with (first | ((with_reducible refine gate_dst (N := 71) rfl ?_); refine Kd.R_lit (Kd.int .i64) _ 3 ?hg (N := 71) ?hd (xs := ([a0_0, a0_1] : List Int)) (inner := [.int .i64 a0_0, .int .i64 a0_1]) (ok := fun _ => True) (okp := fun _ => True) ?hr ?hp (fun _ hk => hk) trivial (Below.refl _ _) (Nat.le_refl _) (by simp) ?_; (case hd => rfl); (case hg => rfl); (case hr => first | (go_simp; done) | (go_simp; rfl)); (case hp => exact (Reps.one (show Kd.M (Kd.int .i64) _ _ _ a0_0 [.int .i64 a0_0] from rfl) (Reps.one (show Kd.M (Kd.int .i64) _ _ _ a0_1 [.int .i64 a0_1] from rfl) (Reps.none _ _)))); intro v351 w45 ho46 hb hg_ hnew_; clear hg_ hnew_; (first | rw [← Ny350.out] at ho46 | (simp only [Int.reduceToNat] at ho46; rw [← Ny350.out] at ho46)); have HO352 := Aside0.mk (Kd.R_lower ho46 (below_size (be_ HB).out)); replace BK338 := kb_ BK338 hb; replace BK339 := kb_ BK339 hb; replace BK346 := kb_ BK346 hb; replace BK347 := kb_ BK347 hb; replace HB := bs_ HB hb; clear hb ho46; obtain ⟨Ao47, co47, eo47⟩ := Kd.R_slice HO352.out; subst eo47))
        go_loopg [73] kj36 (fun kq v73 w' => ∃ (x73_3 : Int), v73 = .int .i64 x73_3 ∧ Aside0 (ephemerislaw2_SunEquators.l0 kq y350 (y350.length : Int) x73_3 a1_0 a1_1 t341 t342 t343 t344 = some r) ∧ Aside0 (kq ≤ kj36) ∧ Aside0 (Kd.R (Kd.int .i64) 3 w' w.heap.size (fun _ => True) (.slice Ao47 y350.length co47) y350) ∧ Aside0 (w'.heap[gb338]? = some (.cells #[.int .i64 a0_0, .int .i64 a0_1] 23 (0, 0))) ∧ Aside0 (w'.heap[gb339]? = some (.cells #[.int .i64 a1_0, .int .i64 a1_1] 23 (0, 0))) ∧ Aside0 (w'.heap[gb346]? = some (.cells #[.int .i64 t341, .int .i64 t342] 23 (0, 0))) ∧ Aside0 (w'.heap[gb347]? = some (.cells #[.int .i64 t343, .int .i64 t344] 23 (0, 0))) ∧ Aside0 (Below w.heap.size w w'))
        case atStart => exact ⟨(0), (by first | rfl | (simp; done) | (simp [*]; done)), H', ⟨Nat.le_refl _⟩, ⟨by (with_reducible repeat (first | apply Kd.R_alloc | apply Kd.R_drewN | apply Kd.R_drew)); exact HO352.out⟩, ⟨kk_ BK338⟩, ⟨kk_ BK339⟩, ⟨kk_ BK346⟩, ⟨kk_ BK347⟩, (be_ HB)⟩
        case round =>
         clear H'
         try clear c1
         try clear c2
         try clear p2
         try clear c3
         try clear c4
         try clear c11
         try clear c15
         try clear c16
         try clear c17
         try clear c18
         try clear c19
         try clear c21
         try clear c22
         try clear c27
         try clear c27b0
         try clear c27b1
         try clear c28
         try clear c28b0
         try clear c29
         try clear c30
         try clear c31
         try clear c33
         try clear c34
         try clear c35
         try clear c38
         try clear c39
         try clear c39b0
         try clear c39b1
         try clear c40
         try clear c40b0
         try clear c40b1
         try clear c41
         try clear c42
         try clear c43
         try clear hcz12_0
         try clear hcz12_1
         try clear hcz13_0
         try clear hcz13_1
         try clear hcz20_0
         try clear hcz20_1
         try clear hcz23_0
         try clear hcz23_1
         try clear hcz24_0
         try clear hcz24_1
         try clear hcz25_0
         try clear hcz25_1
         try clear hcz32_0
         try clear hcz32_1
         try clear hcz36_0
         try clear hcz36_1
         try clear hcz44_0
         try clear hcz44_1
         try clear hfz12_0
         try clear hfz12_1
         try clear hfz13_0
         try clear hfz13_1
         try clear hfz20_0
         try clear hfz20_1
         try clear hfz23_0
         try clear hfz23_1
         try clear hfz24_0
         try clear hfz24_1
         try clear hfz25_0
         try clear hfz25_1
         try clear hfz32_0
         try clear hfz32_1
         try clear hfz36_0
         try clear hfz36_1
         try clear hfz44_0
         try clear hfz44_1
         try clear p2
         obtain ⟨x73_3, rfl, HA, HK3, HO_71, BK338, BK339, BK346, BK347, HB⟩ := hrel
         cases gk with
         | zero => exact absurd HA.out (by simp [ephemerislaw2_SunEquators.l0])
         | succ k3 =>
          have H := HA.out
          clear HA
          simp only [ephemerislaw2_SunEquators.l0] at H
          by_cases c48 : x73_3 < (y350.length : Int)
          ·rw [if_pos c48] at H
           have c48b0 : decide (x73_3 < (y350.length : Int)) = true := decide_eq_true c48
           clear c48
           by_cases c49 : 0 ≤ x73_3
           ·rw [if_pos c49] at H
            have c49b0 : decide (0 ≤ x73_3) = true := decide_eq_true c49
            clear c49
            by_cases c50 : x73_3 < (y350.length : Int)
            ·rw [if_pos c50] at H
             have c50b0 : decide (x73_3 < (y350.length : Int)) = true := decide_eq_true c50
             clear c50
             obtain ⟨y354, hy354⟩ : ∃ y_ : List Int, y_ = (([a1_0, a1_1] : List Int)) := ⟨_, rfl⟩
             replace H : (ephemerislaw2_SunEquators.l1 k3 (rd y350 x73_3) y350 (y350.length : Int) x73_3 y354 (y354.length : Int) 0 a1_0 a1_1 t341 t342 t343 t344) = some r := by first | (rw [hy354]; with_reducible exact H) | (have H2_ := (Option.bind_some _ _).symm.trans H; rw [hy354]; with_reducible exact H2_) | (have H2_ := (Option.bind_some _ _).symm.trans H; with_reducible exact H2_) | with_reducible exact H | (rw [hy354]; exact H) | exact H
             have Ny354 := Aside0.mk hy354
             clear hy354
             have H' := Aside0.mk H
             clear H
             have p353 : 0 ≤ (x73_3 : Int) := of_decide_eq_true (by first | (with_reducible assumption) | assumption)
             have q353 : x73_3 < (y350.length : Int) := of_decide_eq_true (by first | (with_reducible assumption) | assumption)
             obtain ⟨ad353, e353, hx353_0⟩ := Kd.at_int (Kd.R_reads' HO_71.out).2.2 x73_3 p353 q353
             cases e353
             replace p353 := eq_true p353
             replace q353 := eq_true q353
             have hnb51 := NB339_338.out
             have hnc51 := NB338_339.out
             have hnb52 := NB339_346.out
             have hnc52 := NB346_339.out
             have hnb53 := NB339_347.out
             have hnc53 := NB347_339.out
             have hcz54_0 : wr.cell? ⟨gb339, 0, none⟩ = some (.int .i64 a1_0) := (blk_cell BK339.out 0).trans rfl
             have hcz54_1 : wr.cell? ⟨gb339, 1, none⟩ = some (.int .i64 a1_1) := (blk_cell BK339.out 1).trans rfl
             have hfz54_0 := blk_frozen BK339.out 0
             have hfz54_1 := blk_frozen BK339.out 1
             go_wp2_with (first | ((with_reducible refine gate_dst (N := 81) rfl ?_); refine Kd.R_lit (Kd.int .i64) _ 3 ?hg (N := 81) ?hd (xs := ([a1_0, a1_1] : List Int)) (inner := [.int .i64 a1_0, .int .i64 a1_1]) (ok := fun _ => True) (okp := fun _ => True) ?hr ?hp (fun _ hk => hk) trivial (Below.refl _ _) (Nat.le_refl _) (by simp) ?_; (case hd => rfl); (case hg => rfl); (case hr => first | (go_simp; done) | (go_simp; rfl)); (case hp => exact (Reps.one (show Kd.M (Kd.int .i64) _ _ _ a1_0 [.int .i64 a1_0] from rfl) (Reps.one (show Kd.M (Kd.int .i64) _ _ _ a1_1 [.int .i64 a1_1] from rfl) (Reps.none _ _)))); intro v355 w55 ho56 hb hg_ hnew_; clear hg_ hnew_; (first | rw [← Ny354.out] at ho56 | (simp only [Int.reduceToNat] at ho56; rw [← Ny354.out] at ho56)); have n0_ := Aside0.mk (Kd.R_elder' (by (with_reducible repeat (first | apply Kd.R_alloc | apply Kd.R_drewN | apply Kd.R_drew)); exact HO_71.out) (Kd.R_base ho56) hb); have n1_ := Aside0.mk (Kd.R_lower (Kd.R_new' ho56 (Kd.R_lt (by (with_reducible repeat (first | apply Kd.R_alloc | apply Kd.R_drewN | apply Kd.R_drew)); exact HO_71.out))) (below_size (be_ HB).out)); have n2_ := kb_ BK338 hb; have n3_ := kb_ BK339 hb; have n4_ := kb_ BK346 hb; have n5_ := kb_ BK347 hb; have n6_ := bs_ HB hb; clear HO_71; clear BK338; clear BK339; clear BK346; clear BK347; clear HB; have HO_71 := n0_; have HO356 := n1_; have BK338 := n2_; have BK339 := n3_; have BK346 := n4_; have BK347 := n5_; have HB := n6_; clear n0_ n1_ n2_ n3_ n4_ n5_ n6_; clear hb ho56; obtain ⟨Ao57, co57, eo57⟩ := Kd.R_slice HO356.out; subst eo57))
             go_loopg [83] k3 (fun kq v83 w' => ∃ (x83_4 : Int), v83 = .int .i64 x83_4 ∧ Aside0 (ephemerislaw2_SunEquators.l1 kq (rd y350 x73_3) y350 (y350.length : Int) x73_3 y354 (y354.length : Int) x83_4 a1_0 a1_1 t341 t342 t343 t344 = some r) ∧ Aside0 (kq ≤ k3) ∧ Aside0 (Kd.R (Kd.int .i64) 3 w' w.heap.size (fun k_ => some k_ ≠ ((.slice Ao57 y354.length co57) : Value).ownBlock) (.slice (some ad353) y350.length co47) y350) ∧ Aside0 (Kd.R (Kd.int .i64) 3 w' w.heap.size (fun k_ => some k_ ≠ ((.slice (some ad353) y350.length co47) : Value).ownBlock) (.slice Ao57 y354.length co57) y354) ∧ Aside0 (w'.heap[gb338]? = some (.cells #[.int .i64 a0_0, .int .i64 a0_1] 23 (0, 0))) ∧ Aside0 (w'.heap[gb339]? = some (.cells #[.int .i64 a1_0, .int .i64 a1_1] 23 (0, 0))) ∧ Aside0 (w'.heap[gb346]? = some (.cells #[.int .i64 t341, .int .i64 t342] 23 (0, 0))) ∧ Aside0 (w'.heap[gb347]? = some (.cells #[.int .i64 t343, .int .i64 t344] 23 (0, 0))) ∧ Aside0 (Below w.heap.size w w'))
             case atStart => exact ⟨(0), (by first | rfl | (simp; done) | (simp [*]; done)), H', ⟨Nat.le_refl _⟩, ⟨by (with_reducible repeat (first | apply Kd.R_alloc | apply Kd.R_drewN | apply Kd.R_drew)); exact Kd.R_mono HO_71.out (fun _ hk => hk.2)⟩, ⟨by (with_reducible repeat (first | apply Kd.R_alloc | apply Kd.R_drewN | apply Kd.R_drew)); exact Kd.R_mono HO356.out (fun _ hk => hk.2)⟩, ⟨kk_ BK338⟩, ⟨kk_ BK339⟩, ⟨kk_ BK346⟩, ⟨kk_ BK347⟩, (be_ HB)⟩
             case round =>
              clear H'
              try clear c1
              try clear c2
              try clear p2
              try clear c3
              try clear p3
              try clear q3
              try clear hx3
              try clear c4
              try clear c5
              try clear c11
              try clear c15
              try clear c16
              try clear c17
              try clear c18
              try clear c19
              try clear c21
              try clear c22
              try clear c27
              try clear c27b0
              try clear c27b1
              try clear c28
              try clear c28b0
              try clear c29
              try clear c30
              try clear c31
              try clear c33
              try clear c34
              try clear c35
              try clear p35
              try clear q35
              try clear hx35
              try clear c38
              try clear c39
              try clear c39b0
              try clear c39b1
              try clear c40
              try clear c40b0
              try clear c40b1
              try clear c41
              try clear c42
              try clear c43
              try clear c48
              try clear c48b0
              try clear c49
              try clear c49b0
              try clear c50
              try clear c50b0
              try clear c51
              try clear c52
              try clear c53
              try clear hcz12_0
              try clear hcz12_1
              try clear hcz13_0
              try clear hcz13_1
              try clear hcz20_0
              try clear hcz20_1
              try clear hcz23_0
              try clear hcz23_1
              try clear hcz24_0
              try clear hcz24_1
              try clear hcz25_0
              try clear hcz25_1
              try clear hcz32_0
              try clear hcz32_1
              try clear hcz36_0
              try clear hcz36_1
              try clear hcz44_0
              try clear hcz44_1
              try clear hcz54_0
              try clear hcz54_1
              try clear hfz12_0
              try clear hfz12_1
              try clear hfz13_0
              try clear hfz13_1
              try clear hfz20_0
              try clear hfz20_1
              try clear hfz23_0
              try clear hfz23_1
              try clear hfz24_0
              try clear hfz24_1
              try clear hfz25_0
              try clear hfz25_1
              try clear hfz32_0
              try clear hfz32_1
              try clear hfz36_0
              try clear hfz36_1
              try clear hfz44_0
              try clear hfz44_1
              try clear hfz54_0
              try clear hfz54_1
              try clear hx353_0
              try clear p2
              try clear p353
              try clear q353
              obtain ⟨x83_4, rfl, HA, HK4, HO_71, HO_81, BK338, BK339, BK346, BK347, HB⟩ := hrel
              cases gk with
              | zero => exact absurd HA.out (by simp [ephemerislaw2_SunEquators.l1])
              | succ k4 =>
               have H := HA.out
               clear HA
               simp only [ephemerislaw2_SunEquators.l1] at H
               by_cases c58 : x83_4 < (y354.length : Int)
               ·rw [if_pos c58] at H
                have c58b0 : decide (x83_4 < (y354.length : Int)) = true := decide_eq_true c58
                clear c58
                by_cases c59 : 0 ≤ x83_4
                ·rw [if_pos c59] at H
                 have c59b0 : decide (0 ≤ x83_4) = true := decide_eq_true c59
                 clear c59
                 by_cases c60 : x83_4 < (y354.length : Int)
                 ·rw [if_pos c60] at H
                  have c60b0 : decide (x83_4 < (y354.length : Int)) = true := decide_eq_true c60
                  clear c60
                  replace H := Option.bind_eq_some_iff.mp H
                  obtain ⟨t358, A610, H⟩ := H
                  replace H : ((ephemerisref2_Equator.f k4 (wrap64 (t358 * 1048576)) (wrap64 ((rd y354 x83_4) * 1048576))).bind fun bt359 => ((ephemerisref2_InArc.f k4 t341 t342 bt359.2.1 bt359.1).bind fun t363 => (if t363 = true then ((ephemerisref2_InArcSin.f k4 t343 t344 bt359.2.2).bind fun t364 => (if t364 = true then (ephemerislaw2_SunEquators.l1 k4 (rd y350 x73_3) y350 (y350.length : Int) x73_3 y354 (y354.length : Int) (wrap64 (x83_4 + 1)) a1_0 a1_1 t341 t342 t343 t344) else (some false))) else (some false)))) = some r := H
                  have A61 := Aside0.mk A610
                  clear A610
                  replace H := Option.bind_eq_some_iff.mp H
                  obtain ⟨⟨t359, t360, t361⟩, A620, H⟩ := H
                  replace H : ((ephemerisref2_InArc.f k4 t341 t342 t360 t359).bind fun t363 => (if t363 = true then ((ephemerisref2_InArcSin.f k4 t343 t344 t361).bind fun t364 => (if t364 = true then (ephemerislaw2_SunEquators.l1 k4 (rd y350 x73_3) y350 (y350.length : Int) x73_3 y354 (y354.length : Int) (wrap64 (x83_4 + 1)) a1_0 a1_1 t341 t342 t343 t344) else (some false))) else (some false))) = some r := H
                  have A62 := Aside0.mk A620
                  clear A620
                  replace H := Option.bind_eq_some_iff.mp H
                  obtain ⟨t363, A630, H⟩ := H
                  replace H : (if t363 = true then ((ephemerisref2_InArcSin.f k4 t343 t344 t361).bind fun t364 => (if t364 = true then (ephemerislaw2_SunEquators.l1 k4 (rd y350 x73_3) y350 (y350.length : Int) x73_3 y354 (y354.length : Int) (wrap64 (x83_4 + 1)) a1_0 a1_1 t341 t342 t343 t344) else (some false))) else (some false)) = some r := H
                  have A63 := Aside0.mk A630
                  clear A630
                  by_cases c64 : t363 = true
                  ·subst c64
                   have H1 : ((ephemerisref2_InArcSin.f k4 t343 t344 t361).bind fun t364 => (if t364 = true then (ephemerislaw2_SunEquators.l1 k4 (rd y350 x73_3) y350 (y350.length : Int) x73_3 y354 (y354.length : Int) (wrap64 (x83_4 + 1)) a1_0 a1_1 t341 t342 t343 t344) else (some false))) = some r := by rw [if_pos rfl] at H; exact H
                   clear H
                   have H := H1
                   clear H1
                   replace H := Option.bind_eq_some_iff.mp H
                   obtain ⟨t364, A650, H⟩ := H
                   replace H : (if t364 = true then (ephemerislaw2_SunEquators.l1 k4 (rd y350 x73_3) y350 (y350.length : Int) x73_3 y354 (y354.length : Int) (wrap64 (x83_4 + 1)) a1_0 a1_1 t341 t342 t343 t344) else (some false)) = some r := H
                   have A65 := Aside0.mk A650
                   clear A650
                   by_cases c66 : t364 = true
                   ·subst c66
                    have H1 : (ephemerislaw2_SunEquators.l1 k4 (rd y350 x73_3) y350 (y350.length : Int) x73_3 y354 (y354.length : Int) (wrap64 (x83_4 + 1)) a1_0 a1_1 t341 t342 t343 t344) = some r := by rw [if_pos rfl] at H; exact H
                    clear H
                    have H := H1
                    clear H1
                    have H' := Aside0.mk H
                    clear H
                    have p357 : 0 ≤ (x83_4 : Int) := of_decide_eq_true (by first | (with_reducible assumption) | assumption)
                    have q357 : x83_4 < (y354.length : Int) := of_decide_eq_true (by first | (with_reducible assumption) | assumption)
                    obtain ⟨ad357, e357, hx357_0⟩ := Kd.at_int (Kd.R_reads' HO_81.out).2.2 x83_4 p357 q357
                    cases e357
                    replace p357 := eq_true p357
                    replace q357 := eq_true q357
                    go_wp2_with (first | ((with_reducible refine gate_callee (f := 20) rfl ?_); refine goesL_ (some 88) rfl rfl Try.func20 (by kernel_rfl) rfl #[.int .i64 (rd y350 x73_3), .int .i64 1000000000] rfl (by (try simp only [List.map_toArray, List.map_cons, List.map_nil]); first | done | rfl | (simp only [List.length_drop, List.length_take]; rfl)) ?_; (with_reducible refine (ephemerisref2_Mod.calls (rd y350 x73_3) 1000000000 t358 _ A61.out).mono ?_); rintro e w' ⟨rfl, ⟨nd, rfl⟩⟩; refine ⟨_, rfl, ?_⟩; (try (rw [drewN_self wr]; generalize hq_ : World.drewN wr _ = wr; have n0_ : Aside0 (Kd.R (Kd.int .i64) 3 wr w.heap.size (fun k_ => some k_ ≠ (.slice (some ad357) y354.length co57 : Value).ownBlock) (.slice (some ad353) y350.length co47) y350) := ⟨by rw [← hq_]; exact (by (with_reducible repeat (first | apply Kd.R_alloc | apply Kd.R_drewN | apply Kd.R_drew)); exact HO_71.out)⟩; have n1_ : Aside0 (Kd.R (Kd.int .i64) 3 wr w.heap.size (fun k_ => some k_ ≠ (.slice (some ad353) y350.length co47 : Value).ownBlock) (.slice (some ad357) y354.length co57) y354) := ⟨by rw [← hq_]; exact (by (with_reducible repeat (first | apply Kd.R_alloc | apply Kd.R_drewN | apply Kd.R_drew)); exact HO_81.out)⟩; have n2_ : Aside0 (wr.heap[gb338]? = some (.cells #[.int .i64 a0_0, .int .i64 a0_1] 23 (0, 0))) := ⟨by rw [← hq_]; exact (kk_ BK338)⟩; have n3_ : Aside0 (wr.heap[gb339]? = some (.cells #[.int .i64 a1_0, .int .i64 a1_1] 23 (0, 0))) := ⟨by rw [← hq_]; exact (kk_ BK339)⟩; have n4_ : Aside0 (wr.heap[gb346]? = some (.cells #[.int .i64 t341, .int .i64 t342] 23 (0, 0))) := ⟨by rw [← hq_]; exact (kk_ BK346)⟩; have n5_ : Aside0 (wr.heap[gb347]? = some (.cells #[.int .i64 t343, .int .i64 t344] 23 (0, 0))) := ⟨by rw [← hq_]; exact (kk_ BK347)⟩; have n6_ : Aside0 (Below w.heap.size w wr) := ⟨by rw [← hq_]; exact (be_ HB).out⟩; clear HO_71 HO_81 BK338 BK339 BK346 BK347 HB hq_; have HO_71 := n0_; have HO_81 := n1_; have BK338 := n2_; have BK339 := n3_; have BK346 := n4_; have BK347 := n5_; have HB := n6_; clear n0_ n1_ n2_ n3_ n4_ n5_ n6_; have hcy338_0 : wr.cell? ⟨gb338, 0, none⟩ = some (.int .i64 a0_0) := (blk_cell BK338.out 0).trans rfl; have hfy338_0 := blk_frozen BK338.out 0; have hcy338_1 : wr.cell? ⟨gb338, 1, none⟩ = some (.int .i64 a0_1) := (blk_cell BK338.out 1).trans rfl; have hfy338_1 := blk_frozen BK338.out 1; have hcy339_0 : wr.cell? ⟨gb339, 0, none⟩ = some (.int .i64 a1_0) := (blk_cell BK339.out 0).trans rfl; have hfy339_0 := blk_frozen BK339.out 0; have hcy339_1 : wr.cell? ⟨gb339, 1, none⟩ = some (.int .i64 a1_1) := (blk_cell BK339.out 1).trans rfl; have hfy339_1 := blk_frozen BK339.out 1; have hcy346_0 : wr.cell? ⟨gb346, 0, none⟩ = some (.int .i64 t341) := (blk_cell BK346.out 0).trans rfl; have hfy346_0 := blk_frozen BK346.out 0; have hcy346_1 : wr.cell? ⟨gb346, 1, none⟩ = some (.int .i64 t342) := (blk_cell BK346.out 1).trans rfl; have hfy346_1 := blk_frozen BK346.out 1; have hcy347_0 : wr.cell? ⟨gb347, 0, none⟩ = some (.int .i64 t343) := (blk_cell BK347.out 0).trans rfl; have hfy347_0 := blk_frozen BK347.out 0; have hcy347_1 : wr.cell? ⟨gb347, 1, none⟩ = some (.int .i64 t344) := (blk_cell BK347.out 1).trans rfl; have hfy347_1 := blk_frozen BK347.out 1))) | ((with_reducible refine gate_callee (f := 19) rfl ?_); refine goesL_ (some 92) rfl rfl Try.func19 (by kernel_rfl) rfl #[.int .i64 (wrap64 (t358 * 1048576)), .int .i64 (wrap64 ((rd y354 x83_4) * 1048576))] rfl (by (try simp only [List.map_toArray, List.map_cons, List.map_nil]); first | done | rfl | (simp only [List.length_drop, List.length_take]; rfl)) ?_; (with_reducible refine (ephemerisref2_Equator.calls k4 (wrap64 (t358 * 1048576)) (wrap64 ((rd y354 x83_4) * 1048576)) t359 t360 t361 _ A62.out).mono ?_); rintro e w67 ⟨rfl, hb⟩; refine ⟨_, rfl, ?_⟩; have n0_ := Aside0.mk (Kd.R_below (by (with_reducible repeat (first | apply Kd.R_alloc | apply Kd.R_drewN | apply Kd.R_drew)); exact HO_71.out) hb); have n1_ := Aside0.mk (Kd.R_below (by (with_reducible repeat (first | apply Kd.R_alloc | apply Kd.R_drewN | apply Kd.R_drew)); exact HO_81.out) hb); have n2_ := kb_ BK338 hb; have n3_ := kb_ BK339 hb; have n4_ := kb_ BK346 hb; have n5_ := kb_ BK347 hb; have n6_ := bs_ HB hb; clear HO_71; clear HO_81; clear BK338; clear BK339; clear BK346; clear BK347; clear HB; have HO_71 := n0_; have HO_81 := n1_; have BK338 := n2_; have BK339 := n3_; have BK346 := n4_; have BK347 := n5_; have HB := n6_; clear n0_ n1_ n2_ n3_ n4_ n5_ n6_; (try clear hb); (try clear hb2); (try clear hk); (try clear hi)) | ((with_reducible refine gate_dst (N := 13) rfl ?_); refine box_event ?hg (N := 13) ?hd (cs := #[.int .i64 0, .int .i64 0, .int .i64 0]) (t := 32) ?hr ?_; (case hd => rfl); (case hg => rfl); (case hr => first | (go_simp; done) | (go_simp; rfl)); intro gb362 hg w68 hbox hb; have n0_ := Aside0.mk (Kd.R_below (by (with_reducible repeat (first | apply Kd.R_alloc | apply Kd.R_drewN | apply Kd.R_drew)); exact HO_71.out) hb); have n1_ := Aside0.mk (Kd.R_below (by (with_reducible repeat (first | apply Kd.R_alloc | apply Kd.R_drewN | apply Kd.R_drew)); exact HO_81.out) hb); have n2_ := kb_ BK338 hb; have n3_ := kb_ BK339 hb; have n4_ := kb_ BK346 hb; have n5_ := kb_ BK347 hb; have n6_ := bs_ HB hb; have n7_ := Aside0.mk (hbox); have n8_ := ge_ hg HB; have n9_ := ge_ hg HB; have n10_ := nl_ hg BK338; have n11_ := ng_ hg BK338; have n12_ := nl_ hg BK339; have n13_ := ng_ hg BK339; have n14_ := nl_ hg BK346; have n15_ := ng_ hg BK346; have n16_ := nl_ hg BK347; have n17_ := ng_ hg BK347; clear HO_71; clear HO_81; clear BK338; clear BK339; clear BK346; clear BK347; clear HB; have HO_71 := n0_; have HO_81 := n1_; have BK338 := n2_; have BK339 := n3_; have BK346 := n4_; have BK347 := n5_; have HB := n6_; have BK362 := n7_; have GW362 := n8_; have GE362 := n9_; have NB338_362 := n10_; have NB362_338 := n11_; have NB339_362 := n12_; have NB362_339 := n13_; have NB346_362 := n14_; have NB362_346 := n15_; have NB347_362 := n16_; have NB362_347 := n17_; clear n0_ n1_ n2_ n3_ n4_ n5_ n6_ n7_ n8_ n9_ n10_ n11_ n12_ n13_ n14_ n15_ n16_ n17_; clear hb hbox hg; have hnb69 := NB362_338.out; have hnc69 := NB338_362.out; have hnb70 := NB362_339.out; have hnc70 := NB339_362.out; have hnb71 := NB362_346.out; have hnc71 := NB346_362.out; have hnb72 := NB362_347.out; have hnc72 := NB347_362.out; have hcz73_0 : w68.cell? ⟨gb362, 0, none⟩ = some (.int .i64 0) := (blk_cell BK362.out 0).trans rfl; have hcz73_1 : w68.cell? ⟨gb362, 1, none⟩ = some (.int .i64 0) := (blk_cell BK362.out 1).trans rfl; have hcz73_2 : w68.cell? ⟨gb362, 2, none⟩ = some (.int .i64 0) := (blk_cell BK362.out 2).trans rfl; have hfz73_0 := blk_frozen BK362.out 0; have hfz73_1 := blk_frozen BK362.out 1; have hfz73_2 := blk_frozen BK362.out 2; have hnb74 := NB346_338.out; have hnc74 := NB338_346.out; have hnb75 := NB346_339.out; have hnc75 := NB339_346.out; have hnb76 := NB346_347.out; have hnc76 := NB347_346.out; have hcz77_0 : w68.cell? ⟨gb346, 0, none⟩ = some (.int .i64 t341) := (blk_cell BK346.out 0).trans rfl; have hcz77_1 : w68.cell? ⟨gb346, 1, none⟩ = some (.int .i64 t342) := (blk_cell BK346.out 1).trans rfl; have hfz77_0 := blk_frozen BK346.out 0; have hfz77_1 := blk_frozen BK346.out 1) | ((with_reducible refine gate_callee (f := 21) rfl ?_); refine goesL_ (some 98) rfl rfl Try.func21 (by kernel_rfl) rfl #[.agg #[.int .i64 t341, .int .i64 t342], .int .i64 t360, .int .i64 t359] rfl (by (try simp only [List.map_toArray, List.map_cons, List.map_nil]); first | done | rfl | (simp only [List.length_drop, List.length_take]; rfl)) ?_; (with_reducible refine (ephemerisref2_InArc.calls k4 t341 t342 t360 t359 true _ A63.out).mono ?_); rintro e w78 ⟨rfl, hb⟩; refine ⟨_, rfl, ?_⟩; have n0_ := Aside0.mk (Kd.R_below (by (with_reducible repeat (first | apply Kd.R_alloc | apply Kd.R_drewN | apply Kd.R_drew)); exact (Kd.R_mono (Kd.R_far (p := ⟨gb362, 2, none⟩) (Kd.R_far (p := ⟨gb362, 1, none⟩) (Kd.R_far (p := ⟨gb362, 0, none⟩) (Kd.R_types HO_71.out BK362.out (by decide)) (fun _ hk => hk.2) (.int .i64 t359)) (fun _ hk => hk.2) (.int .i64 t360)) (fun _ hk => hk.2) (.int .i64 t361)) (fun _ h_ => h_.1))) hb); have n1_ := Aside0.mk (Kd.R_below (by (with_reducible repeat (first | apply Kd.R_alloc | apply Kd.R_drewN | apply Kd.R_drew)); exact (Kd.R_mono (Kd.R_far (p := ⟨gb362, 2, none⟩) (Kd.R_far (p := ⟨gb362, 1, none⟩) (Kd.R_far (p := ⟨gb362, 0, none⟩) (Kd.R_types HO_81.out BK362.out (by decide)) (fun _ hk => hk.2) (.int .i64 t359)) (fun _ hk => hk.2) (.int .i64 t360)) (fun _ hk => hk.2) (.int .i64 t361)) (fun _ h_ => h_.1))) hb); have n2_ := kb_ BK338 hb; have n3_ := kb_ BK339 hb; have n4_ := kb_ BK346 hb; have n5_ := kb_ BK347 hb; have n6_ := Aside0.mk (blk_below (g := gb362) (o := .cells #[.int .i64 t359, .int .i64 t360, .int .i64 t361] 32 (0, 0)) (by (with_reducible repeat (first | refine blk_drewN ?_ _ | refine blk_drew ?_ | refine blk_alloc ?_ _)); refine blk_put (cs := #[.int .i64 t359, .int .i64 t360, .int .i64 0]) ?_ 2 _ rfl; (with_reducible repeat (first | refine blk_drewN ?_ _ | refine blk_drew ?_ | refine blk_alloc ?_ _)); refine blk_put (cs := #[.int .i64 t359, .int .i64 0, .int .i64 0]) ?_ 1 _ rfl; (with_reducible repeat (first | refine blk_drewN ?_ _ | refine blk_drew ?_ | refine blk_alloc ?_ _)); refine blk_put (cs := #[.int .i64 0, .int .i64 0, .int .i64 0]) ?_ 0 _ rfl; (with_reducible repeat (first | refine blk_drewN ?_ _ | refine blk_drew ?_ | refine blk_alloc ?_ _)); exact BK362.out) hb); have n7_ := bs_ HB hb; clear HO_71; clear HO_81; clear BK338; clear BK339; clear BK346; clear BK347; clear BK362; clear HB; have HO_71 := n0_; have HO_81 := n1_; have BK338 := n2_; have BK339 := n3_; have BK346 := n4_; have BK347 := n5_; have BK362 := n6_; have HB := n7_; clear n0_ n1_ n2_ n3_ n4_ n5_ n6_ n7_; (try clear hb); (try clear hb2); (try clear hk); (try clear hi); have hnb79 := NB347_338.out; have hnc79 := NB338_347.out; have hnb80 := NB347_339.out; have hnc80 := NB339_347.out; have hcz81_0 : w78.cell? ⟨gb347, 0, none⟩ = some (.int .i64 t343) := (blk_cell BK347.out 0).trans rfl; have hcz81_1 : w78.cell? ⟨gb347, 1, none⟩ = some (.int .i64 t344) := (blk_cell BK347.out 1).trans rfl; have hfz81_0 := blk_frozen BK347.out 0; have hfz81_1 := blk_frozen BK347.out 1; have hcz82_0 : w78.cell? ⟨gb362, 0, none⟩ = some (.int .i64 t359) := (blk_cell BK362.out 0).trans rfl; have hcz82_1 : w78.cell? ⟨gb362, 1, none⟩ = some (.int .i64 t360) := (blk_cell BK362.out 1).trans rfl; have hcz82_2 : w78.cell? ⟨gb362, 2, none⟩ = some (.int .i64 t361) := (blk_cell BK362.out 2).trans rfl; have hfz82_0 := blk_frozen BK362.out 0; have hfz82_1 := blk_frozen BK362.out 1; have hfz82_2 := blk_frozen BK362.out 2) | (go_at_call 22; (with_reducible refine (ephemerisref2_InArcSin.calls k4 t343 t344 t361 true _ A65.out).mono ?_); rintro e w83 ⟨rfl, hb⟩; have n0_ := Aside0.mk (Kd.R_below (by (with_reducible repeat (first | apply Kd.R_alloc | apply Kd.R_drewN | apply Kd.R_drew)); exact HO_71.out) hb); have n1_ := Aside0.mk (Kd.R_below (by (with_reducible repeat (first | apply Kd.R_alloc | apply Kd.R_drewN | apply Kd.R_drew)); exact HO_81.out) hb); have n2_ := kb_ BK338 hb; have n3_ := kb_ BK339 hb; have n4_ := kb_ BK346 hb; have n5_ := kb_ BK347 hb; have n6_ := kb_ BK362 hb; have n7_ := bs_ HB hb; clear HO_71; clear HO_81; clear BK338; clear BK339; clear BK346; clear BK347; clear BK362; clear HB; have HO_71 := n0_; have HO_81 := n1_; have BK338 := n2_; have BK339 := n3_; have BK346 := n4_; have BK347 := n5_; have BK362 := n6_; have HB := n7_; clear n0_ n1_ n2_ n3_ n4_ n5_ n6_ n7_; (try clear hb); (try clear hb2); (try clear hk); (try clear hi)))
                    go_roundg k4
                    case measure => have := HJ6.out; have := HJ36.out; have := HK3.out; have := HK4.out; omega
                    case rel => exact ⟨(wrap64 (x83_4 + 1)), (by first | rfl | (simp; done) | (simp [*]; done)), H', ⟨by have := HJ6.out; have := HJ36.out; have := HK3.out; have := HK4.out; omega⟩, ⟨by (with_reducible repeat (first | apply Kd.R_alloc | apply Kd.R_drewN | apply Kd.R_drew)); exact HO_71.out⟩, ⟨by (with_reducible repeat (first | apply Kd.R_alloc | apply Kd.R_drewN | apply Kd.R_drew)); exact HO_81.out⟩, ⟨kk_ BK338⟩, ⟨kk_ BK339⟩, ⟨kk_ BK346⟩, ⟨kk_ BK347⟩, (be_ HB)⟩
                   ·replace c66 := Bool.eq_false_iff.mpr c66
                    subst c66
                    have H1 : (some false) = some r := by rw [if_neg (show ¬ (false = true) by decide)] at H; exact H
                    clear H
                    have H := H1
                    clear H1
                    obtain rfl := Option.some.inj H
                    exact absurd hT (by decide)
                  ·replace c64 := Bool.eq_false_iff.mpr c64
                   subst c64
                   have H1 : (some false) = some r := by rw [if_neg (show ¬ (false = true) by decide)] at H; exact H
                   clear H
                   have H := H1
                   clear H1
                   obtain rfl := Option.some.inj H
                   exact absurd hT (by decide)
                 ·rw [if_neg c60] at H
                  exact absurd H (by simp)
                ·rw [if_neg c59] at H
                 exact absurd H (by simp)
               ·rw [if_neg c58] at H
                have c58b0 : decide (x83_4 < (y354.length : Int)) = false := decide_eq_false c58
                clear c58
                have H' := Aside0.mk H
                clear H
                go_wp2
                go_roundg k4
                case measure => have := HJ6.out; have := HJ36.out; have := HK3.out; have := HK4.out; omega
                case rel => exact ⟨(wrap64 (x73_3 + 1)), (by first | rfl | (simp; done) | (simp [*]; done)), H', ⟨by have := HJ6.out; have := HJ36.out; have := HK3.out; have := HK4.out; omega⟩, ⟨by (with_reducible repeat (first | apply Kd.R_alloc | apply Kd.R_drewN | apply Kd.R_drew)); exact Kd.R_mono HO_71.out (fun _ hk => trivial)⟩, ⟨kk_ BK338⟩, ⟨kk_ BK339⟩, ⟨kk_ BK346⟩, ⟨kk_ BK347⟩, (be_ HB)⟩
            ·rw [if_neg c50] at H
             exact absurd H (by simp)
           ·rw [if_neg c49] at H
            exact absurd H (by simp)
          ·rw [if_neg c48] at H
           have c48b0 : decide (x73_3 < (y350.length : Int)) = false := decide_eq_false c48
           clear c48
           obtain rfl := Option.some.inj H
           simp only [Option.some.injEq, Prod.mk.injEq] at H
           obtain ⟨rfl⟩ := H
           go_wp2
           go_ret
           exact ⟨by first | rfl | (simp [errW_none, errW_some] <;> rfl) | (simp [*, errW_none, errW_some] <;> rfl), (be_ HB).out⟩
       ·rw [if_neg c40] at H
        have c40b0 : (t345 == 0) = false := beq_eq_false_iff_ne.mpr c40
        have c40b1 : (t345 != 0) = true := bne_iff_ne.mpr c40
        by_cases c84 : t345 = 11
        ·rw [if_pos c84] at H
         have c84b0 : (t345 == 11) = true := beq_iff_eq.mpr c84
         have c84b1 : (t345 != 11) = false := bne_eq_false_iff_eq.mpr c84
         clear c84
         by_cases c85 : a0_0 < a0_1
         ·rw [if_pos c85] at H
          have c85b0 : decide (a0_0 < a0_1) = true := decide_eq_true c85
          clear c85
          obtain rfl := Option.some.inj H
          simp only [Option.some.injEq, Prod.mk.injEq] at H
          obtain ⟨rfl⟩ := H
          have hnb86 := NB338_339.out
          have hnc86 := NB339_338.out
          have hnb87 := NB338_346.out
          have hnc87 := NB346_338.out
          have hnb88 := NB338_347.out
          have hnc88 := NB347_338.out
          have hcz89_0 : wc.cell? ⟨gb338, 0, none⟩ = some (.int .i64 a0_0) := (blk_cell BK338.out 0).trans rfl
          have hcz89_1 : wc.cell? ⟨gb338, 1, none⟩ = some (.int .i64 a0_1) := (blk_cell BK338.out 1).trans rfl
          have hfz89_0 := blk_frozen BK338.out 0
          have hfz89_1 := blk_frozen BK338.out 1
          go_wp2
          go_ret
          exact ⟨by first | rfl | (simp [errW_none, errW_some] <;> rfl) | (simp [*, errW_none, errW_some] <;> rfl), (be_ HB).out⟩
         ·rw [if_neg c85] at H
          have c85b0 : decide (a0_0 < a0_1) = false := decide_eq_false c85
          clear c85
          obtain rfl := Option.some.inj H
          simp only [Option.some.injEq, Prod.mk.injEq] at H
          obtain ⟨rfl⟩ := H
          have hnb90 := NB338_339.out
          have hnc90 := NB339_338.out
          have hnb91 := NB338_346.out
          have hnc91 := NB346_338.out
          have hnb92 := NB338_347.out
          have hnc92 := NB347_338.out
          have hcz93_0 : wc.cell? ⟨gb338, 0, none⟩ = some (.int .i64 a0_0) := (blk_cell BK338.out 0).trans rfl
          have hcz93_1 : wc.cell? ⟨gb338, 1, none⟩ = some (.int .i64 a0_1) := (blk_cell BK338.out 1).trans rfl
          have hfz93_0 := blk_frozen BK338.out 0
          have hfz93_1 := blk_frozen BK338.out 1
          have hnb94 := NB339_346.out
          have hnc94 := NB346_339.out
          have hnb95 := NB339_347.out
          have hnc95 := NB347_339.out
          have hcz96_0 : wc.cell? ⟨gb339, 0, none⟩ = some (.int .i64 a1_0) := (blk_cell BK339.out 0).trans rfl
          have hcz96_1 : wc.cell? ⟨gb339, 1, none⟩ = some (.int .i64 a1_1) := (blk_cell BK339.out 1).trans rfl
          have hfz96_0 := blk_frozen BK339.out 0
          have hfz96_1 := blk_frozen BK339.out 1
          go_wp2
          go_ret
          exact ⟨by first | rfl | (simp [errW_none, errW_some] <;> rfl) | (simp [*, errW_none, errW_some] <;> rfl), (be_ HB).out⟩
        ·rw [if_neg c84] at H
         have c84b0 : (t345 == 11) = false := beq_eq_false_iff_ne.mpr c84
         have c84b1 : (t345 != 11) = true := bne_iff_ne.mpr c84
         obtain rfl := Option.some.inj H
         exact absurd hT (by decide)
      ·rw [if_neg c39] at H
       have c39b0 : (x8_36 == 0) = false := beq_eq_false_iff_ne.mpr c39
       have c39b1 : (x8_36 != 0) = true := bne_iff_ne.mpr c39
       replace H := Option.bind_eq_some_iff.mp H
       obtain ⟨t349, A970, H⟩ := H
       replace H : (if t349 = true then (some (t343 == 0 && (t344 == 0))) else (some false)) = some r := H
       have A97 := Aside0.mk A970
       clear A970
       by_cases c98 : t349 = true
       ·subst c98
        have H1 : (some (t343 == 0 && (t344 == 0))) = some r := by rw [if_pos rfl] at H; exact H
        clear H
        have H := H1
        clear H1
        obtain rfl := Option.some.inj H
        simp only [Option.some.injEq, Prod.mk.injEq] at H
        obtain ⟨rfl⟩ := H
        have hnb99 := NB346_338.out
        have hnc99 := NB338_346.out
        have hnb100 := NB346_339.out
        have hnc100 := NB339_346.out
        have hnb101 := NB346_347.out
        have hnc101 := NB347_346.out
        have hcz102_0 : wc.cell? ⟨gb346, 0, none⟩ = some (.int .i64 t341) := (blk_cell BK346.out 0).trans rfl
        have hcz102_1 : wc.cell? ⟨gb346, 1, none⟩ = some (.int .i64 t342) := (blk_cell BK346.out 1).trans rfl
        have hfz102_0 := blk_frozen BK346.out 0
        have hfz102_1 := blk_frozen BK346.out 1
        go_wp2_with (first | ((with_reducible refine gate_callee (f := 18) rfl ?_); refine goesL_ (some 43) rfl rfl Try.func18 (by kernel_rfl) rfl #[.agg #[.int .i64 t341, .int .i64 t342], .int .i64 t345, .int .i64 x8_36] rfl (by (try simp only [List.map_toArray, List.map_cons, List.map_nil]); first | done | rfl | (simp only [List.length_drop, List.length_take]; rfl)) ?_; (with_reducible refine (ephemerislaw2_none.calls t341 t342 t345 x8_36 true _ A97.out).mono ?_); rintro e w103 ⟨rfl, hb⟩; refine ⟨_, rfl, ?_⟩; replace BK338 := kb_ BK338 hb; replace BK339 := kb_ BK339 hb; replace BK346 := kb_ BK346 hb; replace BK347 := kb_ BK347 hb; replace HB := bs_ HB hb; (try clear hb); (try clear hb2); (try clear hk); (try clear hi); have hnb104 := NB347_338.out; have hnc104 := NB338_347.out; have hnb105 := NB347_339.out; have hnc105 := NB339_347.out; have hcz106_0 : w103.cell? ⟨gb347, 0, none⟩ = some (.int .i64 t343) := (blk_cell BK347.out 0).trans rfl; have hcz106_1 : w103.cell? ⟨gb347, 1, none⟩ = some (.int .i64 t344) := (blk_cell BK347.out 1).trans rfl; have hfz106_0 := blk_frozen BK347.out 0; have hfz106_1 := blk_frozen BK347.out 1))
        go_ret
        exact ⟨by first | rfl | (simp [errW_none, errW_some] <;> rfl) | (simp [*, errW_none, errW_some] <;> rfl), (be_ HB).out⟩
       ·replace c98 := Bool.eq_false_iff.mpr c98
        subst c98
        have H1 : (some false) = some r := by rw [if_neg (show ¬ (false = true) by decide)] at H; exact H
        clear H
        have H := H1
        clear H1
        obtain rfl := Option.some.inj H
        exact absurd hT (by decide)
 ·replace c4 := Bool.eq_false_iff.mpr c4
  subst c4
  have H1 : (some false) = some r := by rw [if_neg (show ¬ (false = true) by decide)] at H; exact H
  clear H
  have H := H1
  clear H1
  obtain rfl := Option.some.inj H
  exact absurd hT (by decide)
end Go.Proofs.Ytedakilpogagiaa.PAll
