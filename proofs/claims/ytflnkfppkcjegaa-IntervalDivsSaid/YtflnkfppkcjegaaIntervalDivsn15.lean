/- Written by a program of this session out of the translation. -/
import Derived.Test.YtflnkfppkcjegaaIntervalDivsn14
import Derived.Test.YtflnkfppkcjegaaIntervalDivsn2
import Derived.Test.YtflnkfppkcjegaaIntervalDivsn3
import Derived.Test.YtflnkfppkcjegaaIntervalDivsn11
import Derived.Test.YtflnkfppkcjegaaIntervalDivsn13
namespace Go.Proofs.Ytflnkfppkcjegaa.PAll
open Go.RowKit Go.Proofs.YtflnkfppkcjegaaW.PrintWords Go.Proofs.YtflnkfppkcjegaaW.PrintLast Go.Proofs.YtflnkfppkcjegaaW.PrintMore Go.Proofs.Ytflnkfppkcjegaa.More2 Go.Proofs.Ytflnkfppkcjegaa.Sq
attribute [local go_sem] max2_int min2_int max_two min_two max_three min_three max_four min_four tdiv2e18_ tdiv1e18_ cellSS_  -- for this text's walks alone
set_option linter.unusedVariables false
set_option linter.unusedSimpArgs false
mutual
def ephemerislaw2_IntervalDivs.j0 : Nat → Int → Bool → Int → Int → Int → Int → Int → Int → Option (Bool)
 | 0, _, _, _, _, _, _, _, _ => none
 | k + 1, x6, x41, x220000, x220001, x221000, x221001, x226000, x226001 => if x41 = true then ((ephemerislaw2_none.f x226000 x226001 x6 1).bind fun t228 => (some t228)) else ((some (([x220000, x220001] : List Int) : List Int)).bind fun y229 => (ephemerislaw2_IntervalDivs.l0 k x6 false false y229 (y229.length : Int) 0 x221000 x221001 x226000 x226001))
def ephemerislaw2_IntervalDivs.l0 : Nat → Int → Bool → Bool → List Int → Int → Int → Int → Int → Int → Int → Option (Bool)
 | 0, _, _, _, _, _, _, _, _, _, _ => none
 | k + 1, x6, x8, x9, x49, x50, x51, x221000, x221001, x226000, x226001 => if x51 < x50 then (if 0 ≤ x51 then (if x51 < (x49.length : Int) then ((some (([x221000, x221001] : List Int) : List Int)).bind fun y233 => (ephemerislaw2_IntervalDivs.l1 k x6 x8 x9 (rd x49 x51) x49 x50 x51 y233 (y233.length : Int) 0 x221000 x221001 x226000 x226001)) else (none)) else (none)) else (if x6 = 0 then (if x8 = true then (some x9) else (some false)) else (some false))
def ephemerislaw2_IntervalDivs.l1 : Nat → Int → Bool → Bool → Int → List Int → Int → Int → List Int → Int → Int → Int → Int → Int → Int → Option (Bool)
 | 0, _, _, _, _, _, _, _, _, _, _, _, _, _, _ => none
 | k + 1, x6, x8, x9, x11, x49, x50, x51, x59, x60, x61, x221000, x221001, x226000, x226001 => if x61 < x60 then (if 0 ≤ x61 then (if x61 < (x59.length : Int) then (if (rd x59 x61) < 0 then (ephemerislaw2_IntervalDivs.j3 k x6 x8 x9 x11 (wrap64 (-x11)) (wrap64 (-(rd x59 x61))) x49 x50 x51 x59 x60 x61 x221000 x221001 x226000 x226001) else (ephemerislaw2_IntervalDivs.j3 k x6 x8 x9 x11 x11 (rd x59 x61) x49 x50 x51 x59 x60 x61 x221000 x221001 x226000 x226001)) else (none)) else (none)) else (ephemerislaw2_IntervalDivs.l0 k x6 x8 x9 x49 x50 (wrap64 (x51 + 1)) x221000 x221001 x226000 x226001)
def ephemerislaw2_IntervalDivs.j3 : Nat → Int → Bool → Bool → Int → Int → Int → List Int → Int → Int → List Int → Int → Int → Int → Int → Int → Int → Option (Bool)
 | 0, _, _, _, _, _, _, _, _, _, _, _, _, _, _, _, _ => none
 | k + 1, x6, x8, x9, x11, x14, x15, x49, x50, x51, x59, x60, x61, x221000, x221001, x226000, x226001 => (ephemerisref2_ToWide.f k x14).bind fun bt237 => ((ephemerisref2_Product.f k x226000 x15).bind fun bt245 => ((ephemerisref2_Compare.f k bt245.1 bt245.2.1 bt245.2.2.1 bt245.2.2.2.1 bt245.2.2.2.2.1 bt245.2.2.2.2.2.1 bt245.2.2.2.2.2.2 bt237.1 bt237.2.1 bt237.2.2.1 bt237.2.2.2.1 bt237.2.2.2.2.1 bt237.2.2.2.2.2.1 bt237.2.2.2.2.2.2).bind fun t252 => (if t252 > 0 then (ephemerislaw2_IntervalDivs.j4 k x6 x8 x9 x11 x15 x49 x50 x51 x59 x60 x61 true x221000 x221001 x226000 x226001 bt237.1 bt237.2.1 bt237.2.2.1 bt237.2.2.2.1 bt237.2.2.2.2.1 bt237.2.2.2.2.2.1 bt237.2.2.2.2.2.2) else ((ephemerisref2_Product.f k x226001 x15).bind fun bt253 => ((ephemerisref2_Compare.f k bt253.1 bt253.2.1 bt253.2.2.1 bt253.2.2.2.1 bt253.2.2.2.2.1 bt253.2.2.2.2.2.1 bt253.2.2.2.2.2.2 bt237.1 bt237.2.1 bt237.2.2.1 bt237.2.2.2.1 bt237.2.2.2.2.1 bt237.2.2.2.2.2.1 bt237.2.2.2.2.2.2).bind fun t260 => (ephemerislaw2_IntervalDivs.j4 k x6 x8 x9 x11 x15 x49 x50 x51 x59 x60 x61 (decide (t260 < 0)) x221000 x221001 x226000 x226001 bt237.1 bt237.2.1 bt237.2.2.1 bt237.2.2.2.1 bt237.2.2.2.2.1 bt237.2.2.2.2.2.1 bt237.2.2.2.2.2.2))))))
def ephemerislaw2_IntervalDivs.j4 : Nat → Int → Bool → Bool → Int → Int → List Int → Int → Int → List Int → Int → Int → Bool → Int → Int → Int → Int → Bool → Int → Int → Int → Int → Int → Int → Option (Bool)
 | 0, _, _, _, _, _, _, _, _, _, _, _, _, _, _, _, _, _, _, _, _, _, _, _ => none
 | k + 1, x6, x8, x9, x11, x15, x49, x50, x51, x59, x60, x61, x90, x221000, x221001, x226000, x226001, x245000, x245001, x245002, x245003, x245004, x245005, x245006 => if x90 = true then (some false) else (if x8 = true then (if x9 = true then (ephemerislaw2_IntervalDivs.l1 k x6 true true x11 x49 x50 x51 x59 x60 (wrap64 (x61 + 1)) x221000 x221001 x226000 x226001) else ((ephemerisref2_Product.f k (wrap64 (x226001 - 1)) x15).bind fun bt261 => ((ephemerisref2_Compare.f k bt261.1 bt261.2.1 bt261.2.2.1 bt261.2.2.2.1 bt261.2.2.2.2.1 bt261.2.2.2.2.2.1 bt261.2.2.2.2.2.2 x245000 x245001 x245002 x245003 x245004 x245005 x245006).bind fun t268 => (ephemerislaw2_IntervalDivs.l1 k x6 true (decide (t268 < 0)) x11 x49 x50 x51 x59 x60 (wrap64 (x61 + 1)) x221000 x221001 x226000 x226001)))) else ((ephemerisref2_Product.f k (wrap64 (x226000 + 1)) x15).bind fun bt269 => ((ephemerisref2_Compare.f k bt269.1 bt269.2.1 bt269.2.2.1 bt269.2.2.2.1 bt269.2.2.2.2.1 bt269.2.2.2.2.2.1 bt269.2.2.2.2.2.2 x245000 x245001 x245002 x245003 x245004 x245005 x245006).bind fun t276 => (if x9 = true then (ephemerislaw2_IntervalDivs.l1 k x6 (decide (t276 > 0)) true x11 x49 x50 x51 x59 x60 (wrap64 (x61 + 1)) x221000 x221001 x226000 x226001) else ((ephemerisref2_Product.f k (wrap64 (x226001 - 1)) x15).bind fun bt277 => ((ephemerisref2_Compare.f k bt277.1 bt277.2.1 bt277.2.2.1 bt277.2.2.2.1 bt277.2.2.2.2.1 bt277.2.2.2.2.2.1 bt277.2.2.2.2.2.2 x245000 x245001 x245002 x245003 x245004 x245005 x245006).bind fun t284 => (ephemerislaw2_IntervalDivs.l1 k x6 (decide (t276 > 0)) (decide (t284 < 0)) x11 x49 x50 x51 x59 x60 (wrap64 (x61 + 1)) x221000 x221001 x226000 x226001)))))))
end
def ephemerislaw2_IntervalDivs.f (k : Nat) (a0_0 : Int) (a0_1 : Int) (a1_0 : Int) (a1_1 : Int) : Option (Bool) := (ephemerislaw2_intervalWorks.f k).bind fun t221 => (if t221 = true then ((interval_Div.f k a0_0 a0_1 a1_0 a1_1).bind fun bt222 => ((ephemerisref2_TwoErr.f k a0_0 a0_1 a1_0 a1_1).bind fun t226 => (if t226 = 0 then (if a1_0 ≤ 0 then (ephemerislaw2_IntervalDivs.j0 k bt222.2.2 (decide (a1_1 ≥ 0)) a0_0 a0_1 a1_0 a1_1 bt222.1 bt222.2.1) else (ephemerislaw2_IntervalDivs.j0 k bt222.2.2 false a0_0 a0_1 a1_0 a1_1 bt222.1 bt222.2.1)) else ((ephemerislaw2_none.f bt222.1 bt222.2.1 bt222.2.2 t226).bind fun t227 => (some t227))))) else (some false))
def ephemerislaw2_IntervalDivs.T20 : Bool × List (List Nat × List Nat) := (true, [([], []), ([0], [0]), ([], []), ([1, 2], [1, 2]), ([], []), ([3, 4, 3], [3, 4]), ([5], [5]), ([6, 5], [6]), ([7], [7]), ([8, 7], [7, 8]), ([7], [7]), ([9, 10, 7, 7], [7, 9, 10]), ([7], [7]), ([11, 12, 11, 7], [7, 11, 12]), ([13, 7], [7, 13]), ([7, 14], [7, 14])])
def ephemerislaw2_IntervalDivs.B20 : List Nat := [0, 1, 0, 7, 0, 31, 63, 127, 255, 511, 255, 2047, 255, 8191, 16383, 32767]
theorem ephemerislaw2_IntervalDivs.tab20 : rtab .any (opsOf Try.f6 20) = ephemerislaw2_IntervalDivs.T20 := by kernel_rfl
theorem ephemerislaw2_IntervalDivs.bits20 : waitsOk ephemerislaw2_IntervalDivs.T20.2 ephemerislaw2_IntervalDivs.B20 = true := by kernel_rfl
def ephemerislaw2_IntervalDivs.T22 : Bool × List (List Nat × List Nat) := (true, [([], []), ([0], [0]), ([1], [1]), ([2, 1], [1, 2]), ([3, 1], [1, 3]), ([1], [1]), ([4, 5, 1, 1], [1, 4, 5]), ([1], [1]), ([6, 7, 6, 1], [1, 6, 7]), ([8, 1], [1, 8]), ([1, 9], [1, 9]), ([10, 8, 0, 1, 2, 3, 4, 5, 6, 7, 8, 9, 10], [0, 10])])
def ephemerislaw2_IntervalDivs.B22 : List Nat := [0, 1, 3, 7, 15, 3, 63, 3, 255, 511, 1023, 2047]
theorem ephemerislaw2_IntervalDivs.tab22 : rtab .any (opsOf Try.f6 22) = ephemerislaw2_IntervalDivs.T22 := by kernel_rfl
theorem ephemerislaw2_IntervalDivs.bits22 : waitsOk ephemerislaw2_IntervalDivs.T22.2 ephemerislaw2_IntervalDivs.B22 = true := by kernel_rfl
def ephemerislaw2_IntervalDivs.T23 : Bool × List (List Nat × List Nat) := (true, [([], []), ([0], [0]), ([1], [1]), ([2, 1], [1, 2]), ([3, 1], [1, 3]), ([1], [1]), ([4, 5, 1, 1], [1, 4, 5]), ([1], [1]), ([6, 7, 6, 1], [1, 6, 7]), ([8, 1], [1, 8]), ([1, 9], [1, 9]), ([10, 8, 0, 1, 2, 3, 4, 5, 6, 7, 8, 9, 10], [0, 10])])
def ephemerislaw2_IntervalDivs.B23 : List Nat := [0, 1, 3, 7, 15, 3, 63, 3, 255, 511, 1023, 2047]
theorem ephemerislaw2_IntervalDivs.tab23 : rtab .any (opsOf Try.f6 23) = ephemerislaw2_IntervalDivs.T23 := by kernel_rfl
theorem ephemerislaw2_IntervalDivs.bits23 : waitsOk ephemerislaw2_IntervalDivs.T23.2 ephemerislaw2_IntervalDivs.B23 = true := by kernel_rfl
set_option maxHeartbeats 8000000 in
set_option maxRecDepth 100000 in
theorem ephemerislaw2_IntervalDivs.calls (k : Nat) (a0_0 : Int) (a0_1 : Int) (a1_0 : Int) (a1_1 : Int) (r : Bool) (w : World) (h : ephemerislaw2_IntervalDivs.f k a0_0 a0_1 a1_0 a1_1 = some r) (hT : r = true) :
  Calls Try.prog 6 #[.agg #[.int .i64 a0_0, .int .i64 a0_1], .agg #[.int .i64 a1_0, .int .i64 a1_1]] w fun e w' => e = .returned (.bool r) ∧ Below w.heap.size w w' := by
 have hu37 := Try.underlying37
 have hu46 := Try.underlying46
 have HB := Aside0.mk (Below.refl w.heap.size w)
 have H : ((ephemerislaw2_intervalWorks.f k).bind fun t221 => (if t221 = true then ((interval_Div.f k a0_0 a0_1 a1_0 a1_1).bind fun bt222 => ((ephemerisref2_TwoErr.f k a0_0 a0_1 a1_0 a1_1).bind fun t226 => (if t226 = 0 then (if a1_0 ≤ 0 then (ephemerislaw2_IntervalDivs.j0 k bt222.2.2 (decide (a1_1 ≥ 0)) a0_0 a0_1 a1_0 a1_1 bt222.1 bt222.2.1) else (ephemerislaw2_IntervalDivs.j0 k bt222.2.2 false a0_0 a0_1 a1_0 a1_1 bt222.1 bt222.2.1)) else ((ephemerislaw2_none.f bt222.1 bt222.2.1 bt222.2.2 t226).bind fun t227 => (some t227))))) else (some false))) = some r := h
 clear h
 replace H := Option.bind_eq_some_iff.mp H
 obtain ⟨t221, A30, H⟩ := H
 replace H : (if t221 = true then ((interval_Div.f k a0_0 a0_1 a1_0 a1_1).bind fun bt222 => ((ephemerisref2_TwoErr.f k a0_0 a0_1 a1_0 a1_1).bind fun t226 => (if t226 = 0 then (if a1_0 ≤ 0 then (ephemerislaw2_IntervalDivs.j0 k bt222.2.2 (decide (a1_1 ≥ 0)) a0_0 a0_1 a1_0 a1_1 bt222.1 bt222.2.1) else (ephemerislaw2_IntervalDivs.j0 k bt222.2.2 false a0_0 a0_1 a1_0 a1_1 bt222.1 bt222.2.1)) else ((ephemerislaw2_none.f bt222.1 bt222.2.1 bt222.2.2 t226).bind fun t227 => (some t227))))) else (some false)) = some r := H
 have A3 := Aside0.mk A30
 clear A30
 by_cases c4 : t221 = true
 ·subst c4
  have H1 : ((interval_Div.f k a0_0 a0_1 a1_0 a1_1).bind fun bt222 => ((ephemerisref2_TwoErr.f k a0_0 a0_1 a1_0 a1_1).bind fun t226 => (if t226 = 0 then (if a1_0 ≤ 0 then (ephemerislaw2_IntervalDivs.j0 k bt222.2.2 (decide (a1_1 ≥ 0)) a0_0 a0_1 a1_0 a1_1 bt222.1 bt222.2.1) else (ephemerislaw2_IntervalDivs.j0 k bt222.2.2 false a0_0 a0_1 a1_0 a1_1 bt222.1 bt222.2.1)) else ((ephemerislaw2_none.f bt222.1 bt222.2.1 bt222.2.2 t226).bind fun t227 => (some t227))))) = some r := by rw [if_pos rfl] at H; exact H
  clear H
  have H := H1
  clear H1
  replace H := Option.bind_eq_some_iff.mp H
  obtain ⟨⟨t222, t223, t224⟩, A50, H⟩ := H
  replace H : ((ephemerisref2_TwoErr.f k a0_0 a0_1 a1_0 a1_1).bind fun t226 => (if t226 = 0 then (if a1_0 ≤ 0 then (ephemerislaw2_IntervalDivs.j0 k t224 (decide (a1_1 ≥ 0)) a0_0 a0_1 a1_0 a1_1 t222 t223) else (ephemerislaw2_IntervalDivs.j0 k t224 false a0_0 a0_1 a1_0 a1_1 t222 t223)) else ((ephemerislaw2_none.f t222 t223 t224 t226).bind fun t227 => (some t227)))) = some r := H
  have A5 := Aside0.mk A50
  clear A50
  replace H := Option.bind_eq_some_iff.mp H
  obtain ⟨t226, A60, H⟩ := H
  replace H : (if t226 = 0 then (if a1_0 ≤ 0 then (ephemerislaw2_IntervalDivs.j0 k t224 (decide (a1_1 ≥ 0)) a0_0 a0_1 a1_0 a1_1 t222 t223) else (ephemerislaw2_IntervalDivs.j0 k t224 false a0_0 a0_1 a1_0 a1_1 t222 t223)) else ((ephemerislaw2_none.f t222 t223 t224 t226).bind fun t227 => (some t227))) = some r := H
  have A6 := Aside0.mk A60
  clear A60
  have HC7 := Aside0.mk H
  clear H
  go_enter Try.func6, Try.ntmps6
  go_upto_if 29 with (first | ((with_reducible refine gate_dst (N := 2) rfl ?_); refine box_event ?hg (N := 2) ?hd (cs := #[.int .i64 a0_0, .int .i64 a0_1]) (t := 37) ?hr ?_; (case hd => rfl); (case hg => rfl); (case hr => first | (go_simp; done) | (go_simp; rfl)); intro gb219 hg w8 hbox hb; have BK219 := Aside0.mk (hbox); have GW219 := ge_ hg HB; have GE219 := ge_ hg HB; replace HB := bs_ HB hb; clear hb hbox hg) | ((with_reducible refine gate_dst (N := 3) rfl ?_); refine box_event ?hg (N := 3) ?hd (cs := #[.int .i64 a1_0, .int .i64 a1_1]) (t := 37) ?hr ?_; (case hd => rfl); (case hg => rfl); (case hr => first | (go_simp; done) | (go_simp; rfl)); intro gb220 hg w9 hbox hb; have BK220 := Aside0.mk (hbox); have GW220 := ge_ hg HB; have GE220 := ge_ hg HB; have NB219_220 := nl_ hg BK219; have NB220_219 := ng_ hg BK219; replace BK219 := kb_ BK219 hb; replace HB := bs_ HB hb; clear hb hbox hg) | ((with_reducible refine gate_callee (f := 22) rfl ?_); refine goesL_ (some 17) rfl rfl Try.func22 (by kernel_rfl) rfl #[] rfl (by (try simp only [List.map_toArray, List.map_cons, List.map_nil]); first | done | rfl | (simp only [List.length_drop, List.length_take]; rfl)) ?_; (with_reducible refine (ephemerislaw2_intervalWorks.calls k  true _ A3.out rfl).mono ?_); rintro e w10 ⟨rfl, hb⟩; refine ⟨_, rfl, ?_⟩; replace BK219 := kb_ BK219 hb; replace BK220 := kb_ BK220 hb; replace HB := bs_ HB hb; (try clear hb); (try clear hb2); (try clear hk); (try clear hi); have hnb11 := NB219_220.out; have hnc11 := NB220_219.out; have hcz12_0 : w10.cell? ⟨gb219, 0, none⟩ = some (.int .i64 a0_0) := (blk_cell BK219.out 0).trans rfl; have hcz12_1 : w10.cell? ⟨gb219, 1, none⟩ = some (.int .i64 a0_1) := (blk_cell BK219.out 1).trans rfl; have hfz12_0 := blk_frozen BK219.out 0; have hfz12_1 := blk_frozen BK219.out 1; have hcz13_0 : w10.cell? ⟨gb220, 0, none⟩ = some (.int .i64 a1_0) := (blk_cell BK220.out 0).trans rfl; have hcz13_1 : w10.cell? ⟨gb220, 1, none⟩ = some (.int .i64 a1_1) := (blk_cell BK220.out 1).trans rfl; have hfz13_0 := blk_frozen BK220.out 0; have hfz13_1 := blk_frozen BK220.out 1) | ((with_reducible refine gate_callee (f := 32) rfl ?_); refine goesL_ (some 22) rfl rfl Try.func32 (by kernel_rfl) rfl #[.agg #[.int .i64 a0_0, .int .i64 a0_1], .agg #[.int .i64 a1_0, .int .i64 a1_1]] rfl (by (try simp only [List.map_toArray, List.map_cons, List.map_nil]); first | done | rfl | (simp only [List.length_drop, List.length_take]; rfl)) ?_; (with_reducible refine (interval_Div.calls k a0_0 a0_1 a1_0 a1_1 t222 t223 t224 _ A5.out).mono ?_); rintro e w14 ⟨rfl, hb⟩; refine ⟨_, rfl, ?_⟩; replace BK219 := kb_ BK219 hb; replace BK220 := kb_ BK220 hb; replace HB := bs_ HB hb; (try clear hb); (try clear hb2); (try clear hk); (try clear hi)) | ((with_reducible refine gate_dst (N := 5) rfl ?_); refine box_event ?hg (N := 5) ?hd (cs := #[.int .i64 0, .int .i64 0]) (t := 37) ?hr ?_; (case hd => rfl); (case hg => rfl); (case hr => first | (go_simp; done) | (go_simp; rfl)); intro gb225 hg w15 hbox hb; have BK225 := Aside0.mk (hbox); have GW225 := ge_ hg HB; have GE225 := ge_ hg HB; have NB219_225 := nl_ hg BK219; have NB225_219 := ng_ hg BK219; have NB220_225 := nl_ hg BK220; have NB225_220 := ng_ hg BK220; replace BK219 := kb_ BK219 hb; replace BK220 := kb_ BK220 hb; replace HB := bs_ HB hb; clear hb hbox hg; have hnb16 := NB225_219.out; have hnc16 := NB219_225.out; have hnb17 := NB225_220.out; have hnc17 := NB220_225.out; have hcz18_0 : w15.cell? ⟨gb225, 0, none⟩ = some (.int .i64 0) := (blk_cell BK225.out 0).trans rfl; have hcz18_1 : w15.cell? ⟨gb225, 1, none⟩ = some (.int .i64 0) := (blk_cell BK225.out 1).trans rfl; have hfz18_0 := blk_frozen BK225.out 0; have hfz18_1 := blk_frozen BK225.out 1; have hcz19_0 : w15.cell? ⟨gb219, 0, none⟩ = some (.int .i64 a0_0) := (blk_cell BK219.out 0).trans rfl; have hcz19_1 : w15.cell? ⟨gb219, 1, none⟩ = some (.int .i64 a0_1) := (blk_cell BK219.out 1).trans rfl; have hfz19_0 := blk_frozen BK219.out 0; have hfz19_1 := blk_frozen BK219.out 1; have hcz20_0 : w15.cell? ⟨gb220, 0, none⟩ = some (.int .i64 a1_0) := (blk_cell BK220.out 0).trans rfl; have hcz20_1 : w15.cell? ⟨gb220, 1, none⟩ = some (.int .i64 a1_1) := (blk_cell BK220.out 1).trans rfl; have hfz20_0 := blk_frozen BK220.out 0; have hfz20_1 := blk_frozen BK220.out 1) | ((with_reducible refine gate_callee (f := 26) rfl ?_); refine goesL_ (some 27) rfl rfl Try.func26 (by kernel_rfl) rfl #[.agg #[.int .i64 a0_0, .int .i64 a0_1], .agg #[.int .i64 a1_0, .int .i64 a1_1]] rfl (by (try simp only [List.map_toArray, List.map_cons, List.map_nil]); first | done | rfl | (simp only [List.length_drop, List.length_take]; rfl)) ?_; (with_reducible refine (ephemerisref2_TwoErr.calls k a0_0 a0_1 a1_0 a1_1 t226 _ A6.out).mono ?_); rintro e w21 ⟨rfl, hb⟩; refine ⟨_, rfl, ?_⟩; have n0_ := kb_ BK219 hb; have n1_ := kb_ BK220 hb; have n2_ := Aside0.mk (blk_below (g := gb225) (o := .cells #[.int .i64 t222, .int .i64 t223] 37 (0, 0)) (by (with_reducible repeat (first | refine blk_drewN ?_ _ | refine blk_drew ?_ | refine blk_alloc ?_ _)); refine blk_put (cs := #[.int .i64 t222, .int .i64 0]) ?_ 1 _ rfl; (with_reducible repeat (first | refine blk_drewN ?_ _ | refine blk_drew ?_ | refine blk_alloc ?_ _)); refine blk_put (cs := #[.int .i64 0, .int .i64 0]) ?_ 0 _ rfl; (with_reducible repeat (first | refine blk_drewN ?_ _ | refine blk_drew ?_ | refine blk_alloc ?_ _)); exact BK225.out) hb); have n3_ := bs_ HB hb; clear BK219; clear BK220; clear BK225; clear HB; have BK219 := n0_; have BK220 := n1_; have BK225 := n2_; have HB := n3_; clear n0_ n1_ n2_ n3_; (try clear hb); (try clear hb2); (try clear hk); (try clear hi)))
  (try simp only [Act.put, List.setIfInBounds_toArray, List.set_cons_zero, List.set_cons_succ])
  have H := HC7.out
  clear HC7
  by_cases c22 : t226 = 0
  ·rw [if_pos c22] at H
   have c22b0 : (t226 == 0) = true := beq_iff_eq.mpr c22
   have c22b1 : (t226 != 0) = false := bne_eq_false_iff_eq.mpr c22
   clear c22
   (first | rw [c22b0] | (simp only [i64_w, i32_w]; rw [c22b0]) | skip)
   have HC23 := Aside0.mk H
   clear H
   go_upto_region 7 with (fail)
   go_cut [41] (fun v41 wc => ∃ (kq : Nat) (x41_22 : Bool), v41 = .bool x41_22 ∧ Aside0 (ephemerislaw2_IntervalDivs.j0 kq t224 x41_22 a0_0 a0_1 a1_0 a1_1 t222 t223 = some r) ∧ Aside0 (kq ≤ k) ∧ Aside0 (wc.heap[gb219]? = some (.cells #[.int .i64 a0_0, .int .i64 a0_1] 37 (0, 0))) ∧ Aside0 (wc.heap[gb220]? = some (.cells #[.int .i64 a1_0, .int .i64 a1_1] 37 (0, 0))) ∧ Aside0 (wc.heap[gb225]? = some (.cells #[.int .i64 t222, .int .i64 t223] 37 (0, 0))) ∧ Aside0 (Below w.heap.size w wc))
   case first =>
    have H := HC23.out
    clear HC23
    by_cases c24 : a1_0 ≤ 0
    ·rw [if_pos c24] at H
     have c24b0 : decide (a1_0 ≤ 0) = true := decide_eq_true c24
     clear c24
     (first | rw [c24b0] | (simp only [i64_w, i32_w]; rw [c24b0]) | skip)
     have H' := Aside0.mk H
     clear H
     have hnb25 := NB220_219.out
     have hnc25 := NB219_220.out
     have hnb26 := NB220_225.out
     have hnc26 := NB225_220.out
     have hcz27_0 : w21.cell? ⟨gb220, 0, none⟩ = some (.int .i64 a1_0) := (blk_cell BK220.out 0).trans rfl
     have hcz27_1 : w21.cell? ⟨gb220, 1, none⟩ = some (.int .i64 a1_1) := (blk_cell BK220.out 1).trans rfl
     have hfz27_0 := blk_frozen BK220.out 0
     have hfz27_1 := blk_frozen BK220.out 1
     go_wp2
     go_meet
     case rel => exact ⟨_, (decide (a1_1 ≥ 0)), (by first | rfl | (simp; done) | (simp [*]; done)), H', ⟨by first | omega | exact Nat.le_refl _⟩, ⟨kk_ BK219⟩, ⟨kk_ BK220⟩, ⟨kk_ BK225⟩, (be_ HB)⟩
    ·rw [if_neg c24] at H
     have c24b0 : decide (a1_0 ≤ 0) = false := decide_eq_false c24
     clear c24
     (first | rw [c24b0] | (simp only [i64_w, i32_w]; rw [c24b0]) | skip)
     have H' := Aside0.mk H
     clear H
     have hnb28 := NB220_219.out
     have hnc28 := NB219_220.out
     have hnb29 := NB220_225.out
     have hnc29 := NB225_220.out
     have hcz30_0 : w21.cell? ⟨gb220, 0, none⟩ = some (.int .i64 a1_0) := (blk_cell BK220.out 0).trans rfl
     have hcz30_1 : w21.cell? ⟨gb220, 1, none⟩ = some (.int .i64 a1_1) := (blk_cell BK220.out 1).trans rfl
     have hfz30_0 := blk_frozen BK220.out 0
     have hfz30_1 := blk_frozen BK220.out 1
     go_wp2
     go_meet
     case rel => exact ⟨_, (false), (by first | rfl | (simp; done) | (simp [*]; done)), H', ⟨by first | omega | exact Nat.le_refl _⟩, ⟨kk_ BK219⟩, ⟨kk_ BK220⟩, ⟨kk_ BK225⟩, (be_ HB)⟩
   case rest =>
    clear HC23
    try clear c1
    try clear c2
    try clear p2
    try clear c3
    try clear c4
    try clear c6
    try clear c11
    try clear c16
    try clear c17
    try clear c22
    try clear c22b0
    try clear c22b1
    try clear c24
    try clear c24b0
    try clear c25
    try clear c26
    try clear c28
    try clear c29
    try clear hcz12_0
    try clear hcz12_1
    try clear hcz13_0
    try clear hcz13_1
    try clear hcz18_0
    try clear hcz18_1
    try clear hcz19_0
    try clear hcz19_1
    try clear hcz20_0
    try clear hcz20_1
    try clear hcz27_0
    try clear hcz27_1
    try clear hcz30_0
    try clear hcz30_1
    try clear hfz12_0
    try clear hfz12_1
    try clear hfz13_0
    try clear hfz13_1
    try clear hfz18_0
    try clear hfz18_1
    try clear hfz19_0
    try clear hfz19_1
    try clear hfz20_0
    try clear hfz20_1
    try clear hfz27_0
    try clear hfz27_1
    try clear hfz30_0
    try clear hfz30_1
    obtain ⟨kq, x41_22, rfl, HA, HJ22, BK219, BK220, BK225, HB⟩ := hcut
    cases kq with
    | zero => exact absurd HA.out (by simp [ephemerislaw2_IntervalDivs.j0])
    | succ kj22 =>
     have H := HA.out
     clear HA
     simp only [ephemerislaw2_IntervalDivs.j0] at H
     by_cases c31 : x41_22 = true
     ·subst c31
      have H1 : ((ephemerislaw2_none.f t222 t223 t224 1).bind fun t228 => (some t228)) = some r := by rw [if_pos rfl] at H; exact H
      clear H
      have H := H1
      clear H1
      replace H := Option.bind_eq_some_iff.mp H
      obtain ⟨t228, A320, H⟩ := H
      replace H : (some t228) = some r := H
      have A32 := Aside0.mk A320
      clear A320
      obtain rfl := Option.some.inj H
      simp only [Option.some.injEq, Prod.mk.injEq] at H
      obtain ⟨rfl⟩ := H
      have hnb33 := NB225_219.out
      have hnc33 := NB219_225.out
      have hnb34 := NB225_220.out
      have hnc34 := NB220_225.out
      have hcz35_0 : wc.cell? ⟨gb225, 0, none⟩ = some (.int .i64 t222) := (blk_cell BK225.out 0).trans rfl
      have hcz35_1 : wc.cell? ⟨gb225, 1, none⟩ = some (.int .i64 t223) := (blk_cell BK225.out 1).trans rfl
      have hfz35_0 := blk_frozen BK225.out 0
      have hfz35_1 := blk_frozen BK225.out 1
      go_wp2_with (first | ((with_reducible refine gate_callee (f := 27) rfl ?_); refine goesL_ (some 44) rfl rfl Try.func27 (by kernel_rfl) rfl #[.agg #[.int .i64 t222, .int .i64 t223], .int .i64 t224, .int .i64 1] rfl (by (try simp only [List.map_toArray, List.map_cons, List.map_nil]); first | done | rfl | (simp only [List.length_drop, List.length_take]; rfl)) ?_; (with_reducible refine (ephemerislaw2_none.calls t222 t223 t224 1 t228 _ A32.out).mono ?_); rintro e w36 ⟨rfl, hb⟩; refine ⟨_, rfl, ?_⟩; replace BK219 := kb_ BK219 hb; replace BK220 := kb_ BK220 hb; replace BK225 := kb_ BK225 hb; replace HB := bs_ HB hb; (try clear hb); (try clear hb2); (try clear hk); (try clear hi)))
      go_ret
      exact ⟨by first | rfl | (simp [errW_none, errW_some] <;> rfl) | (simp [*, errW_none, errW_some] <;> rfl), (be_ HB).out⟩
     ·replace c31 := Bool.eq_false_iff.mpr c31
      subst c31
      have H1 : ((some (([a0_0, a0_1] : List Int) : List Int)).bind fun y229 => (ephemerislaw2_IntervalDivs.l0 kj22 t224 false false y229 (y229.length : Int) 0 a1_0 a1_1 t222 t223)) = some r := by rw [if_neg (show ¬ (false = true) by decide)] at H; exact H
      clear H
      have H := H1
      clear H1
      obtain ⟨y229, hy229⟩ : ∃ y_ : List Int, y_ = (([a0_0, a0_1] : List Int)) := ⟨_, rfl⟩
      replace H : (ephemerislaw2_IntervalDivs.l0 kj22 t224 false false y229 (y229.length : Int) 0 a1_0 a1_1 t222 t223) = some r := by first | (rw [hy229]; with_reducible exact H) | (have H2_ := (Option.bind_some _ _).symm.trans H; rw [hy229]; with_reducible exact H2_) | (have H2_ := (Option.bind_some _ _).symm.trans H; with_reducible exact H2_) | with_reducible exact H | (rw [hy229]; exact H) | exact H
      have Ny229 := Aside0.mk hy229
      clear hy229
      have H' := Aside0.mk H
      clear H
      have hnb37 := NB219_220.out
      have hnc37 := NB220_219.out
      have hnb38 := NB219_225.out
      have hnc38 := NB225_219.out
      have hcz39_0 : wc.cell? ⟨gb219, 0, none⟩ = some (.int .i64 a0_0) := (blk_cell BK219.out 0).trans rfl
      have hcz39_1 : wc.cell? ⟨gb219, 1, none⟩ = some (.int .i64 a0_1) := (blk_cell BK219.out 1).trans rfl
      have hfz39_0 := blk_frozen BK219.out 0
      have hfz39_1 := blk_frozen BK219.out 1
      go_wp2_with (first | ((with_reducible refine gate_dst (N := 49) rfl ?_); refine Kd.R_lit (Kd.int .i64) _ 3 ?hg (N := 49) ?hd (xs := ([a0_0, a0_1] : List Int)) (inner := [.int .i64 a0_0, .int .i64 a0_1]) (ok := fun _ => True) (okp := fun _ => True) ?hr ?hp (fun _ hk => hk) trivial (Below.refl _ _) (Nat.le_refl _) (by simp) ?_; (case hd => rfl); (case hg => rfl); (case hr => first | (go_simp; done) | (go_simp; rfl)); (case hp => exact (Reps.one (show Kd.M (Kd.int .i64) _ _ _ a0_0 [.int .i64 a0_0] from rfl) (Reps.one (show Kd.M (Kd.int .i64) _ _ _ a0_1 [.int .i64 a0_1] from rfl) (Reps.none _ _)))); intro v230 w40 ho41 hb hg_ hnew_; clear hg_ hnew_; (first | rw [← Ny229.out] at ho41 | (simp only [Int.reduceToNat] at ho41; rw [← Ny229.out] at ho41)); have HO231 := Aside0.mk (Kd.R_lower ho41 (below_size (be_ HB).out)); replace BK219 := kb_ BK219 hb; replace BK220 := kb_ BK220 hb; replace BK225 := kb_ BK225 hb; replace HB := bs_ HB hb; clear hb ho41; obtain ⟨Ao42, co42, eo42⟩ := Kd.R_slice HO231.out; subst eo42))
      go_loopg [8, 9, 51] kj22 (fun kq v8 v9 v51 w' => ∃ (x8_2 : Bool) (x9_2 : Bool) (x51_2 : Int), v8 = .bool x8_2 ∧ v9 = .bool x9_2 ∧ v51 = .int .i64 x51_2 ∧ Aside0 (ephemerislaw2_IntervalDivs.l0 kq t224 x8_2 x9_2 y229 (y229.length : Int) x51_2 a1_0 a1_1 t222 t223 = some r) ∧ Aside0 (kq ≤ kj22) ∧ Aside0 (Kd.R (Kd.int .i64) 3 w' w.heap.size (fun _ => True) (.slice Ao42 y229.length co42) y229) ∧ Aside0 (w'.heap[gb219]? = some (.cells #[.int .i64 a0_0, .int .i64 a0_1] 37 (0, 0))) ∧ Aside0 (w'.heap[gb220]? = some (.cells #[.int .i64 a1_0, .int .i64 a1_1] 37 (0, 0))) ∧ Aside0 (w'.heap[gb225]? = some (.cells #[.int .i64 t222, .int .i64 t223] 37 (0, 0))) ∧ Aside0 (Below w.heap.size w w'))
      case atStart => exact ⟨(false), (false), (0), (by first | rfl | (simp; done) | (simp [*]; done)), (by first | rfl | (simp; done) | (simp [*]; done)), (by first | rfl | (simp; done) | (simp [*]; done)), H', ⟨Nat.le_refl _⟩, ⟨by (with_reducible repeat (first | apply Kd.R_alloc | apply Kd.R_drewN | apply Kd.R_drew)); exact HO231.out⟩, ⟨kk_ BK219⟩, ⟨kk_ BK220⟩, ⟨kk_ BK225⟩, (be_ HB)⟩
      case round =>
       clear H'
       try clear c1
       try clear c2
       try clear p2
       try clear c3
       try clear c4
       try clear c6
       try clear c11
       try clear c16
       try clear c17
       try clear c22
       try clear c22b0
       try clear c22b1
       try clear c24
       try clear c24b0
       try clear c25
       try clear c26
       try clear c27
       try clear c28
       try clear c29
       try clear c31
       try clear c32
       try clear c33
       try clear c34
       try clear c37
       try clear c38
       try clear hcz12_0
       try clear hcz12_1
       try clear hcz13_0
       try clear hcz13_1
       try clear hcz18_0
       try clear hcz18_1
       try clear hcz19_0
       try clear hcz19_1
       try clear hcz20_0
       try clear hcz20_1
       try clear hcz27_0
       try clear hcz27_1
       try clear hcz30_0
       try clear hcz30_1
       try clear hcz35_0
       try clear hcz35_1
       try clear hcz39_0
       try clear hcz39_1
       try clear hfz12_0
       try clear hfz12_1
       try clear hfz13_0
       try clear hfz13_1
       try clear hfz18_0
       try clear hfz18_1
       try clear hfz19_0
       try clear hfz19_1
       try clear hfz20_0
       try clear hfz20_1
       try clear hfz27_0
       try clear hfz27_1
       try clear hfz30_0
       try clear hfz30_1
       try clear hfz35_0
       try clear hfz35_1
       try clear hfz39_0
       try clear hfz39_1
       try clear p2
       obtain ⟨x8_2, x9_2, x51_2, rfl, rfl, rfl, HA, HK2, HO_49, BK219, BK220, BK225, HB⟩ := hrel
       cases gk with
       | zero => exact absurd HA.out (by simp [ephemerislaw2_IntervalDivs.l0])
       | succ k2 =>
        have H := HA.out
        clear HA
        simp only [ephemerislaw2_IntervalDivs.l0] at H
        by_cases c43 : x51_2 < (y229.length : Int)
        ·rw [if_pos c43] at H
         have c43b0 : decide (x51_2 < (y229.length : Int)) = true := decide_eq_true c43
         clear c43
         by_cases c44 : 0 ≤ x51_2
         ·rw [if_pos c44] at H
          have c44b0 : decide (0 ≤ x51_2) = true := decide_eq_true c44
          clear c44
          by_cases c45 : x51_2 < (y229.length : Int)
          ·rw [if_pos c45] at H
           have c45b0 : decide (x51_2 < (y229.length : Int)) = true := decide_eq_true c45
           clear c45
           obtain ⟨y233, hy233⟩ : ∃ y_ : List Int, y_ = (([a1_0, a1_1] : List Int)) := ⟨_, rfl⟩
           replace H : (ephemerislaw2_IntervalDivs.l1 k2 t224 x8_2 x9_2 (rd y229 x51_2) y229 (y229.length : Int) x51_2 y233 (y233.length : Int) 0 a1_0 a1_1 t222 t223) = some r := by first | (rw [hy233]; with_reducible exact H) | (have H2_ := (Option.bind_some _ _).symm.trans H; rw [hy233]; with_reducible exact H2_) | (have H2_ := (Option.bind_some _ _).symm.trans H; with_reducible exact H2_) | with_reducible exact H | (rw [hy233]; exact H) | exact H
           have Ny233 := Aside0.mk hy233
           clear hy233
           have H' := Aside0.mk H
           clear H
           have p232 : 0 ≤ (x51_2 : Int) := of_decide_eq_true (by first | (with_reducible assumption) | assumption)
           have q232 : x51_2 < (y229.length : Int) := of_decide_eq_true (by first | (with_reducible assumption) | assumption)
           obtain ⟨ad232, e232, hx232_0⟩ := Kd.at_int (Kd.R_reads' HO_49.out).2.2 x51_2 p232 q232
           cases e232
           replace p232 := eq_true p232
           replace q232 := eq_true q232
           have hnb46 := NB220_219.out
           have hnc46 := NB219_220.out
           have hnb47 := NB220_225.out
           have hnc47 := NB225_220.out
           have hcz48_0 : wr.cell? ⟨gb220, 0, none⟩ = some (.int .i64 a1_0) := (blk_cell BK220.out 0).trans rfl
           have hcz48_1 : wr.cell? ⟨gb220, 1, none⟩ = some (.int .i64 a1_1) := (blk_cell BK220.out 1).trans rfl
           have hfz48_0 := blk_frozen BK220.out 0
           have hfz48_1 := blk_frozen BK220.out 1
           go_wp2_with (first | ((with_reducible refine gate_dst (N := 59) rfl ?_); refine Kd.R_lit (Kd.int .i64) _ 3 ?hg (N := 59) ?hd (xs := ([a1_0, a1_1] : List Int)) (inner := [.int .i64 a1_0, .int .i64 a1_1]) (ok := fun _ => True) (okp := fun _ => True) ?hr ?hp (fun _ hk => hk) trivial (Below.refl _ _) (Nat.le_refl _) (by simp) ?_; (case hd => rfl); (case hg => rfl); (case hr => first | (go_simp; done) | (go_simp; rfl)); (case hp => exact (Reps.one (show Kd.M (Kd.int .i64) _ _ _ a1_0 [.int .i64 a1_0] from rfl) (Reps.one (show Kd.M (Kd.int .i64) _ _ _ a1_1 [.int .i64 a1_1] from rfl) (Reps.none _ _)))); intro v234 w49 ho50 hb hg_ hnew_; clear hg_ hnew_; (first | rw [← Ny233.out] at ho50 | (simp only [Int.reduceToNat] at ho50; rw [← Ny233.out] at ho50)); have n0_ := Aside0.mk (Kd.R_elder' (by (with_reducible repeat (first | apply Kd.R_alloc | apply Kd.R_drewN | apply Kd.R_drew)); exact HO_49.out) (Kd.R_base ho50) hb); have n1_ := Aside0.mk (Kd.R_lower (Kd.R_new' ho50 (Kd.R_lt (by (with_reducible repeat (first | apply Kd.R_alloc | apply Kd.R_drewN | apply Kd.R_drew)); exact HO_49.out))) (below_size (be_ HB).out)); have n2_ := kb_ BK219 hb; have n3_ := kb_ BK220 hb; have n4_ := kb_ BK225 hb; have n5_ := bs_ HB hb; clear HO_49; clear BK219; clear BK220; clear BK225; clear HB; have HO_49 := n0_; have HO235 := n1_; have BK219 := n2_; have BK220 := n3_; have BK225 := n4_; have HB := n5_; clear n0_ n1_ n2_ n3_ n4_ n5_; clear hb ho50; obtain ⟨Ao51, co51, eo51⟩ := Kd.R_slice HO235.out; subst eo51))
           go_loopg [8, 9, 61] k2 (fun kq v8 v9 v61 w' => ∃ (x8_3 : Bool) (x9_3 : Bool) (x61_3 : Int), v8 = .bool x8_3 ∧ v9 = .bool x9_3 ∧ v61 = .int .i64 x61_3 ∧ Aside0 (ephemerislaw2_IntervalDivs.l1 kq t224 x8_3 x9_3 (rd y229 x51_2) y229 (y229.length : Int) x51_2 y233 (y233.length : Int) x61_3 a1_0 a1_1 t222 t223 = some r) ∧ Aside0 (kq ≤ k2) ∧ Aside0 (Kd.R (Kd.int .i64) 3 w' w.heap.size (fun k_ => some k_ ≠ ((.slice Ao51 y233.length co51) : Value).ownBlock) (.slice (some ad232) y229.length co42) y229) ∧ Aside0 (Kd.R (Kd.int .i64) 3 w' w.heap.size (fun k_ => some k_ ≠ ((.slice (some ad232) y229.length co42) : Value).ownBlock) (.slice Ao51 y233.length co51) y233) ∧ Aside0 (w'.heap[gb219]? = some (.cells #[.int .i64 a0_0, .int .i64 a0_1] 37 (0, 0))) ∧ Aside0 (w'.heap[gb220]? = some (.cells #[.int .i64 a1_0, .int .i64 a1_1] 37 (0, 0))) ∧ Aside0 (w'.heap[gb225]? = some (.cells #[.int .i64 t222, .int .i64 t223] 37 (0, 0))) ∧ Aside0 (Below w.heap.size w w'))
           case atStart => exact ⟨(x8_2), (x9_2), (0), (by first | rfl | (simp; done) | (simp [*]; done)), (by first | rfl | (simp; done) | (simp [*]; done)), (by first | rfl | (simp; done) | (simp [*]; done)), H', ⟨Nat.le_refl _⟩, ⟨by (with_reducible repeat (first | apply Kd.R_alloc | apply Kd.R_drewN | apply Kd.R_drew)); exact Kd.R_mono HO_49.out (fun _ hk => hk.2)⟩, ⟨by (with_reducible repeat (first | apply Kd.R_alloc | apply Kd.R_drewN | apply Kd.R_drew)); exact Kd.R_mono HO235.out (fun _ hk => hk.2)⟩, ⟨kk_ BK219⟩, ⟨kk_ BK220⟩, ⟨kk_ BK225⟩, (be_ HB)⟩
           case round =>
            clear H'
            try clear c1
            try clear c2
            try clear p2
            try clear q2
            try clear hx2
            try clear c3
            try clear c4
            try clear c6
            try clear c11
            try clear c16
            try clear c17
            try clear c22
            try clear c22b0
            try clear c22b1
            try clear p23
            try clear q23
            try clear hx23
            try clear c24
            try clear c24b0
            try clear c25
            try clear c26
            try clear c27
            try clear c28
            try clear c29
            try clear c31
            try clear c32
            try clear c33
            try clear c34
            try clear c37
            try clear c38
            try clear c43
            try clear c43b0
            try clear c44
            try clear c44b0
            try clear c45
            try clear c45b0
            try clear c46
            try clear c47
            try clear hcz12_0
            try clear hcz12_1
            try clear hcz13_0
            try clear hcz13_1
            try clear hcz18_0
            try clear hcz18_1
            try clear hcz19_0
            try clear hcz19_1
            try clear hcz20_0
            try clear hcz20_1
            try clear hcz27_0
            try clear hcz27_1
            try clear hcz30_0
            try clear hcz30_1
            try clear hcz35_0
            try clear hcz35_1
            try clear hcz39_0
            try clear hcz39_1
            try clear hcz48_0
            try clear hcz48_1
            try clear hfz12_0
            try clear hfz12_1
            try clear hfz13_0
            try clear hfz13_1
            try clear hfz18_0
            try clear hfz18_1
            try clear hfz19_0
            try clear hfz19_1
            try clear hfz20_0
            try clear hfz20_1
            try clear hfz27_0
            try clear hfz27_1
            try clear hfz30_0
            try clear hfz30_1
            try clear hfz35_0
            try clear hfz35_1
            try clear hfz39_0
            try clear hfz39_1
            try clear hfz48_0
            try clear hfz48_1
            try clear hx232_0
            try clear p2
            try clear p232
            try clear q232
            obtain ⟨x8_3, x9_3, x61_3, rfl, rfl, rfl, HA, HK3, HO_49, HO_59, BK219, BK220, BK225, HB⟩ := hrel
            cases gk with
            | zero => exact absurd HA.out (by simp [ephemerislaw2_IntervalDivs.l1])
            | succ k3 =>
             have H := HA.out
             clear HA
             simp only [ephemerislaw2_IntervalDivs.l1] at H
             by_cases c52 : x61_3 < (y233.length : Int)
             ·rw [if_pos c52] at H
              have c52b0 : decide (x61_3 < (y233.length : Int)) = true := decide_eq_true c52
              clear c52
              by_cases c53 : 0 ≤ x61_3
              ·rw [if_pos c53] at H
               have c53b0 : decide (0 ≤ x61_3) = true := decide_eq_true c53
               clear c53
               by_cases c54 : x61_3 < (y233.length : Int)
               ·rw [if_pos c54] at H
                have c54b0 : decide (x61_3 < (y233.length : Int)) = true := decide_eq_true c54
                clear c54
                have HC55 := Aside0.mk H
                clear H
                have p236 : 0 ≤ (x61_3 : Int) := of_decide_eq_true (by first | (with_reducible assumption) | assumption)
                have q236 : x61_3 < (y233.length : Int) := of_decide_eq_true (by first | (with_reducible assumption) | assumption)
                obtain ⟨ad236, e236, hx236_0⟩ := Kd.at_int (Kd.R_reads' HO_59.out).2.2 x61_3 p236 q236
                cases e236
                replace p236 := eq_true p236
                replace q236 := eq_true q236
                go_upto_if 68 with (fail)
                go_cut [14, 15] (fun v14 v15 wc => ∃ (kq : Nat) (x14_54 : Int) (x15_54 : Int), v14 = .int .i64 x14_54 ∧ v15 = .int .i64 x15_54 ∧ Aside0 (ephemerislaw2_IntervalDivs.j3 kq t224 x8_3 x9_3 (rd y229 x51_2) x14_54 x15_54 y229 (y229.length : Int) x51_2 y233 (y233.length : Int) x61_3 a1_0 a1_1 t222 t223 = some r) ∧ Aside0 (kq ≤ k3) ∧ Aside0 (Kd.R (Kd.int .i64) 3 wc w.heap.size (fun k_ => some k_ ≠ ((.slice (some ad236) y233.length co51) : Value).ownBlock) (.slice (some ad232) y229.length co42) y229) ∧ Aside0 (Kd.R (Kd.int .i64) 3 wc w.heap.size (fun k_ => some k_ ≠ ((.slice (some ad232) y229.length co42) : Value).ownBlock) (.slice (some ad236) y233.length co51) y233) ∧ Aside0 (wc.heap[gb219]? = some (.cells #[.int .i64 a0_0, .int .i64 a0_1] 37 (0, 0))) ∧ Aside0 (wc.heap[gb220]? = some (.cells #[.int .i64 a1_0, .int .i64 a1_1] 37 (0, 0))) ∧ Aside0 (wc.heap[gb225]? = some (.cells #[.int .i64 t222, .int .i64 t223] 37 (0, 0))) ∧ Aside0 (Below w.heap.size w wc))
                case first =>
                 have H := HC55.out
                 clear HC55
                 by_cases c56 : (rd y233 x61_3) < 0
                 ·rw [if_pos c56] at H
                  have c56b0 : decide ((rd y233 x61_3) < 0) = true := decide_eq_true c56
                  clear c56
                  (first | rw [c56b0] | (simp only [i64_w, i32_w]; rw [c56b0]) | skip)
                  have H' := Aside0.mk H
                  clear H
                  go_wp2
                  go_meet
                  case rel => exact ⟨_, (wrap64 (-(rd y229 x51_2))), (wrap64 (-(rd y233 x61_3))), (by first | rfl | (simp; done) | (simp [*]; done)), (by first | rfl | (simp; done) | (simp [*]; done)), H', ⟨by have := HJ22.out; have := HK2.out; have := HK3.out; first | omega | exact Nat.le_refl _⟩, ⟨by (with_reducible repeat (first | apply Kd.R_alloc | apply Kd.R_drewN | apply Kd.R_drew)); exact HO_49.out⟩, ⟨by (with_reducible repeat (first | apply Kd.R_alloc | apply Kd.R_drewN | apply Kd.R_drew)); exact HO_59.out⟩, ⟨kk_ BK219⟩, ⟨kk_ BK220⟩, ⟨kk_ BK225⟩, (be_ HB)⟩
                 ·rw [if_neg c56] at H
                  have c56b0 : decide ((rd y233 x61_3) < 0) = false := decide_eq_false c56
                  clear c56
                  (first | rw [c56b0] | (simp only [i64_w, i32_w]; rw [c56b0]) | skip)
                  have H' := Aside0.mk H
                  clear H
                  go_wp2
                  go_meet
                  case rel => exact ⟨_, ((rd y229 x51_2)), (rd y233 x61_3), (by first | rfl | (simp; done) | (simp [*]; done)), (by first | rfl | (simp; done) | (simp [*]; done)), H', ⟨by have := HJ22.out; have := HK2.out; have := HK3.out; first | omega | exact Nat.le_refl _⟩, ⟨by (with_reducible repeat (first | apply Kd.R_alloc | apply Kd.R_drewN | apply Kd.R_drew)); exact HO_49.out⟩, ⟨by (with_reducible repeat (first | apply Kd.R_alloc | apply Kd.R_drewN | apply Kd.R_drew)); exact HO_59.out⟩, ⟨kk_ BK219⟩, ⟨kk_ BK220⟩, ⟨kk_ BK225⟩, (be_ HB)⟩
                case rest =>
                 clear HC55
                 try clear c1
                 try clear c2
                 try clear p2
                 try clear q2
                 try clear hx2
                 try clear c3
                 try clear c4
                 try clear c5
                 try clear c6
                 try clear p6
                 try clear c11
                 try clear c16
                 try clear c17
                 try clear c22
                 try clear c22b0
                 try clear c22b1
                 try clear p23
                 try clear q23
                 try clear hx23
                 try clear c24
                 try clear c24b0
                 try clear c25
                 try clear c26
                 try clear c27
                 try clear c28
                 try clear c29
                 try clear c31
                 try clear c32
                 try clear c33
                 try clear c34
                 try clear c37
                 try clear c38
                 try clear c43
                 try clear c43b0
                 try clear c44
                 try clear c44b0
                 try clear c45
                 try clear c45b0
                 try clear c46
                 try clear c47
                 try clear c52
                 try clear c52b0
                 try clear c53
                 try clear c53b0
                 try clear c54
                 try clear c54b0
                 try clear c56
                 try clear c56b0
                 try clear hcz12_0
                 try clear hcz12_1
                 try clear hcz13_0
                 try clear hcz13_1
                 try clear hcz18_0
                 try clear hcz18_1
                 try clear hcz19_0
                 try clear hcz19_1
                 try clear hcz20_0
                 try clear hcz20_1
                 try clear hcz27_0
                 try clear hcz27_1
                 try clear hcz30_0
                 try clear hcz30_1
                 try clear hcz35_0
                 try clear hcz35_1
                 try clear hcz39_0
                 try clear hcz39_1
                 try clear hcz48_0
                 try clear hcz48_1
                 try clear hfz12_0
                 try clear hfz12_1
                 try clear hfz13_0
                 try clear hfz13_1
                 try clear hfz18_0
                 try clear hfz18_1
                 try clear hfz19_0
                 try clear hfz19_1
                 try clear hfz20_0
                 try clear hfz20_1
                 try clear hfz27_0
                 try clear hfz27_1
                 try clear hfz30_0
                 try clear hfz30_1
                 try clear hfz35_0
                 try clear hfz35_1
                 try clear hfz39_0
                 try clear hfz39_1
                 try clear hfz48_0
                 try clear hfz48_1
                 try clear hx232_0
                 try clear hx236_0
                 try clear p2
                 try clear p23
                 try clear p232
                 try clear p236
                 try clear q2
                 try clear q23
                 try clear q232
                 try clear q236
                 obtain ⟨kq, x14_54, x15_54, rfl, rfl, HA, HJ54, HO_49, HO_59, BK219, BK220, BK225, HB⟩ := hcut
                 cases kq with
                 | zero => exact absurd HA.out (by simp [ephemerislaw2_IntervalDivs.j3])
                 | succ kj54 =>
                  have H := HA.out
                  clear HA
                  simp only [ephemerislaw2_IntervalDivs.j3] at H
                  replace H := Option.bind_eq_some_iff.mp H
                  obtain ⟨⟨t237, t238, t239, t240, t241, t242, t243⟩, A570, H⟩ := H
                  replace H : ((ephemerisref2_Product.f kj54 t222 x15_54).bind fun bt245 => ((ephemerisref2_Compare.f kj54 bt245.1 bt245.2.1 bt245.2.2.1 bt245.2.2.2.1 bt245.2.2.2.2.1 bt245.2.2.2.2.2.1 bt245.2.2.2.2.2.2 t237 t238 t239 t240 t241 t242 t243).bind fun t252 => (if t252 > 0 then (ephemerislaw2_IntervalDivs.j4 kj54 t224 x8_3 x9_3 (rd y229 x51_2) x15_54 y229 (y229.length : Int) x51_2 y233 (y233.length : Int) x61_3 true a1_0 a1_1 t222 t223 t237 t238 t239 t240 t241 t242 t243) else ((ephemerisref2_Product.f kj54 t223 x15_54).bind fun bt253 => ((ephemerisref2_Compare.f kj54 bt253.1 bt253.2.1 bt253.2.2.1 bt253.2.2.2.1 bt253.2.2.2.2.1 bt253.2.2.2.2.2.1 bt253.2.2.2.2.2.2 t237 t238 t239 t240 t241 t242 t243).bind fun t260 => (ephemerislaw2_IntervalDivs.j4 kj54 t224 x8_3 x9_3 (rd y229 x51_2) x15_54 y229 (y229.length : Int) x51_2 y233 (y233.length : Int) x61_3 (decide (t260 < 0)) a1_0 a1_1 t222 t223 t237 t238 t239 t240 t241 t242 t243)))))) = some r := H
                  have A57 := Aside0.mk A570
                  clear A570
                  have HC58 := Aside0.mk H
                  clear H
                  go_upto_region 20 with (first | ((with_reducible refine gate_callee (f := 31) rfl ?_); refine goesL_ (some 74) rfl rfl Try.func31 (by kernel_rfl) rfl #[.int .i64 x14_54] rfl (by (try simp only [List.map_toArray, List.map_cons, List.map_nil]); first | done | rfl | (simp only [List.length_drop, List.length_take]; rfl)) ?_; (with_reducible refine (ephemerisref2_ToWide.calls kj54 x14_54 t237 t238 t239 t240 t241 t242 t243 _ A57.out).mono ?_); rintro e w59 ⟨rfl, hb⟩; refine ⟨_, rfl, ?_⟩; have n0_ := Aside0.mk (Kd.R_below (by (with_reducible repeat (first | apply Kd.R_alloc | apply Kd.R_drewN | apply Kd.R_drew)); exact HO_49.out) hb); have n1_ := Aside0.mk (Kd.R_below (by (with_reducible repeat (first | apply Kd.R_alloc | apply Kd.R_drewN | apply Kd.R_drew)); exact HO_59.out) hb); have n2_ := kb_ BK219 hb; have n3_ := kb_ BK220 hb; have n4_ := kb_ BK225 hb; have n5_ := bs_ HB hb; clear HO_49; clear HO_59; clear BK219; clear BK220; clear BK225; clear HB; have HO_49 := n0_; have HO_59 := n1_; have BK219 := n2_; have BK220 := n3_; have BK225 := n4_; have HB := n5_; clear n0_ n1_ n2_ n3_ n4_ n5_; (try clear hb); (try clear hb2); (try clear hk); (try clear hi)) | ((with_reducible refine gate_dst (N := 16) rfl ?_); refine box_event ?hg (N := 16) ?hd (cs := #[.bool false, .int .i64 0, .int .i64 0, .int .i64 0, .int .i64 0, .int .i64 0, .int .i64 0]) (t := 46) ?hr ?_; (case hd => rfl); (case hg => rfl); (case hr => first | (go_simp; done) | (go_simp; rfl)); intro gb244 hg w60 hbox hb; have n0_ := Aside0.mk (Kd.R_below (by (with_reducible repeat (first | apply Kd.R_alloc | apply Kd.R_drewN | apply Kd.R_drew)); exact HO_49.out) hb); have n1_ := Aside0.mk (Kd.R_below (by (with_reducible repeat (first | apply Kd.R_alloc | apply Kd.R_drewN | apply Kd.R_drew)); exact HO_59.out) hb); have n2_ := kb_ BK219 hb; have n3_ := kb_ BK220 hb; have n4_ := kb_ BK225 hb; have n5_ := bs_ HB hb; have n6_ := Aside0.mk (hbox); have n7_ := ge_ hg HB; have n8_ := ge_ hg HB; have n9_ := nl_ hg BK219; have n10_ := ng_ hg BK219; have n11_ := nl_ hg BK220; have n12_ := ng_ hg BK220; have n13_ := nl_ hg BK225; have n14_ := ng_ hg BK225; clear HO_49; clear HO_59; clear BK219; clear BK220; clear BK225; clear HB; have HO_49 := n0_; have HO_59 := n1_; have BK219 := n2_; have BK220 := n3_; have BK225 := n4_; have HB := n5_; have BK244 := n6_; have GW244 := n7_; have GE244 := n8_; have NB219_244 := n9_; have NB244_219 := n10_; have NB220_244 := n11_; have NB244_220 := n12_; have NB225_244 := n13_; have NB244_225 := n14_; clear n0_ n1_ n2_ n3_ n4_ n5_ n6_ n7_ n8_ n9_ n10_ n11_ n12_ n13_ n14_; clear hb hbox hg; have hnb61 := NB244_219.out; have hnc61 := NB219_244.out; have hnb62 := NB244_220.out; have hnc62 := NB220_244.out; have hnb63 := NB244_225.out; have hnc63 := NB225_244.out; have hcz64_0 : w60.cell? ⟨gb244, 0, none⟩ = some (.bool false) := (blk_cell BK244.out 0).trans rfl; have hcz64_1 : w60.cell? ⟨gb244, 1, none⟩ = some (.int .i64 0) := (blk_cell BK244.out 1).trans rfl; have hcz64_2 : w60.cell? ⟨gb244, 2, none⟩ = some (.int .i64 0) := (blk_cell BK244.out 2).trans rfl; have hcz64_3 : w60.cell? ⟨gb244, 3, none⟩ = some (.int .i64 0) := (blk_cell BK244.out 3).trans rfl; have hcz64_4 : w60.cell? ⟨gb244, 4, none⟩ = some (.int .i64 0) := (blk_cell BK244.out 4).trans rfl; have hcz64_5 : w60.cell? ⟨gb244, 5, none⟩ = some (.int .i64 0) := (blk_cell BK244.out 5).trans rfl; have hcz64_6 : w60.cell? ⟨gb244, 6, none⟩ = some (.int .i64 0) := (blk_cell BK244.out 6).trans rfl; have hfz64_0 := blk_frozen BK244.out 0; have hfz64_1 := blk_frozen BK244.out 1; have hfz64_2 := blk_frozen BK244.out 2; have hfz64_3 := blk_frozen BK244.out 3; have hfz64_4 := blk_frozen BK244.out 4; have hfz64_5 := blk_frozen BK244.out 5; have hfz64_6 := blk_frozen BK244.out 6))
                  (try simp only [Act.put, List.setIfInBounds_toArray, List.set_cons_zero, List.set_cons_succ])
                  go_cut [90] (fun v90 wc => ∃ (kq : Nat) (x90_57 : Bool), v90 = .bool x90_57 ∧ Aside0 (ephemerislaw2_IntervalDivs.j4 kq t224 x8_3 x9_3 (rd y229 x51_2) x15_54 y229 (y229.length : Int) x51_2 y233 (y233.length : Int) x61_3 x90_57 a1_0 a1_1 t222 t223 t237 t238 t239 t240 t241 t242 t243 = some r) ∧ Aside0 (kq ≤ kj54) ∧ Aside0 (Kd.R (Kd.int .i64) 3 wc w.heap.size (fun k_ => some k_ ≠ ((.slice (some ad236) y233.length co51) : Value).ownBlock) (.slice (some ad232) y229.length co42) y229) ∧ Aside0 (Kd.R (Kd.int .i64) 3 wc w.heap.size (fun k_ => some k_ ≠ ((.slice (some ad232) y229.length co42) : Value).ownBlock) (.slice (some ad236) y233.length co51) y233) ∧ Aside0 (wc.heap[gb219]? = some (.cells #[.int .i64 a0_0, .int .i64 a0_1] 37 (0, 0))) ∧ Aside0 (wc.heap[gb220]? = some (.cells #[.int .i64 a1_0, .int .i64 a1_1] 37 (0, 0))) ∧ Aside0 (wc.heap[gb225]? = some (.cells #[.int .i64 t222, .int .i64 t223] 37 (0, 0))) ∧ Aside0 (wc.heap[gb244]? = some (.cells #[.bool t237, .int .i64 t238, .int .i64 t239, .int .i64 t240, .int .i64 t241, .int .i64 t242, .int .i64 t243] 46 (0, 0))) ∧ Aside0 (Below w.heap.size w wc))
                  case first =>
                   have H := HC58.out
                   clear HC58
                   replace H := Option.bind_eq_some_iff.mp H
                   obtain ⟨⟨t245, t246, t247, t248, t249, t250, t251⟩, A650, H⟩ := H
                   replace H : ((ephemerisref2_Compare.f kj54 t245 t246 t247 t248 t249 t250 t251 t237 t238 t239 t240 t241 t242 t243).bind fun t252 => (if t252 > 0 then (ephemerislaw2_IntervalDivs.j4 kj54 t224 x8_3 x9_3 (rd y229 x51_2) x15_54 y229 (y229.length : Int) x51_2 y233 (y233.length : Int) x61_3 true a1_0 a1_1 t222 t223 t237 t238 t239 t240 t241 t242 t243) else ((ephemerisref2_Product.f kj54 t223 x15_54).bind fun bt253 => ((ephemerisref2_Compare.f kj54 bt253.1 bt253.2.1 bt253.2.2.1 bt253.2.2.2.1 bt253.2.2.2.2.1 bt253.2.2.2.2.2.1 bt253.2.2.2.2.2.2 t237 t238 t239 t240 t241 t242 t243).bind fun t260 => (ephemerislaw2_IntervalDivs.j4 kj54 t224 x8_3 x9_3 (rd y229 x51_2) x15_54 y229 (y229.length : Int) x51_2 y233 (y233.length : Int) x61_3 (decide (t260 < 0)) a1_0 a1_1 t222 t223 t237 t238 t239 t240 t241 t242 t243))))) = some r := H
                   have A65 := Aside0.mk A650
                   clear A650
                   replace H := Option.bind_eq_some_iff.mp H
                   obtain ⟨t252, A660, H⟩ := H
                   replace H : (if t252 > 0 then (ephemerislaw2_IntervalDivs.j4 kj54 t224 x8_3 x9_3 (rd y229 x51_2) x15_54 y229 (y229.length : Int) x51_2 y233 (y233.length : Int) x61_3 true a1_0 a1_1 t222 t223 t237 t238 t239 t240 t241 t242 t243) else ((ephemerisref2_Product.f kj54 t223 x15_54).bind fun bt253 => ((ephemerisref2_Compare.f kj54 bt253.1 bt253.2.1 bt253.2.2.1 bt253.2.2.2.1 bt253.2.2.2.2.1 bt253.2.2.2.2.2.1 bt253.2.2.2.2.2.2 t237 t238 t239 t240 t241 t242 t243).bind fun t260 => (ephemerislaw2_IntervalDivs.j4 kj54 t224 x8_3 x9_3 (rd y229 x51_2) x15_54 y229 (y229.length : Int) x51_2 y233 (y233.length : Int) x61_3 (decide (t260 < 0)) a1_0 a1_1 t222 t223 t237 t238 t239 t240 t241 t242 t243)))) = some r := H
                   have A66 := Aside0.mk A660
                   clear A660
                   by_cases c67 : t252 > 0
                   ·rw [if_pos c67] at H
                    have c67b0 : decide (0 < t252) = true := decide_eq_true c67
                    clear c67
                    (first | rw [c67b0] | (simp only [i64_w, i32_w]; rw [c67b0]) | skip)
                    have H' := Aside0.mk H
                    clear H
                    try go_wp2
                    have n0_ : Aside0 (Kd.R (Kd.int .i64) 3 (((((((w60.setCell ⟨gb244, 0, none⟩ (.bool t237)).setCell ⟨gb244, 1, none⟩ (.int .i64 t238)).setCell ⟨gb244, 2, none⟩ (.int .i64 t239)).setCell ⟨gb244, 3, none⟩ (.int .i64 t240)).setCell ⟨gb244, 4, none⟩ (.int .i64 t241)).setCell ⟨gb244, 5, none⟩ (.int .i64 t242)).setCell ⟨gb244, 6, none⟩ (.int .i64 t243)) w.heap.size (fun k_ => some k_ ≠ (.slice (some ad236) y233.length co51 : Value).ownBlock) (.slice (some ad232) y229.length co42) y229) := ⟨by (with_reducible repeat (first | apply Kd.R_alloc | apply Kd.R_drewN | apply Kd.R_drew)); exact Kd.R_mono (Kd.R_far (p := ⟨gb244, 6, none⟩) (Kd.R_far (p := ⟨gb244, 5, none⟩) (Kd.R_far (p := ⟨gb244, 4, none⟩) (Kd.R_far (p := ⟨gb244, 3, none⟩) (Kd.R_far (p := ⟨gb244, 2, none⟩) (Kd.R_far (p := ⟨gb244, 1, none⟩) (Kd.R_far (p := ⟨gb244, 0, none⟩) (Kd.R_types HO_49.out BK244.out (by decide)) (fun _ hk => hk.2) (.bool t237)) (fun _ hk => hk.2) (.int .i64 t238)) (fun _ hk => hk.2) (.int .i64 t239)) (fun _ hk => hk.2) (.int .i64 t240)) (fun _ hk => hk.2) (.int .i64 t241)) (fun _ hk => hk.2) (.int .i64 t242)) (fun _ hk => hk.2) (.int .i64 t243)) (fun _ hk => hk.1)⟩
                    have n1_ : Aside0 (Kd.R (Kd.int .i64) 3 (((((((w60.setCell ⟨gb244, 0, none⟩ (.bool t237)).setCell ⟨gb244, 1, none⟩ (.int .i64 t238)).setCell ⟨gb244, 2, none⟩ (.int .i64 t239)).setCell ⟨gb244, 3, none⟩ (.int .i64 t240)).setCell ⟨gb244, 4, none⟩ (.int .i64 t241)).setCell ⟨gb244, 5, none⟩ (.int .i64 t242)).setCell ⟨gb244, 6, none⟩ (.int .i64 t243)) w.heap.size (fun k_ => some k_ ≠ (.slice (some ad232) y229.length co42 : Value).ownBlock) (.slice (some ad236) y233.length co51) y233) := ⟨by (with_reducible repeat (first | apply Kd.R_alloc | apply Kd.R_drewN | apply Kd.R_drew)); exact Kd.R_mono (Kd.R_far (p := ⟨gb244, 6, none⟩) (Kd.R_far (p := ⟨gb244, 5, none⟩) (Kd.R_far (p := ⟨gb244, 4, none⟩) (Kd.R_far (p := ⟨gb244, 3, none⟩) (Kd.R_far (p := ⟨gb244, 2, none⟩) (Kd.R_far (p := ⟨gb244, 1, none⟩) (Kd.R_far (p := ⟨gb244, 0, none⟩) (Kd.R_types HO_59.out BK244.out (by decide)) (fun _ hk => hk.2) (.bool t237)) (fun _ hk => hk.2) (.int .i64 t238)) (fun _ hk => hk.2) (.int .i64 t239)) (fun _ hk => hk.2) (.int .i64 t240)) (fun _ hk => hk.2) (.int .i64 t241)) (fun _ hk => hk.2) (.int .i64 t242)) (fun _ hk => hk.2) (.int .i64 t243)) (fun _ hk => hk.1)⟩
                    have n2_ : Aside0 ((((((((w60.setCell ⟨gb244, 0, none⟩ (.bool t237)).setCell ⟨gb244, 1, none⟩ (.int .i64 t238)).setCell ⟨gb244, 2, none⟩ (.int .i64 t239)).setCell ⟨gb244, 3, none⟩ (.int .i64 t240)).setCell ⟨gb244, 4, none⟩ (.int .i64 t241)).setCell ⟨gb244, 5, none⟩ (.int .i64 t242)).setCell ⟨gb244, 6, none⟩ (.int .i64 t243)).heap[gb219]? = some (.cells #[.int .i64 a0_0, .int .i64 a0_1] 37 (0, 0))) := ⟨kk_ BK219⟩
                    have n3_ : Aside0 ((((((((w60.setCell ⟨gb244, 0, none⟩ (.bool t237)).setCell ⟨gb244, 1, none⟩ (.int .i64 t238)).setCell ⟨gb244, 2, none⟩ (.int .i64 t239)).setCell ⟨gb244, 3, none⟩ (.int .i64 t240)).setCell ⟨gb244, 4, none⟩ (.int .i64 t241)).setCell ⟨gb244, 5, none⟩ (.int .i64 t242)).setCell ⟨gb244, 6, none⟩ (.int .i64 t243)).heap[gb220]? = some (.cells #[.int .i64 a1_0, .int .i64 a1_1] 37 (0, 0))) := ⟨kk_ BK220⟩
                    have n4_ : Aside0 ((((((((w60.setCell ⟨gb244, 0, none⟩ (.bool t237)).setCell ⟨gb244, 1, none⟩ (.int .i64 t238)).setCell ⟨gb244, 2, none⟩ (.int .i64 t239)).setCell ⟨gb244, 3, none⟩ (.int .i64 t240)).setCell ⟨gb244, 4, none⟩ (.int .i64 t241)).setCell ⟨gb244, 5, none⟩ (.int .i64 t242)).setCell ⟨gb244, 6, none⟩ (.int .i64 t243)).heap[gb225]? = some (.cells #[.int .i64 t222, .int .i64 t223] 37 (0, 0))) := ⟨kk_ BK225⟩
                    have n5_ : Aside0 ((((((((w60.setCell ⟨gb244, 0, none⟩ (.bool t237)).setCell ⟨gb244, 1, none⟩ (.int .i64 t238)).setCell ⟨gb244, 2, none⟩ (.int .i64 t239)).setCell ⟨gb244, 3, none⟩ (.int .i64 t240)).setCell ⟨gb244, 4, none⟩ (.int .i64 t241)).setCell ⟨gb244, 5, none⟩ (.int .i64 t242)).setCell ⟨gb244, 6, none⟩ (.int .i64 t243)).heap[gb244]? = some (.cells #[.bool t237, .int .i64 t238, .int .i64 t239, .int .i64 t240, .int .i64 t241, .int .i64 t242, .int .i64 t243] 46 (0, 0))) := ⟨by (with_reducible repeat (first | refine blk_drewN ?_ _ | refine blk_drew ?_ | refine blk_alloc ?_ _)); refine blk_put (cs := #[.bool t237, .int .i64 t238, .int .i64 t239, .int .i64 t240, .int .i64 t241, .int .i64 t242, .int .i64 0]) ?_ 6 _ rfl; (with_reducible repeat (first | refine blk_drewN ?_ _ | refine blk_drew ?_ | refine blk_alloc ?_ _)); refine blk_put (cs := #[.bool t237, .int .i64 t238, .int .i64 t239, .int .i64 t240, .int .i64 t241, .int .i64 0, .int .i64 0]) ?_ 5 _ rfl; (with_reducible repeat (first | refine blk_drewN ?_ _ | refine blk_drew ?_ | refine blk_alloc ?_ _)); refine blk_put (cs := #[.bool t237, .int .i64 t238, .int .i64 t239, .int .i64 t240, .int .i64 0, .int .i64 0, .int .i64 0]) ?_ 4 _ rfl; (with_reducible repeat (first | refine blk_drewN ?_ _ | refine blk_drew ?_ | refine blk_alloc ?_ _)); refine blk_put (cs := #[.bool t237, .int .i64 t238, .int .i64 t239, .int .i64 0, .int .i64 0, .int .i64 0, .int .i64 0]) ?_ 3 _ rfl; (with_reducible repeat (first | refine blk_drewN ?_ _ | refine blk_drew ?_ | refine blk_alloc ?_ _)); refine blk_put (cs := #[.bool t237, .int .i64 t238, .int .i64 0, .int .i64 0, .int .i64 0, .int .i64 0, .int .i64 0]) ?_ 2 _ rfl; (with_reducible repeat (first | refine blk_drewN ?_ _ | refine blk_drew ?_ | refine blk_alloc ?_ _)); refine blk_put (cs := #[.bool t237, .int .i64 0, .int .i64 0, .int .i64 0, .int .i64 0, .int .i64 0, .int .i64 0]) ?_ 1 _ rfl; (with_reducible repeat (first | refine blk_drewN ?_ _ | refine blk_drew ?_ | refine blk_alloc ?_ _)); refine blk_put (cs := #[.bool false, .int .i64 0, .int .i64 0, .int .i64 0, .int .i64 0, .int .i64 0, .int .i64 0]) ?_ 0 _ rfl; (with_reducible repeat (first | refine blk_drewN ?_ _ | refine blk_drew ?_ | refine blk_alloc ?_ _)); exact BK244.out⟩
                    have n6_ : Aside0 (Below w.heap.size w (((((((w60.setCell ⟨gb244, 0, none⟩ (.bool t237)).setCell ⟨gb244, 1, none⟩ (.int .i64 t238)).setCell ⟨gb244, 2, none⟩ (.int .i64 t239)).setCell ⟨gb244, 3, none⟩ (.int .i64 t240)).setCell ⟨gb244, 4, none⟩ (.int .i64 t241)).setCell ⟨gb244, 5, none⟩ (.int .i64 t242)).setCell ⟨gb244, 6, none⟩ (.int .i64 t243))) := (be_ HB)
                    (try clear HO_49)
                    (try clear HO_59)
                    (try clear BK219)
                    (try clear BK220)
                    (try clear BK225)
                    (try clear BK244)
                    (try clear HB)
                    generalize (((((((w60.setCell ⟨gb244, 0, none⟩ (.bool t237)).setCell ⟨gb244, 1, none⟩ (.int .i64 t238)).setCell ⟨gb244, 2, none⟩ (.int .i64 t239)).setCell ⟨gb244, 3, none⟩ (.int .i64 t240)).setCell ⟨gb244, 4, none⟩ (.int .i64 t241)).setCell ⟨gb244, 5, none⟩ (.int .i64 t242)).setCell ⟨gb244, 6, none⟩ (.int .i64 t243)) = w68 at n0_ n1_ n2_ n3_ n4_ n5_ n6_ ⊢
                    have HO_49 := n0_
                    have HO_59 := n1_
                    have BK219 := n2_
                    have BK220 := n3_
                    have BK225 := n4_
                    have BK244 := n5_
                    have HB := n6_
                    clear n0_ n1_ n2_ n3_ n4_ n5_ n6_
                    replace HO_49 := Aside0.mk (Kd.R_drew HO_49.out)
                    replace HO_59 := Aside0.mk (Kd.R_drew HO_59.out)
                    replace BK219 := Aside0.mk (blk_drew BK219.out)
                    replace BK220 := Aside0.mk (blk_drew BK220.out)
                    replace BK225 := Aside0.mk (blk_drew BK225.out)
                    replace BK244 := Aside0.mk (blk_drew BK244.out)
                    replace HB := Aside0.mk (below_drew1 HB.out)
                    refine start_ (n := 16) (S := fun w' => w'.cell? ⟨gb225, 0, none⟩ = some (.int .i64 t222) ∧ w'.cell? ⟨gb225, 1, none⟩ = some (.int .i64 t223) ∧ w'.cell? ⟨gb244, 0, none⟩ = some (.bool t237) ∧ w'.cell? ⟨gb244, 1, none⟩ = some (.int .i64 t238) ∧ w'.cell? ⟨gb244, 2, none⟩ = some (.int .i64 t239) ∧ w'.cell? ⟨gb244, 3, none⟩ = some (.int .i64 t240) ∧ w'.cell? ⟨gb244, 4, none⟩ = some (.int .i64 t241) ∧ w'.cell? ⟨gb244, 5, none⟩ = some (.int .i64 t242) ∧ w'.cell? ⟨gb244, 6, none⟩ = some (.int .i64 t243)) (ds := []) #[false, false, false, false, false, false, false, false, false, false, false, false, false, false, false, false] (by kernel_rfl) rfl rfl ⟨(blk_cell BK225.out 0).trans rfl, (blk_cell BK225.out 1).trans rfl, (blk_cell BK244.out 0).trans rfl, (blk_cell BK244.out 1).trans rfl, (blk_cell BK244.out 2).trans rfl, (blk_cell BK244.out 3).trans rfl, (blk_cell BK244.out 4).trans rfl, (blk_cell BK244.out 5).trans rfl, (blk_cell BK244.out 6).trans rfl⟩ (fun hHeld => ?_); refine with_tabW ephemerislaw2_IntervalDivs.tab20 ephemerislaw2_IntervalDivs.bits20 (fun HT_ HW_ => ?_)
                    generalize w68.drew = w69 at HO_49 HO_59 BK219 BK220 BK225 BK244 HB hHeld ⊢
                    refine pure_ (i := 0) (N := some 75) (v := ?_) (a' := ?_) #[true, false, false, false, false, false, false, false, false, false, false, false, false, false, false, false] rfl rfl (any_of HT_.out (by kernel_rfl)) (fun _ _ _ h => h) (Or.inl ⟨by rfl, ?_⟩) ?_ ?_
                    rotate_left
                    ·intro w'
                     go_simp
                     with_reducible rfl
                    rotate_left
                    ·simp only [Act.put, List.setIfInBounds_toArray, List.set_cons_zero, List.set_cons_succ, i64_w, i32_w]
                     rfl
                    refine pure_ (i := 2) (N := some 77) (v := ?_) (a' := ?_) #[true, false, true, false, false, false, false, false, false, false, false, false, false, false, false, false] rfl rfl (any_of HT_.out (by kernel_rfl)) (fun _ _ _ h => h) (Or.inl ⟨by rfl, ?_⟩) ?_ ?_
                    rotate_left
                    ·intro w'
                     go_simp
                     with_reducible rfl
                    rotate_left
                    ·simp only [Act.put, List.setIfInBounds_toArray, List.set_cons_zero, List.set_cons_succ, i64_w, i32_w]
                     rfl
                    refine take_ (i := 1) (N := some 76) (v := ?_) (a' := ?_) #[true, true, true, false, false, false, false, false, false, false, false, false, false, false, false, false] rfl rfl (take_ofW HT_.out HW_.out (by kernel_rfl)) (fun _ _ _ h => h) (Or.inl ⟨by rfl, ?_⟩) hHeld ?_ ?_
                    rotate_left
                    ·rintro w' ⟨s0, s1, s2, s3, s4, s5, s6, s7, s8⟩
                     go_simp
                     with_reducible rfl
                    rotate_left
                    ·simp only [Act.put, List.setIfInBounds_toArray, List.set_cons_zero, List.set_cons_succ, i64_w, i32_w]
                     rfl
                    refine take_ (i := 4) (N := some 79) (v := ?_) (a' := ?_) #[true, true, true, false, true, false, false, false, false, false, false, false, false, false, false, false] rfl rfl (take_ofW HT_.out HW_.out (by kernel_rfl)) (fun _ _ _ h => h) (Or.inl ⟨by rfl, ?_⟩) hHeld ?_ ?_
                    rotate_left
                    ·rintro w' ⟨s0, s1, s2, s3, s4, s5, s6, s7, s8⟩
                     go_simp
                     with_reducible rfl
                    rotate_left
                    ·simp only [Act.put, List.setIfInBounds_toArray, List.set_cons_zero, List.set_cons_succ, i64_w, i32_w]
                     rfl
                    refine one_ (i := 3) (N := some 78) #[true, true, true, true, true, false, false, false, false, false, false, false, false, false, false, false] rfl rfl (one_of HT_.out (by kernel_rfl)) (by decide) (fun K hK => ?_)
                    refine goes_ Try.func28 (by kernel_rfl) rfl #[.int .i64 t222, .int .i64 x15_54] (by rfl) rfl rfl (by (try simp only [List.map_toArray, List.map_cons, List.map_nil]); first | done | rfl | (simp only [List.length_drop, List.length_take]; rfl)) ?_
                    with_reducible refine (ephemerisref2_Product.calls kj54 t222 x15_54 t245 t246 t247 t248 t249 t250 t251 _ A65.out).mono ?_
                    rintro e w70 ⟨rfl, hb⟩
                    refine ⟨_, rfl, ?_⟩
                    have n0_ := Aside0.mk (Kd.R_below (by (with_reducible repeat (first | apply Kd.R_alloc | apply Kd.R_drewN | apply Kd.R_drew)); exact HO_49.out) hb)
                    have n1_ := Aside0.mk (Kd.R_below (by (with_reducible repeat (first | apply Kd.R_alloc | apply Kd.R_drewN | apply Kd.R_drew)); exact HO_59.out) hb)
                    have n2_ := kb_ BK219 hb
                    have n3_ := kb_ BK220 hb
                    have n4_ := kb_ BK225 hb
                    have n5_ := kb_ BK244 hb
                    have n6_ := bs_ HB hb
                    clear HO_49
                    clear HO_59
                    clear BK219
                    clear BK220
                    clear BK225
                    clear BK244
                    clear HB
                    have HO_49 := n0_
                    have HO_59 := n1_
                    have BK219 := n2_
                    have BK220 := n3_
                    have BK225 := n4_
                    have BK244 := n5_
                    have HB := n6_
                    clear n0_ n1_ n2_ n3_ n4_ n5_ n6_
                    (try clear hb)
                    (try clear hb2)
                    (try clear hk)
                    (try clear hi)
                    refine hK.out _ _ ⟨(blk_cell BK225.out 0).trans rfl, (blk_cell BK225.out 1).trans rfl, (blk_cell BK244.out 0).trans rfl, (blk_cell BK244.out 1).trans rfl, (blk_cell BK244.out 2).trans rfl, (blk_cell BK244.out 3).trans rfl, (blk_cell BK244.out 4).trans rfl, (blk_cell BK244.out 5).trans rfl, (blk_cell BK244.out 6).trans rfl⟩ (fun hHeld => ?_)
                    clear hK K
                    refine norm_ (a' := ?_) ?_ ?_
                    rotate_left
                    ·show Act.put _ (some 78) _ = _
                     simp only [Act.put, List.setIfInBounds_toArray, List.set_cons_zero, List.set_cons_succ, i64_w, i32_w]
                     rfl
                    refine one_ (i := 5) (N := some 80) #[true, true, true, true, true, true, false, false, false, false, false, false, false, false, false, false] rfl rfl (one_of HT_.out (by kernel_rfl)) (by decide) (fun K hK => ?_)
                    refine goes_ Try.func30 (by kernel_rfl) rfl #[.agg #[.bool t245, .int .i64 t246, .int .i64 t247, .int .i64 t248, .int .i64 t249, .int .i64 t250, .int .i64 t251], .agg #[.bool t237, .int .i64 t238, .int .i64 t239, .int .i64 t240, .int .i64 t241, .int .i64 t242, .int .i64 t243]] (by rfl) rfl rfl (by (try simp only [List.map_toArray, List.map_cons, List.map_nil]); first | done | rfl | (simp only [List.length_drop, List.length_take]; rfl)) ?_
                    with_reducible refine (ephemerisref2_Compare.calls kj54 t245 t246 t247 t248 t249 t250 t251 t237 t238 t239 t240 t241 t242 t243 t252 _ A66.out).mono ?_
                    rintro e w71 ⟨rfl, hb⟩
                    refine ⟨_, rfl, ?_⟩
                    have n0_ := Aside0.mk (Kd.R_below (by (with_reducible repeat (first | apply Kd.R_alloc | apply Kd.R_drewN | apply Kd.R_drew)); exact HO_49.out) hb)
                    have n1_ := Aside0.mk (Kd.R_below (by (with_reducible repeat (first | apply Kd.R_alloc | apply Kd.R_drewN | apply Kd.R_drew)); exact HO_59.out) hb)
                    have n2_ := kb_ BK219 hb
                    have n3_ := kb_ BK220 hb
                    have n4_ := kb_ BK225 hb
                    have n5_ := kb_ BK244 hb
                    have n6_ := bs_ HB hb
                    clear HO_49
                    clear HO_59
                    clear BK219
                    clear BK220
                    clear BK225
                    clear BK244
                    clear HB
                    have HO_49 := n0_
                    have HO_59 := n1_
                    have BK219 := n2_
                    have BK220 := n3_
                    have BK225 := n4_
                    have BK244 := n5_
                    have HB := n6_
                    clear n0_ n1_ n2_ n3_ n4_ n5_ n6_
                    (try clear hb)
                    (try clear hb2)
                    (try clear hk)
                    (try clear hi)
                    refine hK.out _ _ ⟨(blk_cell BK225.out 0).trans rfl, (blk_cell BK225.out 1).trans rfl, (blk_cell BK244.out 0).trans rfl, (blk_cell BK244.out 1).trans rfl, (blk_cell BK244.out 2).trans rfl, (blk_cell BK244.out 3).trans rfl, (blk_cell BK244.out 4).trans rfl, (blk_cell BK244.out 5).trans rfl, (blk_cell BK244.out 6).trans rfl⟩ (fun hHeld => ?_)
                    clear hK K
                    refine norm_ (a' := ?_) ?_ ?_
                    rotate_left
                    ·show Act.put _ (some 80) _ = _
                     simp only [Act.put, List.setIfInBounds_toArray, List.set_cons_zero, List.set_cons_succ, i64_w, i32_w]
                     rfl
                    refine pure_ (i := 6) (N := some 81) (v := ?_) (a' := ?_) #[true, true, true, true, true, true, true, false, false, false, false, false, false, false, false, false] rfl rfl (any_of HT_.out (by kernel_rfl)) (fun _ _ _ h => h) (Or.inl ⟨by rfl, ?_⟩) ?_ ?_
                    rotate_left
                    ·intro w'
                     go_simp
                     with_reducible rfl
                    rotate_left
                    ·simp only [Act.put, List.setIfInBounds_toArray, List.set_cons_zero, List.set_cons_succ, i64_w, i32_w]
                     rfl
                    refine pure_ (i := 7) (N := some 82) (v := ?_) (a' := ?_) #[true, true, true, true, true, true, true, true, false, false, false, false, false, false, false, false] rfl rfl (any_of HT_.out (by kernel_rfl)) (fun _ _ _ h => h) (Or.inl ⟨by rfl, ?_⟩) ?_ ?_
                    rotate_left
                    ·intro w'
                     go_simp
                     with_reducible rfl
                    rotate_left
                    ·simp only [Act.put, List.setIfInBounds_toArray, List.set_cons_zero, List.set_cons_succ, i64_w, i32_w]
                     rfl
                    refine pure_ (i := 8) (N := some 83) (v := undef) (a' := ?_) #[true, true, true, true, true, true, true, true, true, false, false, false, false, false, false, false] rfl rfl (any_of HT_.out (by kernel_rfl)) (fun _ _ _ h => h) (Or.inr ⟨by rfl, rfl⟩) ?_ ?_
                    rotate_left
                    ·simp only [Act.put, List.setIfInBounds_toArray, List.set_cons_zero, List.set_cons_succ, i64_w, i32_w]
                     rfl
                    refine pure_ (i := 9) (N := some 84) (v := undef) (a' := ?_) #[true, true, true, true, true, true, true, true, true, true, false, false, false, false, false, false] rfl rfl (any_of HT_.out (by kernel_rfl)) (fun _ _ _ h => h) (Or.inr ⟨by rfl, rfl⟩) ?_ ?_
                    rotate_left
                    ·simp only [Act.put, List.setIfInBounds_toArray, List.set_cons_zero, List.set_cons_succ, i64_w, i32_w]
                     rfl
                    refine pure_ (i := 10) (N := some 85) (v := undef) (a' := ?_) #[true, true, true, true, true, true, true, true, true, true, true, false, false, false, false, false] rfl rfl (any_of HT_.out (by kernel_rfl)) (fun _ _ _ h => h) (Or.inr ⟨by rfl, rfl⟩) ?_ ?_
                    rotate_left
                    ·simp only [Act.put, List.setIfInBounds_toArray, List.set_cons_zero, List.set_cons_succ, i64_w, i32_w]
                     rfl
                    refine pure_ (i := 11) (N := some 86) (v := undef) (a' := ?_) #[true, true, true, true, true, true, true, true, true, true, true, true, false, false, false, false] rfl rfl (any_of HT_.out (by kernel_rfl)) (fun _ _ _ h => h) (Or.inr ⟨by rfl, rfl⟩) ?_ ?_
                    rotate_left
                    ·simp only [Act.put, List.setIfInBounds_toArray, List.set_cons_zero, List.set_cons_succ, i64_w, i32_w]
                     rfl
                    refine pure_ (i := 12) (N := some 87) (v := undef) (a' := ?_) #[true, true, true, true, true, true, true, true, true, true, true, true, true, false, false, false] rfl rfl (any_of HT_.out (by kernel_rfl)) (fun _ _ _ h => h) (Or.inr ⟨by rfl, rfl⟩) ?_ ?_
                    rotate_left
                    ·simp only [Act.put, List.setIfInBounds_toArray, List.set_cons_zero, List.set_cons_succ, i64_w, i32_w]
                     rfl
                    refine pure_ (i := 13) (N := some 88) (v := undef) (a' := ?_) #[true, true, true, true, true, true, true, true, true, true, true, true, true, true, false, false] rfl rfl (any_of HT_.out (by kernel_rfl)) (fun _ _ _ h => h) (Or.inr ⟨by rfl, rfl⟩) ?_ ?_
                    rotate_left
                    ·simp only [Act.put, List.setIfInBounds_toArray, List.set_cons_zero, List.set_cons_succ, i64_w, i32_w]
                     rfl
                    refine pure_ (i := 14) (N := some 89) (v := undef) (a' := ?_) #[true, true, true, true, true, true, true, true, true, true, true, true, true, true, true, false] rfl rfl (any_of HT_.out (by kernel_rfl)) (fun _ _ _ h => h) (Or.inr ⟨by rfl, rfl⟩) ?_ ?_
                    rotate_left
                    ·simp only [Act.put, List.setIfInBounds_toArray, List.set_cons_zero, List.set_cons_succ, i64_w, i32_w]
                     rfl
                    refine pure_ (i := 15) (N := some 90) (v := ?_) (a' := ?_) #[true, true, true, true, true, true, true, true, true, true, true, true, true, true, true, true] rfl rfl (any_of HT_.out (by kernel_rfl)) (fun _ _ _ h => h) (Or.inl ⟨by rfl, ?_⟩) ?_ ?_
                    rotate_left
                    ·intro w'
                     go_simp
                     with_reducible rfl
                    rotate_left
                    ·simp only [Act.put, List.setIfInBounds_toArray, List.set_cons_zero, List.set_cons_succ, i64_w, i32_w]
                     rfl
                    refine done_ (done_of HT_.out (by kernel_rfl)) ?_
                    try go_wp2
                    go_meet
                    case rel => exact ⟨_, (true), (by first | rfl | (simp; done) | (simp [*]; done)), H', ⟨by have := HJ22.out; have := HK2.out; have := HK3.out; have := HJ54.out; first | omega | exact Nat.le_refl _⟩, ⟨by (with_reducible repeat (first | apply Kd.R_alloc | apply Kd.R_drewN | apply Kd.R_drew)); exact HO_49.out⟩, ⟨by (with_reducible repeat (first | apply Kd.R_alloc | apply Kd.R_drewN | apply Kd.R_drew)); exact HO_59.out⟩, ⟨kk_ BK219⟩, ⟨kk_ BK220⟩, ⟨kk_ BK225⟩, ⟨kk_ BK244⟩, (be_ HB)⟩
                   ·rw [if_neg c67] at H
                    have c67b0 : decide (0 < t252) = false := decide_eq_false c67
                    clear c67
                    (first | rw [c67b0] | (simp only [i64_w, i32_w]; rw [c67b0]) | skip)
                    replace H := Option.bind_eq_some_iff.mp H
                    obtain ⟨⟨t253, t254, t255, t256, t257, t258, t259⟩, A720, H⟩ := H
                    replace H : ((ephemerisref2_Compare.f kj54 t253 t254 t255 t256 t257 t258 t259 t237 t238 t239 t240 t241 t242 t243).bind fun t260 => (ephemerislaw2_IntervalDivs.j4 kj54 t224 x8_3 x9_3 (rd y229 x51_2) x15_54 y229 (y229.length : Int) x51_2 y233 (y233.length : Int) x61_3 (decide (t260 < 0)) a1_0 a1_1 t222 t223 t237 t238 t239 t240 t241 t242 t243)) = some r := H
                    have A72 := Aside0.mk A720
                    clear A720
                    replace H := Option.bind_eq_some_iff.mp H
                    obtain ⟨t260, A730, H⟩ := H
                    replace H : (ephemerislaw2_IntervalDivs.j4 kj54 t224 x8_3 x9_3 (rd y229 x51_2) x15_54 y229 (y229.length : Int) x51_2 y233 (y233.length : Int) x61_3 (decide (t260 < 0)) a1_0 a1_1 t222 t223 t237 t238 t239 t240 t241 t242 t243) = some r := H
                    have A73 := Aside0.mk A730
                    clear A730
                    have H' := Aside0.mk H
                    clear H
                    try go_wp2
                    have n0_ : Aside0 (Kd.R (Kd.int .i64) 3 (((((((w60.setCell ⟨gb244, 0, none⟩ (.bool t237)).setCell ⟨gb244, 1, none⟩ (.int .i64 t238)).setCell ⟨gb244, 2, none⟩ (.int .i64 t239)).setCell ⟨gb244, 3, none⟩ (.int .i64 t240)).setCell ⟨gb244, 4, none⟩ (.int .i64 t241)).setCell ⟨gb244, 5, none⟩ (.int .i64 t242)).setCell ⟨gb244, 6, none⟩ (.int .i64 t243)) w.heap.size (fun k_ => some k_ ≠ (.slice (some ad236) y233.length co51 : Value).ownBlock) (.slice (some ad232) y229.length co42) y229) := ⟨by (with_reducible repeat (first | apply Kd.R_alloc | apply Kd.R_drewN | apply Kd.R_drew)); exact Kd.R_mono (Kd.R_far (p := ⟨gb244, 6, none⟩) (Kd.R_far (p := ⟨gb244, 5, none⟩) (Kd.R_far (p := ⟨gb244, 4, none⟩) (Kd.R_far (p := ⟨gb244, 3, none⟩) (Kd.R_far (p := ⟨gb244, 2, none⟩) (Kd.R_far (p := ⟨gb244, 1, none⟩) (Kd.R_far (p := ⟨gb244, 0, none⟩) (Kd.R_types HO_49.out BK244.out (by decide)) (fun _ hk => hk.2) (.bool t237)) (fun _ hk => hk.2) (.int .i64 t238)) (fun _ hk => hk.2) (.int .i64 t239)) (fun _ hk => hk.2) (.int .i64 t240)) (fun _ hk => hk.2) (.int .i64 t241)) (fun _ hk => hk.2) (.int .i64 t242)) (fun _ hk => hk.2) (.int .i64 t243)) (fun _ hk => hk.1)⟩
                    have n1_ : Aside0 (Kd.R (Kd.int .i64) 3 (((((((w60.setCell ⟨gb244, 0, none⟩ (.bool t237)).setCell ⟨gb244, 1, none⟩ (.int .i64 t238)).setCell ⟨gb244, 2, none⟩ (.int .i64 t239)).setCell ⟨gb244, 3, none⟩ (.int .i64 t240)).setCell ⟨gb244, 4, none⟩ (.int .i64 t241)).setCell ⟨gb244, 5, none⟩ (.int .i64 t242)).setCell ⟨gb244, 6, none⟩ (.int .i64 t243)) w.heap.size (fun k_ => some k_ ≠ (.slice (some ad232) y229.length co42 : Value).ownBlock) (.slice (some ad236) y233.length co51) y233) := ⟨by (with_reducible repeat (first | apply Kd.R_alloc | apply Kd.R_drewN | apply Kd.R_drew)); exact Kd.R_mono (Kd.R_far (p := ⟨gb244, 6, none⟩) (Kd.R_far (p := ⟨gb244, 5, none⟩) (Kd.R_far (p := ⟨gb244, 4, none⟩) (Kd.R_far (p := ⟨gb244, 3, none⟩) (Kd.R_far (p := ⟨gb244, 2, none⟩) (Kd.R_far (p := ⟨gb244, 1, none⟩) (Kd.R_far (p := ⟨gb244, 0, none⟩) (Kd.R_types HO_59.out BK244.out (by decide)) (fun _ hk => hk.2) (.bool t237)) (fun _ hk => hk.2) (.int .i64 t238)) (fun _ hk => hk.2) (.int .i64 t239)) (fun _ hk => hk.2) (.int .i64 t240)) (fun _ hk => hk.2) (.int .i64 t241)) (fun _ hk => hk.2) (.int .i64 t242)) (fun _ hk => hk.2) (.int .i64 t243)) (fun _ hk => hk.1)⟩
                    have n2_ : Aside0 ((((((((w60.setCell ⟨gb244, 0, none⟩ (.bool t237)).setCell ⟨gb244, 1, none⟩ (.int .i64 t238)).setCell ⟨gb244, 2, none⟩ (.int .i64 t239)).setCell ⟨gb244, 3, none⟩ (.int .i64 t240)).setCell ⟨gb244, 4, none⟩ (.int .i64 t241)).setCell ⟨gb244, 5, none⟩ (.int .i64 t242)).setCell ⟨gb244, 6, none⟩ (.int .i64 t243)).heap[gb219]? = some (.cells #[.int .i64 a0_0, .int .i64 a0_1] 37 (0, 0))) := ⟨kk_ BK219⟩
                    have n3_ : Aside0 ((((((((w60.setCell ⟨gb244, 0, none⟩ (.bool t237)).setCell ⟨gb244, 1, none⟩ (.int .i64 t238)).setCell ⟨gb244, 2, none⟩ (.int .i64 t239)).setCell ⟨gb244, 3, none⟩ (.int .i64 t240)).setCell ⟨gb244, 4, none⟩ (.int .i64 t241)).setCell ⟨gb244, 5, none⟩ (.int .i64 t242)).setCell ⟨gb244, 6, none⟩ (.int .i64 t243)).heap[gb220]? = some (.cells #[.int .i64 a1_0, .int .i64 a1_1] 37 (0, 0))) := ⟨kk_ BK220⟩
                    have n4_ : Aside0 ((((((((w60.setCell ⟨gb244, 0, none⟩ (.bool t237)).setCell ⟨gb244, 1, none⟩ (.int .i64 t238)).setCell ⟨gb244, 2, none⟩ (.int .i64 t239)).setCell ⟨gb244, 3, none⟩ (.int .i64 t240)).setCell ⟨gb244, 4, none⟩ (.int .i64 t241)).setCell ⟨gb244, 5, none⟩ (.int .i64 t242)).setCell ⟨gb244, 6, none⟩ (.int .i64 t243)).heap[gb225]? = some (.cells #[.int .i64 t222, .int .i64 t223] 37 (0, 0))) := ⟨kk_ BK225⟩
                    have n5_ : Aside0 ((((((((w60.setCell ⟨gb244, 0, none⟩ (.bool t237)).setCell ⟨gb244, 1, none⟩ (.int .i64 t238)).setCell ⟨gb244, 2, none⟩ (.int .i64 t239)).setCell ⟨gb244, 3, none⟩ (.int .i64 t240)).setCell ⟨gb244, 4, none⟩ (.int .i64 t241)).setCell ⟨gb244, 5, none⟩ (.int .i64 t242)).setCell ⟨gb244, 6, none⟩ (.int .i64 t243)).heap[gb244]? = some (.cells #[.bool t237, .int .i64 t238, .int .i64 t239, .int .i64 t240, .int .i64 t241, .int .i64 t242, .int .i64 t243] 46 (0, 0))) := ⟨by (with_reducible repeat (first | refine blk_drewN ?_ _ | refine blk_drew ?_ | refine blk_alloc ?_ _)); refine blk_put (cs := #[.bool t237, .int .i64 t238, .int .i64 t239, .int .i64 t240, .int .i64 t241, .int .i64 t242, .int .i64 0]) ?_ 6 _ rfl; (with_reducible repeat (first | refine blk_drewN ?_ _ | refine blk_drew ?_ | refine blk_alloc ?_ _)); refine blk_put (cs := #[.bool t237, .int .i64 t238, .int .i64 t239, .int .i64 t240, .int .i64 t241, .int .i64 0, .int .i64 0]) ?_ 5 _ rfl; (with_reducible repeat (first | refine blk_drewN ?_ _ | refine blk_drew ?_ | refine blk_alloc ?_ _)); refine blk_put (cs := #[.bool t237, .int .i64 t238, .int .i64 t239, .int .i64 t240, .int .i64 0, .int .i64 0, .int .i64 0]) ?_ 4 _ rfl; (with_reducible repeat (first | refine blk_drewN ?_ _ | refine blk_drew ?_ | refine blk_alloc ?_ _)); refine blk_put (cs := #[.bool t237, .int .i64 t238, .int .i64 t239, .int .i64 0, .int .i64 0, .int .i64 0, .int .i64 0]) ?_ 3 _ rfl; (with_reducible repeat (first | refine blk_drewN ?_ _ | refine blk_drew ?_ | refine blk_alloc ?_ _)); refine blk_put (cs := #[.bool t237, .int .i64 t238, .int .i64 0, .int .i64 0, .int .i64 0, .int .i64 0, .int .i64 0]) ?_ 2 _ rfl; (with_reducible repeat (first | refine blk_drewN ?_ _ | refine blk_drew ?_ | refine blk_alloc ?_ _)); refine blk_put (cs := #[.bool t237, .int .i64 0, .int .i64 0, .int .i64 0, .int .i64 0, .int .i64 0, .int .i64 0]) ?_ 1 _ rfl; (with_reducible repeat (first | refine blk_drewN ?_ _ | refine blk_drew ?_ | refine blk_alloc ?_ _)); refine blk_put (cs := #[.bool false, .int .i64 0, .int .i64 0, .int .i64 0, .int .i64 0, .int .i64 0, .int .i64 0]) ?_ 0 _ rfl; (with_reducible repeat (first | refine blk_drewN ?_ _ | refine blk_drew ?_ | refine blk_alloc ?_ _)); exact BK244.out⟩
                    have n6_ : Aside0 (Below w.heap.size w (((((((w60.setCell ⟨gb244, 0, none⟩ (.bool t237)).setCell ⟨gb244, 1, none⟩ (.int .i64 t238)).setCell ⟨gb244, 2, none⟩ (.int .i64 t239)).setCell ⟨gb244, 3, none⟩ (.int .i64 t240)).setCell ⟨gb244, 4, none⟩ (.int .i64 t241)).setCell ⟨gb244, 5, none⟩ (.int .i64 t242)).setCell ⟨gb244, 6, none⟩ (.int .i64 t243))) := (be_ HB)
                    (try clear HO_49)
                    (try clear HO_59)
                    (try clear BK219)
                    (try clear BK220)
                    (try clear BK225)
                    (try clear BK244)
                    (try clear HB)
                    generalize (((((((w60.setCell ⟨gb244, 0, none⟩ (.bool t237)).setCell ⟨gb244, 1, none⟩ (.int .i64 t238)).setCell ⟨gb244, 2, none⟩ (.int .i64 t239)).setCell ⟨gb244, 3, none⟩ (.int .i64 t240)).setCell ⟨gb244, 4, none⟩ (.int .i64 t241)).setCell ⟨gb244, 5, none⟩ (.int .i64 t242)).setCell ⟨gb244, 6, none⟩ (.int .i64 t243)) = w74 at n0_ n1_ n2_ n3_ n4_ n5_ n6_ ⊢
                    have HO_49 := n0_
                    have HO_59 := n1_
                    have BK219 := n2_
                    have BK220 := n3_
                    have BK225 := n4_
                    have BK244 := n5_
                    have HB := n6_
                    clear n0_ n1_ n2_ n3_ n4_ n5_ n6_
                    replace HO_49 := Aside0.mk (Kd.R_drew HO_49.out)
                    replace HO_59 := Aside0.mk (Kd.R_drew HO_59.out)
                    replace BK219 := Aside0.mk (blk_drew BK219.out)
                    replace BK220 := Aside0.mk (blk_drew BK220.out)
                    replace BK225 := Aside0.mk (blk_drew BK225.out)
                    replace BK244 := Aside0.mk (blk_drew BK244.out)
                    replace HB := Aside0.mk (below_drew1 HB.out)
                    refine start_ (n := 16) (S := fun w' => w'.cell? ⟨gb225, 0, none⟩ = some (.int .i64 t222) ∧ w'.cell? ⟨gb225, 1, none⟩ = some (.int .i64 t223) ∧ w'.cell? ⟨gb244, 0, none⟩ = some (.bool t237) ∧ w'.cell? ⟨gb244, 1, none⟩ = some (.int .i64 t238) ∧ w'.cell? ⟨gb244, 2, none⟩ = some (.int .i64 t239) ∧ w'.cell? ⟨gb244, 3, none⟩ = some (.int .i64 t240) ∧ w'.cell? ⟨gb244, 4, none⟩ = some (.int .i64 t241) ∧ w'.cell? ⟨gb244, 5, none⟩ = some (.int .i64 t242) ∧ w'.cell? ⟨gb244, 6, none⟩ = some (.int .i64 t243)) (ds := []) #[false, false, false, false, false, false, false, false, false, false, false, false, false, false, false, false] (by kernel_rfl) rfl rfl ⟨(blk_cell BK225.out 0).trans rfl, (blk_cell BK225.out 1).trans rfl, (blk_cell BK244.out 0).trans rfl, (blk_cell BK244.out 1).trans rfl, (blk_cell BK244.out 2).trans rfl, (blk_cell BK244.out 3).trans rfl, (blk_cell BK244.out 4).trans rfl, (blk_cell BK244.out 5).trans rfl, (blk_cell BK244.out 6).trans rfl⟩ (fun hHeld => ?_); refine with_tabW ephemerislaw2_IntervalDivs.tab20 ephemerislaw2_IntervalDivs.bits20 (fun HT_ HW_ => ?_)
                    generalize w74.drew = w75 at HO_49 HO_59 BK219 BK220 BK225 BK244 HB hHeld ⊢
                    refine pure_ (i := 0) (N := some 75) (v := ?_) (a' := ?_) #[true, false, false, false, false, false, false, false, false, false, false, false, false, false, false, false] rfl rfl (any_of HT_.out (by kernel_rfl)) (fun _ _ _ h => h) (Or.inl ⟨by rfl, ?_⟩) ?_ ?_
                    rotate_left
                    ·intro w'
                     go_simp
                     with_reducible rfl
                    rotate_left
                    ·simp only [Act.put, List.setIfInBounds_toArray, List.set_cons_zero, List.set_cons_succ, i64_w, i32_w]
                     rfl
                    refine pure_ (i := 2) (N := some 77) (v := ?_) (a' := ?_) #[true, false, true, false, false, false, false, false, false, false, false, false, false, false, false, false] rfl rfl (any_of HT_.out (by kernel_rfl)) (fun _ _ _ h => h) (Or.inl ⟨by rfl, ?_⟩) ?_ ?_
                    rotate_left
                    ·intro w'
                     go_simp
                     with_reducible rfl
                    rotate_left
                    ·simp only [Act.put, List.setIfInBounds_toArray, List.set_cons_zero, List.set_cons_succ, i64_w, i32_w]
                     rfl
                    refine take_ (i := 1) (N := some 76) (v := ?_) (a' := ?_) #[true, true, true, false, false, false, false, false, false, false, false, false, false, false, false, false] rfl rfl (take_ofW HT_.out HW_.out (by kernel_rfl)) (fun _ _ _ h => h) (Or.inl ⟨by rfl, ?_⟩) hHeld ?_ ?_
                    rotate_left
                    ·rintro w' ⟨s0, s1, s2, s3, s4, s5, s6, s7, s8⟩
                     go_simp
                     with_reducible rfl
                    rotate_left
                    ·simp only [Act.put, List.setIfInBounds_toArray, List.set_cons_zero, List.set_cons_succ, i64_w, i32_w]
                     rfl
                    refine take_ (i := 4) (N := some 79) (v := ?_) (a' := ?_) #[true, true, true, false, true, false, false, false, false, false, false, false, false, false, false, false] rfl rfl (take_ofW HT_.out HW_.out (by kernel_rfl)) (fun _ _ _ h => h) (Or.inl ⟨by rfl, ?_⟩) hHeld ?_ ?_
                    rotate_left
                    ·rintro w' ⟨s0, s1, s2, s3, s4, s5, s6, s7, s8⟩
                     go_simp
                     with_reducible rfl
                    rotate_left
                    ·simp only [Act.put, List.setIfInBounds_toArray, List.set_cons_zero, List.set_cons_succ, i64_w, i32_w]
                     rfl
                    refine one_ (i := 3) (N := some 78) #[true, true, true, true, true, false, false, false, false, false, false, false, false, false, false, false] rfl rfl (one_of HT_.out (by kernel_rfl)) (by decide) (fun K hK => ?_)
                    refine goes_ Try.func28 (by kernel_rfl) rfl #[.int .i64 t222, .int .i64 x15_54] (by rfl) rfl rfl (by (try simp only [List.map_toArray, List.map_cons, List.map_nil]); first | done | rfl | (simp only [List.length_drop, List.length_take]; rfl)) ?_
                    with_reducible refine (ephemerisref2_Product.calls kj54 t222 x15_54 t245 t246 t247 t248 t249 t250 t251 _ A65.out).mono ?_
                    rintro e w76 ⟨rfl, hb⟩
                    refine ⟨_, rfl, ?_⟩
                    have n0_ := Aside0.mk (Kd.R_below (by (with_reducible repeat (first | apply Kd.R_alloc | apply Kd.R_drewN | apply Kd.R_drew)); exact HO_49.out) hb)
                    have n1_ := Aside0.mk (Kd.R_below (by (with_reducible repeat (first | apply Kd.R_alloc | apply Kd.R_drewN | apply Kd.R_drew)); exact HO_59.out) hb)
                    have n2_ := kb_ BK219 hb
                    have n3_ := kb_ BK220 hb
                    have n4_ := kb_ BK225 hb
                    have n5_ := kb_ BK244 hb
                    have n6_ := bs_ HB hb
                    clear HO_49
                    clear HO_59
                    clear BK219
                    clear BK220
                    clear BK225
                    clear BK244
                    clear HB
                    have HO_49 := n0_
                    have HO_59 := n1_
                    have BK219 := n2_
                    have BK220 := n3_
                    have BK225 := n4_
                    have BK244 := n5_
                    have HB := n6_
                    clear n0_ n1_ n2_ n3_ n4_ n5_ n6_
                    (try clear hb)
                    (try clear hb2)
                    (try clear hk)
                    (try clear hi)
                    refine hK.out _ _ ⟨(blk_cell BK225.out 0).trans rfl, (blk_cell BK225.out 1).trans rfl, (blk_cell BK244.out 0).trans rfl, (blk_cell BK244.out 1).trans rfl, (blk_cell BK244.out 2).trans rfl, (blk_cell BK244.out 3).trans rfl, (blk_cell BK244.out 4).trans rfl, (blk_cell BK244.out 5).trans rfl, (blk_cell BK244.out 6).trans rfl⟩ (fun hHeld => ?_)
                    clear hK K
                    refine norm_ (a' := ?_) ?_ ?_
                    rotate_left
                    ·show Act.put _ (some 78) _ = _
                     simp only [Act.put, List.setIfInBounds_toArray, List.set_cons_zero, List.set_cons_succ, i64_w, i32_w]
                     rfl
                    refine one_ (i := 5) (N := some 80) #[true, true, true, true, true, true, false, false, false, false, false, false, false, false, false, false] rfl rfl (one_of HT_.out (by kernel_rfl)) (by decide) (fun K hK => ?_)
                    refine goes_ Try.func30 (by kernel_rfl) rfl #[.agg #[.bool t245, .int .i64 t246, .int .i64 t247, .int .i64 t248, .int .i64 t249, .int .i64 t250, .int .i64 t251], .agg #[.bool t237, .int .i64 t238, .int .i64 t239, .int .i64 t240, .int .i64 t241, .int .i64 t242, .int .i64 t243]] (by rfl) rfl rfl (by (try simp only [List.map_toArray, List.map_cons, List.map_nil]); first | done | rfl | (simp only [List.length_drop, List.length_take]; rfl)) ?_
                    with_reducible refine (ephemerisref2_Compare.calls kj54 t245 t246 t247 t248 t249 t250 t251 t237 t238 t239 t240 t241 t242 t243 t252 _ A66.out).mono ?_
                    rintro e w77 ⟨rfl, hb⟩
                    refine ⟨_, rfl, ?_⟩
                    have n0_ := Aside0.mk (Kd.R_below (by (with_reducible repeat (first | apply Kd.R_alloc | apply Kd.R_drewN | apply Kd.R_drew)); exact HO_49.out) hb)
                    have n1_ := Aside0.mk (Kd.R_below (by (with_reducible repeat (first | apply Kd.R_alloc | apply Kd.R_drewN | apply Kd.R_drew)); exact HO_59.out) hb)
                    have n2_ := kb_ BK219 hb
                    have n3_ := kb_ BK220 hb
                    have n4_ := kb_ BK225 hb
                    have n5_ := kb_ BK244 hb
                    have n6_ := bs_ HB hb
                    clear HO_49
                    clear HO_59
                    clear BK219
                    clear BK220
                    clear BK225
                    clear BK244
                    clear HB
                    have HO_49 := n0_
                    have HO_59 := n1_
                    have BK219 := n2_
                    have BK220 := n3_
                    have BK225 := n4_
                    have BK244 := n5_
                    have HB := n6_
                    clear n0_ n1_ n2_ n3_ n4_ n5_ n6_
                    (try clear hb)
                    (try clear hb2)
                    (try clear hk)
                    (try clear hi)
                    refine hK.out _ _ ⟨(blk_cell BK225.out 0).trans rfl, (blk_cell BK225.out 1).trans rfl, (blk_cell BK244.out 0).trans rfl, (blk_cell BK244.out 1).trans rfl, (blk_cell BK244.out 2).trans rfl, (blk_cell BK244.out 3).trans rfl, (blk_cell BK244.out 4).trans rfl, (blk_cell BK244.out 5).trans rfl, (blk_cell BK244.out 6).trans rfl⟩ (fun hHeld => ?_)
                    clear hK K
                    refine norm_ (a' := ?_) ?_ ?_
                    rotate_left
                    ·show Act.put _ (some 80) _ = _
                     simp only [Act.put, List.setIfInBounds_toArray, List.set_cons_zero, List.set_cons_succ, i64_w, i32_w]
                     rfl
                    refine pure_ (i := 6) (N := some 81) (v := ?_) (a' := ?_) #[true, true, true, true, true, true, true, false, false, false, false, false, false, false, false, false] rfl rfl (any_of HT_.out (by kernel_rfl)) (fun _ _ _ h => h) (Or.inl ⟨by rfl, ?_⟩) ?_ ?_
                    rotate_left
                    ·intro w'
                     go_simp
                     with_reducible rfl
                    rotate_left
                    ·simp only [Act.put, List.setIfInBounds_toArray, List.set_cons_zero, List.set_cons_succ, i64_w, i32_w]
                     rfl
                    refine pure_ (i := 7) (N := some 82) (v := ?_) (a' := ?_) #[true, true, true, true, true, true, true, true, false, false, false, false, false, false, false, false] rfl rfl (any_of HT_.out (by kernel_rfl)) (fun _ _ _ h => h) (Or.inl ⟨by rfl, ?_⟩) ?_ ?_
                    rotate_left
                    ·intro w'
                     go_simp
                     with_reducible rfl
                    rotate_left
                    ·simp only [Act.put, List.setIfInBounds_toArray, List.set_cons_zero, List.set_cons_succ, i64_w, i32_w]
                     rfl
                    refine pure_ (i := 8) (N := some 83) (v := ?_) (a' := ?_) #[true, true, true, true, true, true, true, true, true, false, false, false, false, false, false, false] rfl rfl (any_of HT_.out (by kernel_rfl)) (fun _ _ _ h => h) (Or.inl ⟨by rfl, ?_⟩) ?_ ?_
                    rotate_left
                    ·intro w'
                     go_simp
                     with_reducible rfl
                    rotate_left
                    ·simp only [Act.put, List.setIfInBounds_toArray, List.set_cons_zero, List.set_cons_succ, i64_w, i32_w]
                     rfl
                    refine pure_ (i := 10) (N := some 85) (v := ?_) (a' := ?_) #[true, true, true, true, true, true, true, true, true, false, true, false, false, false, false, false] rfl rfl (any_of HT_.out (by kernel_rfl)) (fun _ _ _ h => h) (Or.inl ⟨by rfl, ?_⟩) ?_ ?_
                    rotate_left
                    ·intro w'
                     go_simp
                     with_reducible rfl
                    rotate_left
                    ·simp only [Act.put, List.setIfInBounds_toArray, List.set_cons_zero, List.set_cons_succ, i64_w, i32_w]
                     rfl
                    refine take_ (i := 9) (N := some 84) (v := ?_) (a' := ?_) #[true, true, true, true, true, true, true, true, true, true, true, false, false, false, false, false] rfl rfl (take_ofW HT_.out HW_.out (by kernel_rfl)) (fun _ _ _ h => h) (Or.inl ⟨by rfl, ?_⟩) hHeld ?_ ?_
                    rotate_left
                    ·rintro w' ⟨s0, s1, s2, s3, s4, s5, s6, s7, s8⟩
                     go_simp
                     with_reducible rfl
                    rotate_left
                    ·simp only [Act.put, List.setIfInBounds_toArray, List.set_cons_zero, List.set_cons_succ, i64_w, i32_w]
                     rfl
                    refine take_ (i := 12) (N := some 87) (v := ?_) (a' := ?_) #[true, true, true, true, true, true, true, true, true, true, true, false, true, false, false, false] rfl rfl (take_ofW HT_.out HW_.out (by kernel_rfl)) (fun _ _ _ h => h) (Or.inl ⟨by rfl, ?_⟩) hHeld ?_ ?_
                    rotate_left
                    ·rintro w' ⟨s0, s1, s2, s3, s4, s5, s6, s7, s8⟩
                     go_simp
                     with_reducible rfl
                    rotate_left
                    ·simp only [Act.put, List.setIfInBounds_toArray, List.set_cons_zero, List.set_cons_succ, i64_w, i32_w]
                     rfl
                    refine one_ (i := 11) (N := some 86) #[true, true, true, true, true, true, true, true, true, true, true, true, true, false, false, false] rfl rfl (one_of HT_.out (by kernel_rfl)) (by decide) (fun K hK => ?_)
                    refine goes_ Try.func28 (by kernel_rfl) rfl #[.int .i64 t223, .int .i64 x15_54] (by rfl) rfl rfl (by (try simp only [List.map_toArray, List.map_cons, List.map_nil]); first | done | rfl | (simp only [List.length_drop, List.length_take]; rfl)) ?_
                    with_reducible refine (ephemerisref2_Product.calls kj54 t223 x15_54 t253 t254 t255 t256 t257 t258 t259 _ A72.out).mono ?_
                    rintro e w78 ⟨rfl, hb⟩
                    refine ⟨_, rfl, ?_⟩
                    have n0_ := Aside0.mk (Kd.R_below (by (with_reducible repeat (first | apply Kd.R_alloc | apply Kd.R_drewN | apply Kd.R_drew)); exact HO_49.out) hb)
                    have n1_ := Aside0.mk (Kd.R_below (by (with_reducible repeat (first | apply Kd.R_alloc | apply Kd.R_drewN | apply Kd.R_drew)); exact HO_59.out) hb)
                    have n2_ := kb_ BK219 hb
                    have n3_ := kb_ BK220 hb
                    have n4_ := kb_ BK225 hb
                    have n5_ := kb_ BK244 hb
                    have n6_ := bs_ HB hb
                    clear HO_49
                    clear HO_59
                    clear BK219
                    clear BK220
                    clear BK225
                    clear BK244
                    clear HB
                    have HO_49 := n0_
                    have HO_59 := n1_
                    have BK219 := n2_
                    have BK220 := n3_
                    have BK225 := n4_
                    have BK244 := n5_
                    have HB := n6_
                    clear n0_ n1_ n2_ n3_ n4_ n5_ n6_
                    (try clear hb)
                    (try clear hb2)
                    (try clear hk)
                    (try clear hi)
                    refine hK.out _ _ ⟨(blk_cell BK225.out 0).trans rfl, (blk_cell BK225.out 1).trans rfl, (blk_cell BK244.out 0).trans rfl, (blk_cell BK244.out 1).trans rfl, (blk_cell BK244.out 2).trans rfl, (blk_cell BK244.out 3).trans rfl, (blk_cell BK244.out 4).trans rfl, (blk_cell BK244.out 5).trans rfl, (blk_cell BK244.out 6).trans rfl⟩ (fun hHeld => ?_)
                    clear hK K
                    refine norm_ (a' := ?_) ?_ ?_
                    rotate_left
                    ·show Act.put _ (some 86) _ = _
                     simp only [Act.put, List.setIfInBounds_toArray, List.set_cons_zero, List.set_cons_succ, i64_w, i32_w]
                     rfl
                    refine one_ (i := 13) (N := some 88) #[true, true, true, true, true, true, true, true, true, true, true, true, true, true, false, false] rfl rfl (one_of HT_.out (by kernel_rfl)) (by decide) (fun K hK => ?_)
                    refine goes_ Try.func30 (by kernel_rfl) rfl #[.agg #[.bool t253, .int .i64 t254, .int .i64 t255, .int .i64 t256, .int .i64 t257, .int .i64 t258, .int .i64 t259], .agg #[.bool t237, .int .i64 t238, .int .i64 t239, .int .i64 t240, .int .i64 t241, .int .i64 t242, .int .i64 t243]] (by rfl) rfl rfl (by (try simp only [List.map_toArray, List.map_cons, List.map_nil]); first | done | rfl | (simp only [List.length_drop, List.length_take]; rfl)) ?_
                    with_reducible refine (ephemerisref2_Compare.calls kj54 t253 t254 t255 t256 t257 t258 t259 t237 t238 t239 t240 t241 t242 t243 t260 _ A73.out).mono ?_
                    rintro e w79 ⟨rfl, hb⟩
                    refine ⟨_, rfl, ?_⟩
                    have n0_ := Aside0.mk (Kd.R_below (by (with_reducible repeat (first | apply Kd.R_alloc | apply Kd.R_drewN | apply Kd.R_drew)); exact HO_49.out) hb)
                    have n1_ := Aside0.mk (Kd.R_below (by (with_reducible repeat (first | apply Kd.R_alloc | apply Kd.R_drewN | apply Kd.R_drew)); exact HO_59.out) hb)
                    have n2_ := kb_ BK219 hb
                    have n3_ := kb_ BK220 hb
                    have n4_ := kb_ BK225 hb
                    have n5_ := kb_ BK244 hb
                    have n6_ := bs_ HB hb
                    clear HO_49
                    clear HO_59
                    clear BK219
                    clear BK220
                    clear BK225
                    clear BK244
                    clear HB
                    have HO_49 := n0_
                    have HO_59 := n1_
                    have BK219 := n2_
                    have BK220 := n3_
                    have BK225 := n4_
                    have BK244 := n5_
                    have HB := n6_
                    clear n0_ n1_ n2_ n3_ n4_ n5_ n6_
                    (try clear hb)
                    (try clear hb2)
                    (try clear hk)
                    (try clear hi)
                    refine hK.out _ _ ⟨(blk_cell BK225.out 0).trans rfl, (blk_cell BK225.out 1).trans rfl, (blk_cell BK244.out 0).trans rfl, (blk_cell BK244.out 1).trans rfl, (blk_cell BK244.out 2).trans rfl, (blk_cell BK244.out 3).trans rfl, (blk_cell BK244.out 4).trans rfl, (blk_cell BK244.out 5).trans rfl, (blk_cell BK244.out 6).trans rfl⟩ (fun hHeld => ?_)
                    clear hK K
                    refine norm_ (a' := ?_) ?_ ?_
                    rotate_left
                    ·show Act.put _ (some 88) _ = _
                     simp only [Act.put, List.setIfInBounds_toArray, List.set_cons_zero, List.set_cons_succ, i64_w, i32_w]
                     rfl
                    refine pure_ (i := 14) (N := some 89) (v := ?_) (a' := ?_) #[true, true, true, true, true, true, true, true, true, true, true, true, true, true, true, false] rfl rfl (any_of HT_.out (by kernel_rfl)) (fun _ _ _ h => h) (Or.inl ⟨by rfl, ?_⟩) ?_ ?_
                    rotate_left
                    ·intro w'
                     go_simp
                     with_reducible rfl
                    rotate_left
                    ·simp only [Act.put, List.setIfInBounds_toArray, List.set_cons_zero, List.set_cons_succ, i64_w, i32_w]
                     rfl
                    refine pure_ (i := 15) (N := some 90) (v := ?_) (a' := ?_) #[true, true, true, true, true, true, true, true, true, true, true, true, true, true, true, true] rfl rfl (any_of HT_.out (by kernel_rfl)) (fun _ _ _ h => h) (Or.inl ⟨by rfl, ?_⟩) ?_ ?_
                    rotate_left
                    ·intro w'
                     go_simp
                     with_reducible rfl
                    rotate_left
                    ·simp only [Act.put, List.setIfInBounds_toArray, List.set_cons_zero, List.set_cons_succ, i64_w, i32_w]
                     rfl
                    refine done_ (done_of HT_.out (by kernel_rfl)) ?_
                    try go_wp2
                    go_meet
                    case rel => exact ⟨_, (decide (t260 < 0)), (by first | rfl | (simp; done) | (simp [*]; done)), H', ⟨by have := HJ22.out; have := HK2.out; have := HK3.out; have := HJ54.out; first | omega | exact Nat.le_refl _⟩, ⟨by (with_reducible repeat (first | apply Kd.R_alloc | apply Kd.R_drewN | apply Kd.R_drew)); exact HO_49.out⟩, ⟨by (with_reducible repeat (first | apply Kd.R_alloc | apply Kd.R_drewN | apply Kd.R_drew)); exact HO_59.out⟩, ⟨kk_ BK219⟩, ⟨kk_ BK220⟩, ⟨kk_ BK225⟩, ⟨kk_ BK244⟩, (be_ HB)⟩
                  case rest =>
                   clear HC58
                   try clear c2
                   try clear p2
                   try clear q2
                   try clear hx2
                   try clear c3
                   try clear c6
                   try clear p23
                   try clear q23
                   try clear hx23
                   try clear c28
                   try clear c30
                   try clear c31
                   try clear c61
                   try clear c62
                   try clear c63
                   try clear c67
                   try clear c67b0
                   try clear hcz39_1
                   try clear hcz48_0
                   try clear hcz48_1
                   try clear hcz64_0
                   try clear hcz64_1
                   try clear hcz64_2
                   try clear hcz64_3
                   try clear hcz64_4
                   try clear hcz64_5
                   try clear hcz64_6
                   try clear hfz12_0
                   try clear hfz12_1
                   try clear hfz13_0
                   try clear hfz13_1
                   try clear hfz18_0
                   try clear hfz18_1
                   try clear hfz19_0
                   try clear hfz19_1
                   try clear hfz20_0
                   try clear hfz20_1
                   try clear hfz27_0
                   try clear hfz27_1
                   try clear hfz30_0
                   try clear hfz30_1
                   try clear hfz35_0
                   try clear hfz35_1
                   try clear hfz39_0
                   try clear hfz39_1
                   try clear hfz48_0
                   try clear hfz48_1
                   try clear hfz64_0
                   try clear hfz64_1
                   try clear hfz64_2
                   try clear hfz64_3
                   try clear hfz64_4
                   try clear hfz64_5
                   try clear hfz64_6
                   try clear hx232_0
                   try clear hx236_0
                   try clear p2
                   try clear p23
                   try clear p232
                   try clear p236
                   try clear q2
                   try clear q23
                   try clear q232
                   try clear q236
                   obtain ⟨kq, x90_57, rfl, HA, HJ57, HO_49, HO_59, BK219, BK220, BK225, BK244, HB⟩ := hcut
                   cases kq with
                   | zero => exact absurd HA.out (by simp [ephemerislaw2_IntervalDivs.j4])
                   | succ kj57 =>
                    have H := HA.out
                    clear HA
                    simp only [ephemerislaw2_IntervalDivs.j4] at H
                    by_cases c80 : x90_57 = true
                    ·subst c80
                     have H1 : (some false) = some r := by rw [if_pos rfl] at H; exact H
                     clear H
                     have H := H1
                     clear H1
                     obtain rfl := Option.some.inj H
                     exact absurd hT (by decide)
                    ·replace c80 := Bool.eq_false_iff.mpr c80
                     subst c80
                     have H1 : (if x8_3 = true then (if x9_3 = true then (ephemerislaw2_IntervalDivs.l1 kj57 t224 true true (rd y229 x51_2) y229 (y229.length : Int) x51_2 y233 (y233.length : Int) (wrap64 (x61_3 + 1)) a1_0 a1_1 t222 t223) else ((ephemerisref2_Product.f kj57 (wrap64 (t223 - 1)) x15_54).bind fun bt261 => ((ephemerisref2_Compare.f kj57 bt261.1 bt261.2.1 bt261.2.2.1 bt261.2.2.2.1 bt261.2.2.2.2.1 bt261.2.2.2.2.2.1 bt261.2.2.2.2.2.2 t237 t238 t239 t240 t241 t242 t243).bind fun t268 => (ephemerislaw2_IntervalDivs.l1 kj57 t224 true (decide (t268 < 0)) (rd y229 x51_2) y229 (y229.length : Int) x51_2 y233 (y233.length : Int) (wrap64 (x61_3 + 1)) a1_0 a1_1 t222 t223)))) else ((ephemerisref2_Product.f kj57 (wrap64 (t222 + 1)) x15_54).bind fun bt269 => ((ephemerisref2_Compare.f kj57 bt269.1 bt269.2.1 bt269.2.2.1 bt269.2.2.2.1 bt269.2.2.2.2.1 bt269.2.2.2.2.2.1 bt269.2.2.2.2.2.2 t237 t238 t239 t240 t241 t242 t243).bind fun t276 => (if x9_3 = true then (ephemerislaw2_IntervalDivs.l1 kj57 t224 (decide (t276 > 0)) true (rd y229 x51_2) y229 (y229.length : Int) x51_2 y233 (y233.length : Int) (wrap64 (x61_3 + 1)) a1_0 a1_1 t222 t223) else ((ephemerisref2_Product.f kj57 (wrap64 (t223 - 1)) x15_54).bind fun bt277 => ((ephemerisref2_Compare.f kj57 bt277.1 bt277.2.1 bt277.2.2.1 bt277.2.2.2.1 bt277.2.2.2.2.1 bt277.2.2.2.2.2.1 bt277.2.2.2.2.2.2 t237 t238 t239 t240 t241 t242 t243).bind fun t284 => (ephemerislaw2_IntervalDivs.l1 kj57 t224 (decide (t276 > 0)) (decide (t284 < 0)) (rd y229 x51_2) y229 (y229.length : Int) x51_2 y233 (y233.length : Int) (wrap64 (x61_3 + 1)) a1_0 a1_1 t222 t223))))))) = some r := by rw [if_neg (show ¬ (false = true) by decide)] at H; exact H
                     clear H
                     have H := H1
                     clear H1
                     by_cases c81 : x8_3 = true
                     ·subst c81
                      have H1 : (if x9_3 = true then (ephemerislaw2_IntervalDivs.l1 kj57 t224 true true (rd y229 x51_2) y229 (y229.length : Int) x51_2 y233 (y233.length : Int) (wrap64 (x61_3 + 1)) a1_0 a1_1 t222 t223) else ((ephemerisref2_Product.f kj57 (wrap64 (t223 - 1)) x15_54).bind fun bt261 => ((ephemerisref2_Compare.f kj57 bt261.1 bt261.2.1 bt261.2.2.1 bt261.2.2.2.1 bt261.2.2.2.2.1 bt261.2.2.2.2.2.1 bt261.2.2.2.2.2.2 t237 t238 t239 t240 t241 t242 t243).bind fun t268 => (ephemerislaw2_IntervalDivs.l1 kj57 t224 true (decide (t268 < 0)) (rd y229 x51_2) y229 (y229.length : Int) x51_2 y233 (y233.length : Int) (wrap64 (x61_3 + 1)) a1_0 a1_1 t222 t223)))) = some r := by rw [if_pos rfl] at H; exact H
                      clear H
                      have H := H1
                      clear H1
                      by_cases c82 : x9_3 = true
                      ·subst c82
                       have H1 : (ephemerislaw2_IntervalDivs.l1 kj57 t224 true true (rd y229 x51_2) y229 (y229.length : Int) x51_2 y233 (y233.length : Int) (wrap64 (x61_3 + 1)) a1_0 a1_1 t222 t223) = some r := by rw [if_pos rfl] at H; exact H
                       clear H
                       have H := H1
                       clear H1
                       have H' := Aside0.mk H
                       clear H
                       try go_wp2
                       replace HO_49 := Aside0.mk (Kd.R_drew HO_49.out)
                       replace HO_59 := Aside0.mk (Kd.R_drew HO_59.out)
                       replace BK219 := Aside0.mk (blk_drew BK219.out)
                       replace BK220 := Aside0.mk (blk_drew BK220.out)
                       replace BK225 := Aside0.mk (blk_drew BK225.out)
                       replace BK244 := Aside0.mk (blk_drew BK244.out)
                       replace HB := Aside0.mk (below_drew1 HB.out)
                       refine start_ (n := 12) (S := fun w' => True) (ds := []) #[false, false, false, false, false, false, false, false, false, false, false, false] (by kernel_rfl) rfl rfl trivial (fun hHeld => ?_); refine with_tabW ephemerislaw2_IntervalDivs.tab22 ephemerislaw2_IntervalDivs.bits22 (fun HT_ HW_ => ?_)
                       generalize wc.drew = w83 at HO_49 HO_59 BK219 BK220 BK225 BK244 HB hHeld ⊢
                       refine pure_ (i := 0) (N := some 91) (v := ?_) (a' := ?_) #[true, false, false, false, false, false, false, false, false, false, false, false] rfl rfl (any_of HT_.out (by kernel_rfl)) (fun _ _ _ h => h) (Or.inl ⟨by rfl, ?_⟩) ?_ ?_
                       rotate_left
                       ·intro w'
                        go_simp
                        with_reducible rfl
                       rotate_left
                       ·simp only [Act.put, List.setIfInBounds_toArray, List.set_cons_zero, List.set_cons_succ, i64_w, i32_w]
                        rfl
                       refine pure_ (i := 1) (N := some 92) (v := ?_) (a' := ?_) #[true, true, false, false, false, false, false, false, false, false, false, false] rfl rfl (any_of HT_.out (by kernel_rfl)) (fun _ _ _ h => h) (Or.inl ⟨by rfl, ?_⟩) ?_ ?_
                       rotate_left
                       ·intro w'
                        go_simp
                        with_reducible rfl
                       rotate_left
                       ·simp only [Act.put, List.setIfInBounds_toArray, List.set_cons_zero, List.set_cons_succ, i64_w, i32_w]
                        rfl
                       refine pure_ (i := 2) (N := some 93) (v := undef) (a' := ?_) #[true, true, true, false, false, false, false, false, false, false, false, false] rfl rfl (any_of HT_.out (by kernel_rfl)) (fun _ _ _ h => h) (Or.inr ⟨by rfl, rfl⟩) ?_ ?_
                       rotate_left
                       ·simp only [Act.put, List.setIfInBounds_toArray, List.set_cons_zero, List.set_cons_succ, i64_w, i32_w]
                        rfl
                       refine pure_ (i := 3) (N := some 94) (v := undef) (a' := ?_) #[true, true, true, true, false, false, false, false, false, false, false, false] rfl rfl (any_of HT_.out (by kernel_rfl)) (fun _ _ _ h => h) (Or.inr ⟨by rfl, rfl⟩) ?_ ?_
                       rotate_left
                       ·simp only [Act.put, List.setIfInBounds_toArray, List.set_cons_zero, List.set_cons_succ, i64_w, i32_w]
                        rfl
                       refine pure_ (i := 4) (N := some 95) (v := undef) (a' := ?_) #[true, true, true, true, true, false, false, false, false, false, false, false] rfl rfl (any_of HT_.out (by kernel_rfl)) (fun _ _ _ h => h) (Or.inr ⟨by rfl, rfl⟩) ?_ ?_
                       rotate_left
                       ·simp only [Act.put, List.setIfInBounds_toArray, List.set_cons_zero, List.set_cons_succ, i64_w, i32_w]
                        rfl
                       refine pure_ (i := 5) (N := some 96) (v := undef) (a' := ?_) #[true, true, true, true, true, true, false, false, false, false, false, false] rfl rfl (any_of HT_.out (by kernel_rfl)) (fun _ _ _ h => h) (Or.inr ⟨by rfl, rfl⟩) ?_ ?_
                       rotate_left
                       ·simp only [Act.put, List.setIfInBounds_toArray, List.set_cons_zero, List.set_cons_succ, i64_w, i32_w]
                        rfl
                       refine pure_ (i := 6) (N := some 97) (v := undef) (a' := ?_) #[true, true, true, true, true, true, true, false, false, false, false, false] rfl rfl (any_of HT_.out (by kernel_rfl)) (fun _ _ _ h => h) (Or.inr ⟨by rfl, rfl⟩) ?_ ?_
                       rotate_left
                       ·simp only [Act.put, List.setIfInBounds_toArray, List.set_cons_zero, List.set_cons_succ, i64_w, i32_w]
                        rfl
                       refine pure_ (i := 7) (N := some 98) (v := undef) (a' := ?_) #[true, true, true, true, true, true, true, true, false, false, false, false] rfl rfl (any_of HT_.out (by kernel_rfl)) (fun _ _ _ h => h) (Or.inr ⟨by rfl, rfl⟩) ?_ ?_
                       rotate_left
                       ·simp only [Act.put, List.setIfInBounds_toArray, List.set_cons_zero, List.set_cons_succ, i64_w, i32_w]
                        rfl
                       refine pure_ (i := 8) (N := some 99) (v := undef) (a' := ?_) #[true, true, true, true, true, true, true, true, true, false, false, false] rfl rfl (any_of HT_.out (by kernel_rfl)) (fun _ _ _ h => h) (Or.inr ⟨by rfl, rfl⟩) ?_ ?_
                       rotate_left
                       ·simp only [Act.put, List.setIfInBounds_toArray, List.set_cons_zero, List.set_cons_succ, i64_w, i32_w]
                        rfl
                       refine pure_ (i := 9) (N := some 100) (v := undef) (a' := ?_) #[true, true, true, true, true, true, true, true, true, true, false, false] rfl rfl (any_of HT_.out (by kernel_rfl)) (fun _ _ _ h => h) (Or.inr ⟨by rfl, rfl⟩) ?_ ?_
                       rotate_left
                       ·simp only [Act.put, List.setIfInBounds_toArray, List.set_cons_zero, List.set_cons_succ, i64_w, i32_w]
                        rfl
                       refine pure_ (i := 10) (N := some 101) (v := ?_) (a' := ?_) #[true, true, true, true, true, true, true, true, true, true, true, false] rfl rfl (any_of HT_.out (by kernel_rfl)) (fun _ _ _ h => h) (Or.inl ⟨by rfl, ?_⟩) ?_ ?_
                       rotate_left
                       ·intro w'
                        go_simp
                        with_reducible rfl
                       rotate_left
                       ·simp only [Act.put, List.setIfInBounds_toArray, List.set_cons_zero, List.set_cons_succ, i64_w, i32_w]
                        rfl
                       refine pure_ (i := 11) (N := some 8) (v := ?_) (a' := ?_) #[true, true, true, true, true, true, true, true, true, true, true, true] rfl rfl (any_of HT_.out (by kernel_rfl)) (fun _ _ _ h => h) (Or.inl ⟨by rfl, ?_⟩) ?_ ?_
                       rotate_left
                       ·intro w'
                        go_simp
                        with_reducible rfl
                       rotate_left
                       ·simp only [Act.put, List.setIfInBounds_toArray, List.set_cons_zero, List.set_cons_succ, i64_w, i32_w]
                        rfl
                       refine done_ (done_of HT_.out (by kernel_rfl)) ?_
                       try go_wp2
                       replace HO_49 := Aside0.mk (Kd.R_drew HO_49.out)
                       replace HO_59 := Aside0.mk (Kd.R_drew HO_59.out)
                       replace BK219 := Aside0.mk (blk_drew BK219.out)
                       replace BK220 := Aside0.mk (blk_drew BK220.out)
                       replace BK225 := Aside0.mk (blk_drew BK225.out)
                       replace BK244 := Aside0.mk (blk_drew BK244.out)
                       replace HB := Aside0.mk (below_drew1 HB.out)
                       refine start_ (n := 12) (S := fun w' => True) (ds := []) #[false, false, false, false, false, false, false, false, false, false, false, false] (by kernel_rfl) rfl rfl trivial (fun hHeld => ?_); refine with_tabW ephemerislaw2_IntervalDivs.tab23 ephemerislaw2_IntervalDivs.bits23 (fun HT_ HW_ => ?_)
                       generalize w83.drew = w84 at HO_49 HO_59 BK219 BK220 BK225 BK244 HB hHeld ⊢
                       refine pure_ (i := 0) (N := some 102) (v := ?_) (a' := ?_) #[true, false, false, false, false, false, false, false, false, false, false, false] rfl rfl (any_of HT_.out (by kernel_rfl)) (fun _ _ _ h => h) (Or.inl ⟨by rfl, ?_⟩) ?_ ?_
                       rotate_left
                       ·intro w'
                        go_simp
                        with_reducible rfl
                       rotate_left
                       ·simp only [Act.put, List.setIfInBounds_toArray, List.set_cons_zero, List.set_cons_succ, i64_w, i32_w]
                        rfl
                       refine pure_ (i := 1) (N := some 103) (v := ?_) (a' := ?_) #[true, true, false, false, false, false, false, false, false, false, false, false] rfl rfl (any_of HT_.out (by kernel_rfl)) (fun _ _ _ h => h) (Or.inl ⟨by rfl, ?_⟩) ?_ ?_
                       rotate_left
                       ·intro w'
                        go_simp
                        with_reducible rfl
                       rotate_left
                       ·simp only [Act.put, List.setIfInBounds_toArray, List.set_cons_zero, List.set_cons_succ, i64_w, i32_w]
                        rfl
                       refine pure_ (i := 2) (N := some 104) (v := undef) (a' := ?_) #[true, true, true, false, false, false, false, false, false, false, false, false] rfl rfl (any_of HT_.out (by kernel_rfl)) (fun _ _ _ h => h) (Or.inr ⟨by rfl, rfl⟩) ?_ ?_
                       rotate_left
                       ·simp only [Act.put, List.setIfInBounds_toArray, List.set_cons_zero, List.set_cons_succ, i64_w, i32_w]
                        rfl
                       refine pure_ (i := 3) (N := some 105) (v := undef) (a' := ?_) #[true, true, true, true, false, false, false, false, false, false, false, false] rfl rfl (any_of HT_.out (by kernel_rfl)) (fun _ _ _ h => h) (Or.inr ⟨by rfl, rfl⟩) ?_ ?_
                       rotate_left
                       ·simp only [Act.put, List.setIfInBounds_toArray, List.set_cons_zero, List.set_cons_succ, i64_w, i32_w]
                        rfl
                       refine pure_ (i := 4) (N := some 106) (v := undef) (a' := ?_) #[true, true, true, true, true, false, false, false, false, false, false, false] rfl rfl (any_of HT_.out (by kernel_rfl)) (fun _ _ _ h => h) (Or.inr ⟨by rfl, rfl⟩) ?_ ?_
                       rotate_left
                       ·simp only [Act.put, List.setIfInBounds_toArray, List.set_cons_zero, List.set_cons_succ, i64_w, i32_w]
                        rfl
                       refine pure_ (i := 5) (N := some 107) (v := undef) (a' := ?_) #[true, true, true, true, true, true, false, false, false, false, false, false] rfl rfl (any_of HT_.out (by kernel_rfl)) (fun _ _ _ h => h) (Or.inr ⟨by rfl, rfl⟩) ?_ ?_
                       rotate_left
                       ·simp only [Act.put, List.setIfInBounds_toArray, List.set_cons_zero, List.set_cons_succ, i64_w, i32_w]
                        rfl
                       refine pure_ (i := 6) (N := some 108) (v := undef) (a' := ?_) #[true, true, true, true, true, true, true, false, false, false, false, false] rfl rfl (any_of HT_.out (by kernel_rfl)) (fun _ _ _ h => h) (Or.inr ⟨by rfl, rfl⟩) ?_ ?_
                       rotate_left
                       ·simp only [Act.put, List.setIfInBounds_toArray, List.set_cons_zero, List.set_cons_succ, i64_w, i32_w]
                        rfl
                       refine pure_ (i := 7) (N := some 109) (v := undef) (a' := ?_) #[true, true, true, true, true, true, true, true, false, false, false, false] rfl rfl (any_of HT_.out (by kernel_rfl)) (fun _ _ _ h => h) (Or.inr ⟨by rfl, rfl⟩) ?_ ?_
                       rotate_left
                       ·simp only [Act.put, List.setIfInBounds_toArray, List.set_cons_zero, List.set_cons_succ, i64_w, i32_w]
                        rfl
                       refine pure_ (i := 8) (N := some 110) (v := undef) (a' := ?_) #[true, true, true, true, true, true, true, true, true, false, false, false] rfl rfl (any_of HT_.out (by kernel_rfl)) (fun _ _ _ h => h) (Or.inr ⟨by rfl, rfl⟩) ?_ ?_
                       rotate_left
                       ·simp only [Act.put, List.setIfInBounds_toArray, List.set_cons_zero, List.set_cons_succ, i64_w, i32_w]
                        rfl
                       refine pure_ (i := 9) (N := some 111) (v := undef) (a' := ?_) #[true, true, true, true, true, true, true, true, true, true, false, false] rfl rfl (any_of HT_.out (by kernel_rfl)) (fun _ _ _ h => h) (Or.inr ⟨by rfl, rfl⟩) ?_ ?_
                       rotate_left
                       ·simp only [Act.put, List.setIfInBounds_toArray, List.set_cons_zero, List.set_cons_succ, i64_w, i32_w]
                        rfl
                       refine pure_ (i := 10) (N := some 112) (v := ?_) (a' := ?_) #[true, true, true, true, true, true, true, true, true, true, true, false] rfl rfl (any_of HT_.out (by kernel_rfl)) (fun _ _ _ h => h) (Or.inl ⟨by rfl, ?_⟩) ?_ ?_
                       rotate_left
                       ·intro w'
                        go_simp
                        with_reducible rfl
                       rotate_left
                       ·simp only [Act.put, List.setIfInBounds_toArray, List.set_cons_zero, List.set_cons_succ, i64_w, i32_w]
                        rfl
                       refine pure_ (i := 11) (N := some 9) (v := ?_) (a' := ?_) #[true, true, true, true, true, true, true, true, true, true, true, true] rfl rfl (any_of HT_.out (by kernel_rfl)) (fun _ _ _ h => h) (Or.inl ⟨by rfl, ?_⟩) ?_ ?_
                       rotate_left
                       ·intro w'
                        go_simp
                        with_reducible rfl
                       rotate_left
                       ·simp only [Act.put, List.setIfInBounds_toArray, List.set_cons_zero, List.set_cons_succ, i64_w, i32_w]
                        rfl
                       refine done_ (done_of HT_.out (by kernel_rfl)) ?_
                       try go_wp2
                       go_roundg kj57
                       case measure => have := HJ22.out; have := HK2.out; have := HK3.out; have := HJ54.out; have := HJ57.out; omega
                       case rel => exact ⟨(true), (true), (wrap64 (x61_3 + 1)), (by first | rfl | (simp; done) | (simp [*]; done)), (by first | rfl | (simp; done) | (simp [*]; done)), (by first | rfl | (simp; done) | (simp [*]; done)), H', ⟨by have := HJ22.out; have := HK2.out; have := HK3.out; have := HJ54.out; have := HJ57.out; omega⟩, ⟨by (with_reducible repeat (first | apply Kd.R_alloc | apply Kd.R_drewN | apply Kd.R_drew)); exact HO_49.out⟩, ⟨by (with_reducible repeat (first | apply Kd.R_alloc | apply Kd.R_drewN | apply Kd.R_drew)); exact HO_59.out⟩, ⟨kk_ BK219⟩, ⟨kk_ BK220⟩, ⟨kk_ BK225⟩, (be_ HB)⟩
                      ·replace c82 := Bool.eq_false_iff.mpr c82
                       subst c82
                       have H1 : ((ephemerisref2_Product.f kj57 (wrap64 (t223 - 1)) x15_54).bind fun bt261 => ((ephemerisref2_Compare.f kj57 bt261.1 bt261.2.1 bt261.2.2.1 bt261.2.2.2.1 bt261.2.2.2.2.1 bt261.2.2.2.2.2.1 bt261.2.2.2.2.2.2 t237 t238 t239 t240 t241 t242 t243).bind fun t268 => (ephemerislaw2_IntervalDivs.l1 kj57 t224 true (decide (t268 < 0)) (rd y229 x51_2) y229 (y229.length : Int) x51_2 y233 (y233.length : Int) (wrap64 (x61_3 + 1)) a1_0 a1_1 t222 t223))) = some r := by rw [if_neg (show ¬ (false = true) by decide)] at H; exact H
                       clear H
                       have H := H1
                       clear H1
                       replace H := Option.bind_eq_some_iff.mp H
                       obtain ⟨⟨t261, t262, t263, t264, t265, t266, t267⟩, A850, H⟩ := H
                       replace H : ((ephemerisref2_Compare.f kj57 t261 t262 t263 t264 t265 t266 t267 t237 t238 t239 t240 t241 t242 t243).bind fun t268 => (ephemerislaw2_IntervalDivs.l1 kj57 t224 true (decide (t268 < 0)) (rd y229 x51_2) y229 (y229.length : Int) x51_2 y233 (y233.length : Int) (wrap64 (x61_3 + 1)) a1_0 a1_1 t222 t223)) = some r := H
                       have A85 := Aside0.mk A850
                       clear A850
                       replace H := Option.bind_eq_some_iff.mp H
                       obtain ⟨t268, A860, H⟩ := H
                       replace H : (ephemerislaw2_IntervalDivs.l1 kj57 t224 true (decide (t268 < 0)) (rd y229 x51_2) y229 (y229.length : Int) x51_2 y233 (y233.length : Int) (wrap64 (x61_3 + 1)) a1_0 a1_1 t222 t223) = some r := H
                       have A86 := Aside0.mk A860
                       clear A860
                       have H' := Aside0.mk H
                       clear H
                       try go_wp2
                       replace HO_49 := Aside0.mk (Kd.R_drew HO_49.out)
                       replace HO_59 := Aside0.mk (Kd.R_drew HO_59.out)
                       replace BK219 := Aside0.mk (blk_drew BK219.out)
                       replace BK220 := Aside0.mk (blk_drew BK220.out)
                       replace BK225 := Aside0.mk (blk_drew BK225.out)
                       replace BK244 := Aside0.mk (blk_drew BK244.out)
                       replace HB := Aside0.mk (below_drew1 HB.out)
                       refine start_ (n := 12) (S := fun w' => True) (ds := []) #[false, false, false, false, false, false, false, false, false, false, false, false] (by kernel_rfl) rfl rfl trivial (fun hHeld => ?_); refine with_tabW ephemerislaw2_IntervalDivs.tab22 ephemerislaw2_IntervalDivs.bits22 (fun HT_ HW_ => ?_)
                       generalize wc.drew = w87 at HO_49 HO_59 BK219 BK220 BK225 BK244 HB hHeld ⊢
                       refine pure_ (i := 0) (N := some 91) (v := ?_) (a' := ?_) #[true, false, false, false, false, false, false, false, false, false, false, false] rfl rfl (any_of HT_.out (by kernel_rfl)) (fun _ _ _ h => h) (Or.inl ⟨by rfl, ?_⟩) ?_ ?_
                       rotate_left
                       ·intro w'
                        go_simp
                        with_reducible rfl
                       rotate_left
                       ·simp only [Act.put, List.setIfInBounds_toArray, List.set_cons_zero, List.set_cons_succ, i64_w, i32_w]
                        rfl
                       refine pure_ (i := 1) (N := some 92) (v := ?_) (a' := ?_) #[true, true, false, false, false, false, false, false, false, false, false, false] rfl rfl (any_of HT_.out (by kernel_rfl)) (fun _ _ _ h => h) (Or.inl ⟨by rfl, ?_⟩) ?_ ?_
                       rotate_left
                       ·intro w'
                        go_simp
                        with_reducible rfl
                       rotate_left
                       ·simp only [Act.put, List.setIfInBounds_toArray, List.set_cons_zero, List.set_cons_succ, i64_w, i32_w]
                        rfl
                       refine pure_ (i := 2) (N := some 93) (v := undef) (a' := ?_) #[true, true, true, false, false, false, false, false, false, false, false, false] rfl rfl (any_of HT_.out (by kernel_rfl)) (fun _ _ _ h => h) (Or.inr ⟨by rfl, rfl⟩) ?_ ?_
                       rotate_left
                       ·simp only [Act.put, List.setIfInBounds_toArray, List.set_cons_zero, List.set_cons_succ, i64_w, i32_w]
                        rfl
                       refine pure_ (i := 3) (N := some 94) (v := undef) (a' := ?_) #[true, true, true, true, false, false, false, false, false, false, false, false] rfl rfl (any_of HT_.out (by kernel_rfl)) (fun _ _ _ h => h) (Or.inr ⟨by rfl, rfl⟩) ?_ ?_
                       rotate_left
                       ·simp only [Act.put, List.setIfInBounds_toArray, List.set_cons_zero, List.set_cons_succ, i64_w, i32_w]
                        rfl
                       refine pure_ (i := 4) (N := some 95) (v := undef) (a' := ?_) #[true, true, true, true, true, false, false, false, false, false, false, false] rfl rfl (any_of HT_.out (by kernel_rfl)) (fun _ _ _ h => h) (Or.inr ⟨by rfl, rfl⟩) ?_ ?_
                       rotate_left
                       ·simp only [Act.put, List.setIfInBounds_toArray, List.set_cons_zero, List.set_cons_succ, i64_w, i32_w]
                        rfl
                       refine pure_ (i := 5) (N := some 96) (v := undef) (a' := ?_) #[true, true, true, true, true, true, false, false, false, false, false, false] rfl rfl (any_of HT_.out (by kernel_rfl)) (fun _ _ _ h => h) (Or.inr ⟨by rfl, rfl⟩) ?_ ?_
                       rotate_left
                       ·simp only [Act.put, List.setIfInBounds_toArray, List.set_cons_zero, List.set_cons_succ, i64_w, i32_w]
                        rfl
                       refine pure_ (i := 6) (N := some 97) (v := undef) (a' := ?_) #[true, true, true, true, true, true, true, false, false, false, false, false] rfl rfl (any_of HT_.out (by kernel_rfl)) (fun _ _ _ h => h) (Or.inr ⟨by rfl, rfl⟩) ?_ ?_
                       rotate_left
                       ·simp only [Act.put, List.setIfInBounds_toArray, List.set_cons_zero, List.set_cons_succ, i64_w, i32_w]
                        rfl
                       refine pure_ (i := 7) (N := some 98) (v := undef) (a' := ?_) #[true, true, true, true, true, true, true, true, false, false, false, false] rfl rfl (any_of HT_.out (by kernel_rfl)) (fun _ _ _ h => h) (Or.inr ⟨by rfl, rfl⟩) ?_ ?_
                       rotate_left
                       ·simp only [Act.put, List.setIfInBounds_toArray, List.set_cons_zero, List.set_cons_succ, i64_w, i32_w]
                        rfl
                       refine pure_ (i := 8) (N := some 99) (v := undef) (a' := ?_) #[true, true, true, true, true, true, true, true, true, false, false, false] rfl rfl (any_of HT_.out (by kernel_rfl)) (fun _ _ _ h => h) (Or.inr ⟨by rfl, rfl⟩) ?_ ?_
                       rotate_left
                       ·simp only [Act.put, List.setIfInBounds_toArray, List.set_cons_zero, List.set_cons_succ, i64_w, i32_w]
                        rfl
                       refine pure_ (i := 9) (N := some 100) (v := undef) (a' := ?_) #[true, true, true, true, true, true, true, true, true, true, false, false] rfl rfl (any_of HT_.out (by kernel_rfl)) (fun _ _ _ h => h) (Or.inr ⟨by rfl, rfl⟩) ?_ ?_
                       rotate_left
                       ·simp only [Act.put, List.setIfInBounds_toArray, List.set_cons_zero, List.set_cons_succ, i64_w, i32_w]
                        rfl
                       refine pure_ (i := 10) (N := some 101) (v := ?_) (a' := ?_) #[true, true, true, true, true, true, true, true, true, true, true, false] rfl rfl (any_of HT_.out (by kernel_rfl)) (fun _ _ _ h => h) (Or.inl ⟨by rfl, ?_⟩) ?_ ?_
                       rotate_left
                       ·intro w'
                        go_simp
                        with_reducible rfl
                       rotate_left
                       ·simp only [Act.put, List.setIfInBounds_toArray, List.set_cons_zero, List.set_cons_succ, i64_w, i32_w]
                        rfl
                       refine pure_ (i := 11) (N := some 8) (v := ?_) (a' := ?_) #[true, true, true, true, true, true, true, true, true, true, true, true] rfl rfl (any_of HT_.out (by kernel_rfl)) (fun _ _ _ h => h) (Or.inl ⟨by rfl, ?_⟩) ?_ ?_
                       rotate_left
                       ·intro w'
                        go_simp
                        with_reducible rfl
                       rotate_left
                       ·simp only [Act.put, List.setIfInBounds_toArray, List.set_cons_zero, List.set_cons_succ, i64_w, i32_w]
                        rfl
                       refine done_ (done_of HT_.out (by kernel_rfl)) ?_
                       try go_wp2
                       replace HO_49 := Aside0.mk (Kd.R_drew HO_49.out)
                       replace HO_59 := Aside0.mk (Kd.R_drew HO_59.out)
                       replace BK219 := Aside0.mk (blk_drew BK219.out)
                       replace BK220 := Aside0.mk (blk_drew BK220.out)
                       replace BK225 := Aside0.mk (blk_drew BK225.out)
                       replace BK244 := Aside0.mk (blk_drew BK244.out)
                       replace HB := Aside0.mk (below_drew1 HB.out)
                       refine start_ (n := 12) (S := fun w' => w'.cell? ⟨gb225, 0, none⟩ = some (.int .i64 t222) ∧ w'.cell? ⟨gb225, 1, none⟩ = some (.int .i64 t223) ∧ w'.cell? ⟨gb244, 0, none⟩ = some (.bool t237) ∧ w'.cell? ⟨gb244, 1, none⟩ = some (.int .i64 t238) ∧ w'.cell? ⟨gb244, 2, none⟩ = some (.int .i64 t239) ∧ w'.cell? ⟨gb244, 3, none⟩ = some (.int .i64 t240) ∧ w'.cell? ⟨gb244, 4, none⟩ = some (.int .i64 t241) ∧ w'.cell? ⟨gb244, 5, none⟩ = some (.int .i64 t242) ∧ w'.cell? ⟨gb244, 6, none⟩ = some (.int .i64 t243)) (ds := []) #[false, false, false, false, false, false, false, false, false, false, false, false] (by kernel_rfl) rfl rfl ⟨(blk_cell BK225.out 0).trans rfl, (blk_cell BK225.out 1).trans rfl, (blk_cell BK244.out 0).trans rfl, (blk_cell BK244.out 1).trans rfl, (blk_cell BK244.out 2).trans rfl, (blk_cell BK244.out 3).trans rfl, (blk_cell BK244.out 4).trans rfl, (blk_cell BK244.out 5).trans rfl, (blk_cell BK244.out 6).trans rfl⟩ (fun hHeld => ?_); refine with_tabW ephemerislaw2_IntervalDivs.tab23 ephemerislaw2_IntervalDivs.bits23 (fun HT_ HW_ => ?_)
                       generalize w87.drew = w88 at HO_49 HO_59 BK219 BK220 BK225 BK244 HB hHeld ⊢
                       refine pure_ (i := 0) (N := some 102) (v := ?_) (a' := ?_) #[true, false, false, false, false, false, false, false, false, false, false, false] rfl rfl (any_of HT_.out (by kernel_rfl)) (fun _ _ _ h => h) (Or.inl ⟨by rfl, ?_⟩) ?_ ?_
                       rotate_left
                       ·intro w'
                        go_simp
                        with_reducible rfl
                       rotate_left
                       ·simp only [Act.put, List.setIfInBounds_toArray, List.set_cons_zero, List.set_cons_succ, i64_w, i32_w]
                        rfl
                       refine pure_ (i := 1) (N := some 103) (v := ?_) (a' := ?_) #[true, true, false, false, false, false, false, false, false, false, false, false] rfl rfl (any_of HT_.out (by kernel_rfl)) (fun _ _ _ h => h) (Or.inl ⟨by rfl, ?_⟩) ?_ ?_
                       rotate_left
                       ·intro w'
                        go_simp
                        with_reducible rfl
                       rotate_left
                       ·simp only [Act.put, List.setIfInBounds_toArray, List.set_cons_zero, List.set_cons_succ, i64_w, i32_w]
                        rfl
                       refine pure_ (i := 2) (N := some 104) (v := ?_) (a' := ?_) #[true, true, true, false, false, false, false, false, false, false, false, false] rfl rfl (any_of HT_.out (by kernel_rfl)) (fun _ _ _ h => h) (Or.inl ⟨by rfl, ?_⟩) ?_ ?_
                       rotate_left
                       ·intro w'
                        go_simp
                        with_reducible rfl
                       rotate_left
                       ·simp only [Act.put, List.setIfInBounds_toArray, List.set_cons_zero, List.set_cons_succ, i64_w, i32_w]
                        rfl
                       refine pure_ (i := 5) (N := some 107) (v := ?_) (a' := ?_) #[true, true, true, false, false, true, false, false, false, false, false, false] rfl rfl (any_of HT_.out (by kernel_rfl)) (fun _ _ _ h => h) (Or.inl ⟨by rfl, ?_⟩) ?_ ?_
                       rotate_left
                       ·intro w'
                        go_simp
                        with_reducible rfl
                       rotate_left
                       ·simp only [Act.put, List.setIfInBounds_toArray, List.set_cons_zero, List.set_cons_succ, i64_w, i32_w]
                        rfl
                       refine take_ (i := 3) (N := some 105) (v := ?_) (a' := ?_) #[true, true, true, true, false, true, false, false, false, false, false, false] rfl rfl (take_ofW HT_.out HW_.out (by kernel_rfl)) (fun _ _ _ h => h) (Or.inl ⟨by rfl, ?_⟩) hHeld ?_ ?_
                       rotate_left
                       ·rintro w' ⟨s0, s1, s2, s3, s4, s5, s6, s7, s8⟩
                        go_simp
                        with_reducible rfl
                       rotate_left
                       ·simp only [Act.put, List.setIfInBounds_toArray, List.set_cons_zero, List.set_cons_succ, i64_w, i32_w]
                        rfl
                       refine pure_ (i := 4) (N := some 106) (v := ?_) (a' := ?_) #[true, true, true, true, true, true, false, false, false, false, false, false] rfl rfl (any_of HT_.out (by kernel_rfl)) (fun _ _ _ h => h) (Or.inl ⟨by rfl, ?_⟩) ?_ ?_
                       rotate_left
                       ·intro w'
                        go_simp
                        with_reducible rfl
                       rotate_left
                       ·simp only [Act.put, List.setIfInBounds_toArray, List.set_cons_zero, List.set_cons_succ, i64_w, i32_w]
                        rfl
                       refine take_ (i := 7) (N := some 109) (v := ?_) (a' := ?_) #[true, true, true, true, true, true, false, true, false, false, false, false] rfl rfl (take_ofW HT_.out HW_.out (by kernel_rfl)) (fun _ _ _ h => h) (Or.inl ⟨by rfl, ?_⟩) hHeld ?_ ?_
                       rotate_left
                       ·rintro w' ⟨s0, s1, s2, s3, s4, s5, s6, s7, s8⟩
                        go_simp
                        with_reducible rfl
                       rotate_left
                       ·simp only [Act.put, List.setIfInBounds_toArray, List.set_cons_zero, List.set_cons_succ, i64_w, i32_w]
                        rfl
                       refine one_ (i := 6) (N := some 108) #[true, true, true, true, true, true, true, true, false, false, false, false] rfl rfl (one_of HT_.out (by kernel_rfl)) (by decide) (fun K hK => ?_)
                       refine goes_ Try.func28 (by kernel_rfl) rfl #[.int .i64 (wrap64 (t223 - 1)), .int .i64 x15_54] (by rfl) rfl rfl (by (try simp only [List.map_toArray, List.map_cons, List.map_nil]); first | done | rfl | (simp only [List.length_drop, List.length_take]; rfl)) ?_
                       with_reducible refine (ephemerisref2_Product.calls kj57 (wrap64 (t223 - 1)) x15_54 t261 t262 t263 t264 t265 t266 t267 _ A85.out).mono ?_
                       rintro e w89 ⟨rfl, hb⟩
                       refine ⟨_, rfl, ?_⟩
                       have n0_ := Aside0.mk (Kd.R_below (by (with_reducible repeat (first | apply Kd.R_alloc | apply Kd.R_drewN | apply Kd.R_drew)); exact HO_49.out) hb)
                       have n1_ := Aside0.mk (Kd.R_below (by (with_reducible repeat (first | apply Kd.R_alloc | apply Kd.R_drewN | apply Kd.R_drew)); exact HO_59.out) hb)
                       have n2_ := kb_ BK219 hb
                       have n3_ := kb_ BK220 hb
                       have n4_ := kb_ BK225 hb
                       have n5_ := kb_ BK244 hb
                       have n6_ := bs_ HB hb
                       clear HO_49
                       clear HO_59
                       clear BK219
                       clear BK220
                       clear BK225
                       clear BK244
                       clear HB
                       have HO_49 := n0_
                       have HO_59 := n1_
                       have BK219 := n2_
                       have BK220 := n3_
                       have BK225 := n4_
                       have BK244 := n5_
                       have HB := n6_
                       clear n0_ n1_ n2_ n3_ n4_ n5_ n6_
                       (try clear hb)
                       (try clear hb2)
                       (try clear hk)
                       (try clear hi)
                       refine hK.out _ _ ⟨(blk_cell BK225.out 0).trans rfl, (blk_cell BK225.out 1).trans rfl, (blk_cell BK244.out 0).trans rfl, (blk_cell BK244.out 1).trans rfl, (blk_cell BK244.out 2).trans rfl, (blk_cell BK244.out 3).trans rfl, (blk_cell BK244.out 4).trans rfl, (blk_cell BK244.out 5).trans rfl, (blk_cell BK244.out 6).trans rfl⟩ (fun hHeld => ?_)
                       clear hK K
                       refine norm_ (a' := ?_) ?_ ?_
                       rotate_left
                       ·show Act.put _ (some 108) _ = _
                        simp only [Act.put, List.setIfInBounds_toArray, List.set_cons_zero, List.set_cons_succ, i64_w, i32_w]
                        rfl
                       refine one_ (i := 8) (N := some 110) #[true, true, true, true, true, true, true, true, true, false, false, false] rfl rfl (one_of HT_.out (by kernel_rfl)) (by decide) (fun K hK => ?_)
                       refine goes_ Try.func30 (by kernel_rfl) rfl #[.agg #[.bool t261, .int .i64 t262, .int .i64 t263, .int .i64 t264, .int .i64 t265, .int .i64 t266, .int .i64 t267], .agg #[.bool t237, .int .i64 t238, .int .i64 t239, .int .i64 t240, .int .i64 t241, .int .i64 t242, .int .i64 t243]] (by rfl) rfl rfl (by (try simp only [List.map_toArray, List.map_cons, List.map_nil]); first | done | rfl | (simp only [List.length_drop, List.length_take]; rfl)) ?_
                       with_reducible refine (ephemerisref2_Compare.calls kj57 t261 t262 t263 t264 t265 t266 t267 t237 t238 t239 t240 t241 t242 t243 t268 _ A86.out).mono ?_
                       rintro e w90 ⟨rfl, hb⟩
                       refine ⟨_, rfl, ?_⟩
                       have n0_ := Aside0.mk (Kd.R_below (by (with_reducible repeat (first | apply Kd.R_alloc | apply Kd.R_drewN | apply Kd.R_drew)); exact HO_49.out) hb)
                       have n1_ := Aside0.mk (Kd.R_below (by (with_reducible repeat (first | apply Kd.R_alloc | apply Kd.R_drewN | apply Kd.R_drew)); exact HO_59.out) hb)
                       have n2_ := kb_ BK219 hb
                       have n3_ := kb_ BK220 hb
                       have n4_ := kb_ BK225 hb
                       have n5_ := kb_ BK244 hb
                       have n6_ := bs_ HB hb
                       clear HO_49
                       clear HO_59
                       clear BK219
                       clear BK220
                       clear BK225
                       clear BK244
                       clear HB
                       have HO_49 := n0_
                       have HO_59 := n1_
                       have BK219 := n2_
                       have BK220 := n3_
                       have BK225 := n4_
                       have BK244 := n5_
                       have HB := n6_
                       clear n0_ n1_ n2_ n3_ n4_ n5_ n6_
                       (try clear hb)
                       (try clear hb2)
                       (try clear hk)
                       (try clear hi)
                       refine hK.out _ _ ⟨(blk_cell BK225.out 0).trans rfl, (blk_cell BK225.out 1).trans rfl, (blk_cell BK244.out 0).trans rfl, (blk_cell BK244.out 1).trans rfl, (blk_cell BK244.out 2).trans rfl, (blk_cell BK244.out 3).trans rfl, (blk_cell BK244.out 4).trans rfl, (blk_cell BK244.out 5).trans rfl, (blk_cell BK244.out 6).trans rfl⟩ (fun hHeld => ?_)
                       clear hK K
                       refine norm_ (a' := ?_) ?_ ?_
                       rotate_left
                       ·show Act.put _ (some 110) _ = _
                        simp only [Act.put, List.setIfInBounds_toArray, List.set_cons_zero, List.set_cons_succ, i64_w, i32_w]
                        rfl
                       refine pure_ (i := 9) (N := some 111) (v := ?_) (a' := ?_) #[true, true, true, true, true, true, true, true, true, true, false, false] rfl rfl (any_of HT_.out (by kernel_rfl)) (fun _ _ _ h => h) (Or.inl ⟨by rfl, ?_⟩) ?_ ?_
                       rotate_left
                       ·intro w'
                        go_simp
                        with_reducible rfl
                       rotate_left
                       ·simp only [Act.put, List.setIfInBounds_toArray, List.set_cons_zero, List.set_cons_succ, i64_w, i32_w]
                        rfl
                       refine pure_ (i := 10) (N := some 112) (v := ?_) (a' := ?_) #[true, true, true, true, true, true, true, true, true, true, true, false] rfl rfl (any_of HT_.out (by kernel_rfl)) (fun _ _ _ h => h) (Or.inl ⟨by rfl, ?_⟩) ?_ ?_
                       rotate_left
                       ·intro w'
                        go_simp
                        with_reducible rfl
                       rotate_left
                       ·simp only [Act.put, List.setIfInBounds_toArray, List.set_cons_zero, List.set_cons_succ, i64_w, i32_w]
                        rfl
                       refine pure_ (i := 11) (N := some 9) (v := ?_) (a' := ?_) #[true, true, true, true, true, true, true, true, true, true, true, true] rfl rfl (any_of HT_.out (by kernel_rfl)) (fun _ _ _ h => h) (Or.inl ⟨by rfl, ?_⟩) ?_ ?_
                       rotate_left
                       ·intro w'
                        go_simp
                        with_reducible rfl
                       rotate_left
                       ·simp only [Act.put, List.setIfInBounds_toArray, List.set_cons_zero, List.set_cons_succ, i64_w, i32_w]
                        rfl
                       refine done_ (done_of HT_.out (by kernel_rfl)) ?_
                       try go_wp2
                       go_roundg kj57
                       case measure => have := HJ22.out; have := HK2.out; have := HK3.out; have := HJ54.out; have := HJ57.out; omega
                       case rel => exact ⟨(true), (decide (t268 < 0)), (wrap64 (x61_3 + 1)), (by first | rfl | (simp; done) | (simp [*]; done)), (by first | rfl | (simp; done) | (simp [*]; done)), (by first | rfl | (simp; done) | (simp [*]; done)), H', ⟨by have := HJ22.out; have := HK2.out; have := HK3.out; have := HJ54.out; have := HJ57.out; omega⟩, ⟨by (with_reducible repeat (first | apply Kd.R_alloc | apply Kd.R_drewN | apply Kd.R_drew)); exact HO_49.out⟩, ⟨by (with_reducible repeat (first | apply Kd.R_alloc | apply Kd.R_drewN | apply Kd.R_drew)); exact HO_59.out⟩, ⟨kk_ BK219⟩, ⟨kk_ BK220⟩, ⟨kk_ BK225⟩, (be_ HB)⟩
                     ·replace c81 := Bool.eq_false_iff.mpr c81
                      subst c81
                      have H1 : ((ephemerisref2_Product.f kj57 (wrap64 (t222 + 1)) x15_54).bind fun bt269 => ((ephemerisref2_Compare.f kj57 bt269.1 bt269.2.1 bt269.2.2.1 bt269.2.2.2.1 bt269.2.2.2.2.1 bt269.2.2.2.2.2.1 bt269.2.2.2.2.2.2 t237 t238 t239 t240 t241 t242 t243).bind fun t276 => (if x9_3 = true then (ephemerislaw2_IntervalDivs.l1 kj57 t224 (decide (t276 > 0)) true (rd y229 x51_2) y229 (y229.length : Int) x51_2 y233 (y233.length : Int) (wrap64 (x61_3 + 1)) a1_0 a1_1 t222 t223) else ((ephemerisref2_Product.f kj57 (wrap64 (t223 - 1)) x15_54).bind fun bt277 => ((ephemerisref2_Compare.f kj57 bt277.1 bt277.2.1 bt277.2.2.1 bt277.2.2.2.1 bt277.2.2.2.2.1 bt277.2.2.2.2.2.1 bt277.2.2.2.2.2.2 t237 t238 t239 t240 t241 t242 t243).bind fun t284 => (ephemerislaw2_IntervalDivs.l1 kj57 t224 (decide (t276 > 0)) (decide (t284 < 0)) (rd y229 x51_2) y229 (y229.length : Int) x51_2 y233 (y233.length : Int) (wrap64 (x61_3 + 1)) a1_0 a1_1 t222 t223)))))) = some r := by rw [if_neg (show ¬ (false = true) by decide)] at H; exact H
                      clear H
                      have H := H1
                      clear H1
                      replace H := Option.bind_eq_some_iff.mp H
                      obtain ⟨⟨t269, t270, t271, t272, t273, t274, t275⟩, A910, H⟩ := H
                      replace H : ((ephemerisref2_Compare.f kj57 t269 t270 t271 t272 t273 t274 t275 t237 t238 t239 t240 t241 t242 t243).bind fun t276 => (if x9_3 = true then (ephemerislaw2_IntervalDivs.l1 kj57 t224 (decide (t276 > 0)) true (rd y229 x51_2) y229 (y229.length : Int) x51_2 y233 (y233.length : Int) (wrap64 (x61_3 + 1)) a1_0 a1_1 t222 t223) else ((ephemerisref2_Product.f kj57 (wrap64 (t223 - 1)) x15_54).bind fun bt277 => ((ephemerisref2_Compare.f kj57 bt277.1 bt277.2.1 bt277.2.2.1 bt277.2.2.2.1 bt277.2.2.2.2.1 bt277.2.2.2.2.2.1 bt277.2.2.2.2.2.2 t237 t238 t239 t240 t241 t242 t243).bind fun t284 => (ephemerislaw2_IntervalDivs.l1 kj57 t224 (decide (t276 > 0)) (decide (t284 < 0)) (rd y229 x51_2) y229 (y229.length : Int) x51_2 y233 (y233.length : Int) (wrap64 (x61_3 + 1)) a1_0 a1_1 t222 t223))))) = some r := H
                      have A91 := Aside0.mk A910
                      clear A910
                      replace H := Option.bind_eq_some_iff.mp H
                      obtain ⟨t276, A920, H⟩ := H
                      replace H : (if x9_3 = true then (ephemerislaw2_IntervalDivs.l1 kj57 t224 (decide (t276 > 0)) true (rd y229 x51_2) y229 (y229.length : Int) x51_2 y233 (y233.length : Int) (wrap64 (x61_3 + 1)) a1_0 a1_1 t222 t223) else ((ephemerisref2_Product.f kj57 (wrap64 (t223 - 1)) x15_54).bind fun bt277 => ((ephemerisref2_Compare.f kj57 bt277.1 bt277.2.1 bt277.2.2.1 bt277.2.2.2.1 bt277.2.2.2.2.1 bt277.2.2.2.2.2.1 bt277.2.2.2.2.2.2 t237 t238 t239 t240 t241 t242 t243).bind fun t284 => (ephemerislaw2_IntervalDivs.l1 kj57 t224 (decide (t276 > 0)) (decide (t284 < 0)) (rd y229 x51_2) y229 (y229.length : Int) x51_2 y233 (y233.length : Int) (wrap64 (x61_3 + 1)) a1_0 a1_1 t222 t223)))) = some r := H
                      have A92 := Aside0.mk A920
                      clear A920
                      by_cases c93 : x9_3 = true
                      ·subst c93
                       have H1 : (ephemerislaw2_IntervalDivs.l1 kj57 t224 (decide (t276 > 0)) true (rd y229 x51_2) y229 (y229.length : Int) x51_2 y233 (y233.length : Int) (wrap64 (x61_3 + 1)) a1_0 a1_1 t222 t223) = some r := by rw [if_pos rfl] at H; exact H
                       clear H
                       have H := H1
                       clear H1
                       have H' := Aside0.mk H
                       clear H
                       try go_wp2
                       replace HO_49 := Aside0.mk (Kd.R_drew HO_49.out)
                       replace HO_59 := Aside0.mk (Kd.R_drew HO_59.out)
                       replace BK219 := Aside0.mk (blk_drew BK219.out)
                       replace BK220 := Aside0.mk (blk_drew BK220.out)
                       replace BK225 := Aside0.mk (blk_drew BK225.out)
                       replace BK244 := Aside0.mk (blk_drew BK244.out)
                       replace HB := Aside0.mk (below_drew1 HB.out)
                       refine start_ (n := 12) (S := fun w' => w'.cell? ⟨gb225, 0, none⟩ = some (.int .i64 t222) ∧ w'.cell? ⟨gb225, 1, none⟩ = some (.int .i64 t223) ∧ w'.cell? ⟨gb244, 0, none⟩ = some (.bool t237) ∧ w'.cell? ⟨gb244, 1, none⟩ = some (.int .i64 t238) ∧ w'.cell? ⟨gb244, 2, none⟩ = some (.int .i64 t239) ∧ w'.cell? ⟨gb244, 3, none⟩ = some (.int .i64 t240) ∧ w'.cell? ⟨gb244, 4, none⟩ = some (.int .i64 t241) ∧ w'.cell? ⟨gb244, 5, none⟩ = some (.int .i64 t242) ∧ w'.cell? ⟨gb244, 6, none⟩ = some (.int .i64 t243)) (ds := []) #[false, false, false, false, false, false, false, false, false, false, false, false] (by kernel_rfl) rfl rfl ⟨(blk_cell BK225.out 0).trans rfl, (blk_cell BK225.out 1).trans rfl, (blk_cell BK244.out 0).trans rfl, (blk_cell BK244.out 1).trans rfl, (blk_cell BK244.out 2).trans rfl, (blk_cell BK244.out 3).trans rfl, (blk_cell BK244.out 4).trans rfl, (blk_cell BK244.out 5).trans rfl, (blk_cell BK244.out 6).trans rfl⟩ (fun hHeld => ?_); refine with_tabW ephemerislaw2_IntervalDivs.tab22 ephemerislaw2_IntervalDivs.bits22 (fun HT_ HW_ => ?_)
                       generalize wc.drew = w94 at HO_49 HO_59 BK219 BK220 BK225 BK244 HB hHeld ⊢
                       refine pure_ (i := 0) (N := some 91) (v := ?_) (a' := ?_) #[true, false, false, false, false, false, false, false, false, false, false, false] rfl rfl (any_of HT_.out (by kernel_rfl)) (fun _ _ _ h => h) (Or.inl ⟨by rfl, ?_⟩) ?_ ?_
                       rotate_left
                       ·intro w'
                        go_simp
                        with_reducible rfl
                       rotate_left
                       ·simp only [Act.put, List.setIfInBounds_toArray, List.set_cons_zero, List.set_cons_succ, i64_w, i32_w]
                        rfl
                       refine pure_ (i := 1) (N := some 92) (v := ?_) (a' := ?_) #[true, true, false, false, false, false, false, false, false, false, false, false] rfl rfl (any_of HT_.out (by kernel_rfl)) (fun _ _ _ h => h) (Or.inl ⟨by rfl, ?_⟩) ?_ ?_
                       rotate_left
                       ·intro w'
                        go_simp
                        with_reducible rfl
                       rotate_left
                       ·simp only [Act.put, List.setIfInBounds_toArray, List.set_cons_zero, List.set_cons_succ, i64_w, i32_w]
                        rfl
                       refine pure_ (i := 2) (N := some 93) (v := ?_) (a' := ?_) #[true, true, true, false, false, false, false, false, false, false, false, false] rfl rfl (any_of HT_.out (by kernel_rfl)) (fun _ _ _ h => h) (Or.inl ⟨by rfl, ?_⟩) ?_ ?_
                       rotate_left
                       ·intro w'
                        go_simp
                        with_reducible rfl
                       rotate_left
                       ·simp only [Act.put, List.setIfInBounds_toArray, List.set_cons_zero, List.set_cons_succ, i64_w, i32_w]
                        rfl
                       refine pure_ (i := 5) (N := some 96) (v := ?_) (a' := ?_) #[true, true, true, false, false, true, false, false, false, false, false, false] rfl rfl (any_of HT_.out (by kernel_rfl)) (fun _ _ _ h => h) (Or.inl ⟨by rfl, ?_⟩) ?_ ?_
                       rotate_left
                       ·intro w'
                        go_simp
                        with_reducible rfl
                       rotate_left
                       ·simp only [Act.put, List.setIfInBounds_toArray, List.set_cons_zero, List.set_cons_succ, i64_w, i32_w]
                        rfl
                       refine take_ (i := 3) (N := some 94) (v := ?_) (a' := ?_) #[true, true, true, true, false, true, false, false, false, false, false, false] rfl rfl (take_ofW HT_.out HW_.out (by kernel_rfl)) (fun _ _ _ h => h) (Or.inl ⟨by rfl, ?_⟩) hHeld ?_ ?_
                       rotate_left
                       ·rintro w' ⟨s0, s1, s2, s3, s4, s5, s6, s7, s8⟩
                        go_simp
                        with_reducible rfl
                       rotate_left
                       ·simp only [Act.put, List.setIfInBounds_toArray, List.set_cons_zero, List.set_cons_succ, i64_w, i32_w]
                        rfl
                       refine pure_ (i := 4) (N := some 95) (v := ?_) (a' := ?_) #[true, true, true, true, true, true, false, false, false, false, false, false] rfl rfl (any_of HT_.out (by kernel_rfl)) (fun _ _ _ h => h) (Or.inl ⟨by rfl, ?_⟩) ?_ ?_
                       rotate_left
                       ·intro w'
                        go_simp
                        with_reducible rfl
                       rotate_left
                       ·simp only [Act.put, List.setIfInBounds_toArray, List.set_cons_zero, List.set_cons_succ, i64_w, i32_w]
                        rfl
                       refine take_ (i := 7) (N := some 98) (v := ?_) (a' := ?_) #[true, true, true, true, true, true, false, true, false, false, false, false] rfl rfl (take_ofW HT_.out HW_.out (by kernel_rfl)) (fun _ _ _ h => h) (Or.inl ⟨by rfl, ?_⟩) hHeld ?_ ?_
                       rotate_left
                       ·rintro w' ⟨s0, s1, s2, s3, s4, s5, s6, s7, s8⟩
                        go_simp
                        with_reducible rfl
                       rotate_left
                       ·simp only [Act.put, List.setIfInBounds_toArray, List.set_cons_zero, List.set_cons_succ, i64_w, i32_w]
                        rfl
                       refine one_ (i := 6) (N := some 97) #[true, true, true, true, true, true, true, true, false, false, false, false] rfl rfl (one_of HT_.out (by kernel_rfl)) (by decide) (fun K hK => ?_)
                       refine goes_ Try.func28 (by kernel_rfl) rfl #[.int .i64 (wrap64 (t222 + 1)), .int .i64 x15_54] (by rfl) rfl rfl (by (try simp only [List.map_toArray, List.map_cons, List.map_nil]); first | done | rfl | (simp only [List.length_drop, List.length_take]; rfl)) ?_
                       with_reducible refine (ephemerisref2_Product.calls kj57 (wrap64 (t222 + 1)) x15_54 t269 t270 t271 t272 t273 t274 t275 _ A91.out).mono ?_
                       rintro e w95 ⟨rfl, hb⟩
                       refine ⟨_, rfl, ?_⟩
                       have n0_ := Aside0.mk (Kd.R_below (by (with_reducible repeat (first | apply Kd.R_alloc | apply Kd.R_drewN | apply Kd.R_drew)); exact HO_49.out) hb)
                       have n1_ := Aside0.mk (Kd.R_below (by (with_reducible repeat (first | apply Kd.R_alloc | apply Kd.R_drewN | apply Kd.R_drew)); exact HO_59.out) hb)
                       have n2_ := kb_ BK219 hb
                       have n3_ := kb_ BK220 hb
                       have n4_ := kb_ BK225 hb
                       have n5_ := kb_ BK244 hb
                       have n6_ := bs_ HB hb
                       clear HO_49
                       clear HO_59
                       clear BK219
                       clear BK220
                       clear BK225
                       clear BK244
                       clear HB
                       have HO_49 := n0_
                       have HO_59 := n1_
                       have BK219 := n2_
                       have BK220 := n3_
                       have BK225 := n4_
                       have BK244 := n5_
                       have HB := n6_
                       clear n0_ n1_ n2_ n3_ n4_ n5_ n6_
                       (try clear hb)
                       (try clear hb2)
                       (try clear hk)
                       (try clear hi)
                       refine hK.out _ _ ⟨(blk_cell BK225.out 0).trans rfl, (blk_cell BK225.out 1).trans rfl, (blk_cell BK244.out 0).trans rfl, (blk_cell BK244.out 1).trans rfl, (blk_cell BK244.out 2).trans rfl, (blk_cell BK244.out 3).trans rfl, (blk_cell BK244.out 4).trans rfl, (blk_cell BK244.out 5).trans rfl, (blk_cell BK244.out 6).trans rfl⟩ (fun hHeld => ?_)
                       clear hK K
                       refine norm_ (a' := ?_) ?_ ?_
                       rotate_left
                       ·show Act.put _ (some 97) _ = _
                        simp only [Act.put, List.setIfInBounds_toArray, List.set_cons_zero, List.set_cons_succ, i64_w, i32_w]
                        rfl
                       refine one_ (i := 8) (N := some 99) #[true, true, true, true, true, true, true, true, true, false, false, false] rfl rfl (one_of HT_.out (by kernel_rfl)) (by decide) (fun K hK => ?_)
                       refine goes_ Try.func30 (by kernel_rfl) rfl #[.agg #[.bool t269, .int .i64 t270, .int .i64 t271, .int .i64 t272, .int .i64 t273, .int .i64 t274, .int .i64 t275], .agg #[.bool t237, .int .i64 t238, .int .i64 t239, .int .i64 t240, .int .i64 t241, .int .i64 t242, .int .i64 t243]] (by rfl) rfl rfl (by (try simp only [List.map_toArray, List.map_cons, List.map_nil]); first | done | rfl | (simp only [List.length_drop, List.length_take]; rfl)) ?_
                       with_reducible refine (ephemerisref2_Compare.calls kj57 t269 t270 t271 t272 t273 t274 t275 t237 t238 t239 t240 t241 t242 t243 t276 _ A92.out).mono ?_
                       rintro e w96 ⟨rfl, hb⟩
                       refine ⟨_, rfl, ?_⟩
                       have n0_ := Aside0.mk (Kd.R_below (by (with_reducible repeat (first | apply Kd.R_alloc | apply Kd.R_drewN | apply Kd.R_drew)); exact HO_49.out) hb)
                       have n1_ := Aside0.mk (Kd.R_below (by (with_reducible repeat (first | apply Kd.R_alloc | apply Kd.R_drewN | apply Kd.R_drew)); exact HO_59.out) hb)
                       have n2_ := kb_ BK219 hb
                       have n3_ := kb_ BK220 hb
                       have n4_ := kb_ BK225 hb
                       have n5_ := kb_ BK244 hb
                       have n6_ := bs_ HB hb
                       clear HO_49
                       clear HO_59
                       clear BK219
                       clear BK220
                       clear BK225
                       clear BK244
                       clear HB
                       have HO_49 := n0_
                       have HO_59 := n1_
                       have BK219 := n2_
                       have BK220 := n3_
                       have BK225 := n4_
                       have BK244 := n5_
                       have HB := n6_
                       clear n0_ n1_ n2_ n3_ n4_ n5_ n6_
                       (try clear hb)
                       (try clear hb2)
                       (try clear hk)
                       (try clear hi)
                       refine hK.out _ _ ⟨(blk_cell BK225.out 0).trans rfl, (blk_cell BK225.out 1).trans rfl, (blk_cell BK244.out 0).trans rfl, (blk_cell BK244.out 1).trans rfl, (blk_cell BK244.out 2).trans rfl, (blk_cell BK244.out 3).trans rfl, (blk_cell BK244.out 4).trans rfl, (blk_cell BK244.out 5).trans rfl, (blk_cell BK244.out 6).trans rfl⟩ (fun hHeld => ?_)
                       clear hK K
                       refine norm_ (a' := ?_) ?_ ?_
                       rotate_left
                       ·show Act.put _ (some 99) _ = _
                        simp only [Act.put, List.setIfInBounds_toArray, List.set_cons_zero, List.set_cons_succ, i64_w, i32_w]
                        rfl
                       refine pure_ (i := 9) (N := some 100) (v := ?_) (a' := ?_) #[true, true, true, true, true, true, true, true, true, true, false, false] rfl rfl (any_of HT_.out (by kernel_rfl)) (fun _ _ _ h => h) (Or.inl ⟨by rfl, ?_⟩) ?_ ?_
                       rotate_left
                       ·intro w'
                        go_simp
                        with_reducible rfl
                       rotate_left
                       ·simp only [Act.put, List.setIfInBounds_toArray, List.set_cons_zero, List.set_cons_succ, i64_w, i32_w]
                        rfl
                       refine pure_ (i := 10) (N := some 101) (v := ?_) (a' := ?_) #[true, true, true, true, true, true, true, true, true, true, true, false] rfl rfl (any_of HT_.out (by kernel_rfl)) (fun _ _ _ h => h) (Or.inl ⟨by rfl, ?_⟩) ?_ ?_
                       rotate_left
                       ·intro w'
                        go_simp
                        with_reducible rfl
                       rotate_left
                       ·simp only [Act.put, List.setIfInBounds_toArray, List.set_cons_zero, List.set_cons_succ, i64_w, i32_w]
                        rfl
                       refine pure_ (i := 11) (N := some 8) (v := ?_) (a' := ?_) #[true, true, true, true, true, true, true, true, true, true, true, true] rfl rfl (any_of HT_.out (by kernel_rfl)) (fun _ _ _ h => h) (Or.inl ⟨by rfl, ?_⟩) ?_ ?_
                       rotate_left
                       ·intro w'
                        go_simp
                        with_reducible rfl
                       rotate_left
                       ·simp only [Act.put, List.setIfInBounds_toArray, List.set_cons_zero, List.set_cons_succ, i64_w, i32_w]
                        rfl
                       refine done_ (done_of HT_.out (by kernel_rfl)) ?_
                       try go_wp2
                       replace HO_49 := Aside0.mk (Kd.R_drew HO_49.out)
                       replace HO_59 := Aside0.mk (Kd.R_drew HO_59.out)
                       replace BK219 := Aside0.mk (blk_drew BK219.out)
                       replace BK220 := Aside0.mk (blk_drew BK220.out)
                       replace BK225 := Aside0.mk (blk_drew BK225.out)
                       replace BK244 := Aside0.mk (blk_drew BK244.out)
                       replace HB := Aside0.mk (below_drew1 HB.out)
                       refine start_ (n := 12) (S := fun w' => True) (ds := []) #[false, false, false, false, false, false, false, false, false, false, false, false] (by kernel_rfl) rfl rfl trivial (fun hHeld => ?_); refine with_tabW ephemerislaw2_IntervalDivs.tab23 ephemerislaw2_IntervalDivs.bits23 (fun HT_ HW_ => ?_)
                       generalize w96.drew = w97 at HO_49 HO_59 BK219 BK220 BK225 BK244 HB hHeld ⊢
                       refine pure_ (i := 0) (N := some 102) (v := ?_) (a' := ?_) #[true, false, false, false, false, false, false, false, false, false, false, false] rfl rfl (any_of HT_.out (by kernel_rfl)) (fun _ _ _ h => h) (Or.inl ⟨by rfl, ?_⟩) ?_ ?_
                       rotate_left
                       ·intro w'
                        go_simp
                        with_reducible rfl
                       rotate_left
                       ·simp only [Act.put, List.setIfInBounds_toArray, List.set_cons_zero, List.set_cons_succ, i64_w, i32_w]
                        rfl
                       refine pure_ (i := 1) (N := some 103) (v := ?_) (a' := ?_) #[true, true, false, false, false, false, false, false, false, false, false, false] rfl rfl (any_of HT_.out (by kernel_rfl)) (fun _ _ _ h => h) (Or.inl ⟨by rfl, ?_⟩) ?_ ?_
                       rotate_left
                       ·intro w'
                        go_simp
                        with_reducible rfl
                       rotate_left
                       ·simp only [Act.put, List.setIfInBounds_toArray, List.set_cons_zero, List.set_cons_succ, i64_w, i32_w]
                        rfl
                       refine pure_ (i := 2) (N := some 104) (v := undef) (a' := ?_) #[true, true, true, false, false, false, false, false, false, false, false, false] rfl rfl (any_of HT_.out (by kernel_rfl)) (fun _ _ _ h => h) (Or.inr ⟨by rfl, rfl⟩) ?_ ?_
                       rotate_left
                       ·simp only [Act.put, List.setIfInBounds_toArray, List.set_cons_zero, List.set_cons_succ, i64_w, i32_w]
                        rfl
                       refine pure_ (i := 3) (N := some 105) (v := undef) (a' := ?_) #[true, true, true, true, false, false, false, false, false, false, false, false] rfl rfl (any_of HT_.out (by kernel_rfl)) (fun _ _ _ h => h) (Or.inr ⟨by rfl, rfl⟩) ?_ ?_
                       rotate_left
                       ·simp only [Act.put, List.setIfInBounds_toArray, List.set_cons_zero, List.set_cons_succ, i64_w, i32_w]
                        rfl
                       refine pure_ (i := 4) (N := some 106) (v := undef) (a' := ?_) #[true, true, true, true, true, false, false, false, false, false, false, false] rfl rfl (any_of HT_.out (by kernel_rfl)) (fun _ _ _ h => h) (Or.inr ⟨by rfl, rfl⟩) ?_ ?_
                       rotate_left
                       ·simp only [Act.put, List.setIfInBounds_toArray, List.set_cons_zero, List.set_cons_succ, i64_w, i32_w]
                        rfl
                       refine pure_ (i := 5) (N := some 107) (v := undef) (a' := ?_) #[true, true, true, true, true, true, false, false, false, false, false, false] rfl rfl (any_of HT_.out (by kernel_rfl)) (fun _ _ _ h => h) (Or.inr ⟨by rfl, rfl⟩) ?_ ?_
                       rotate_left
                       ·simp only [Act.put, List.setIfInBounds_toArray, List.set_cons_zero, List.set_cons_succ, i64_w, i32_w]
                        rfl
                       refine pure_ (i := 6) (N := some 108) (v := undef) (a' := ?_) #[true, true, true, true, true, true, true, false, false, false, false, false] rfl rfl (any_of HT_.out (by kernel_rfl)) (fun _ _ _ h => h) (Or.inr ⟨by rfl, rfl⟩) ?_ ?_
                       rotate_left
                       ·simp only [Act.put, List.setIfInBounds_toArray, List.set_cons_zero, List.set_cons_succ, i64_w, i32_w]
                        rfl
                       refine pure_ (i := 7) (N := some 109) (v := undef) (a' := ?_) #[true, true, true, true, true, true, true, true, false, false, false, false] rfl rfl (any_of HT_.out (by kernel_rfl)) (fun _ _ _ h => h) (Or.inr ⟨by rfl, rfl⟩) ?_ ?_
                       rotate_left
                       ·simp only [Act.put, List.setIfInBounds_toArray, List.set_cons_zero, List.set_cons_succ, i64_w, i32_w]
                        rfl
                       refine pure_ (i := 8) (N := some 110) (v := undef) (a' := ?_) #[true, true, true, true, true, true, true, true, true, false, false, false] rfl rfl (any_of HT_.out (by kernel_rfl)) (fun _ _ _ h => h) (Or.inr ⟨by rfl, rfl⟩) ?_ ?_
                       rotate_left
                       ·simp only [Act.put, List.setIfInBounds_toArray, List.set_cons_zero, List.set_cons_succ, i64_w, i32_w]
                        rfl
                       refine pure_ (i := 9) (N := some 111) (v := undef) (a' := ?_) #[true, true, true, true, true, true, true, true, true, true, false, false] rfl rfl (any_of HT_.out (by kernel_rfl)) (fun _ _ _ h => h) (Or.inr ⟨by rfl, rfl⟩) ?_ ?_
                       rotate_left
                       ·simp only [Act.put, List.setIfInBounds_toArray, List.set_cons_zero, List.set_cons_succ, i64_w, i32_w]
                        rfl
                       refine pure_ (i := 10) (N := some 112) (v := ?_) (a' := ?_) #[true, true, true, true, true, true, true, true, true, true, true, false] rfl rfl (any_of HT_.out (by kernel_rfl)) (fun _ _ _ h => h) (Or.inl ⟨by rfl, ?_⟩) ?_ ?_
                       rotate_left
                       ·intro w'
                        go_simp
                        with_reducible rfl
                       rotate_left
                       ·simp only [Act.put, List.setIfInBounds_toArray, List.set_cons_zero, List.set_cons_succ, i64_w, i32_w]
                        rfl
                       refine pure_ (i := 11) (N := some 9) (v := ?_) (a' := ?_) #[true, true, true, true, true, true, true, true, true, true, true, true] rfl rfl (any_of HT_.out (by kernel_rfl)) (fun _ _ _ h => h) (Or.inl ⟨by rfl, ?_⟩) ?_ ?_
                       rotate_left
                       ·intro w'
                        go_simp
                        with_reducible rfl
                       rotate_left
                       ·simp only [Act.put, List.setIfInBounds_toArray, List.set_cons_zero, List.set_cons_succ, i64_w, i32_w]
                        rfl
                       refine done_ (done_of HT_.out (by kernel_rfl)) ?_
                       try go_wp2
                       go_roundg kj57
                       case measure => have := HJ22.out; have := HK2.out; have := HK3.out; have := HJ54.out; have := HJ57.out; omega
                       case rel => exact ⟨(decide (t276 > 0)), (true), (wrap64 (x61_3 + 1)), (by first | rfl | (simp; done) | (simp [*]; done)), (by first | rfl | (simp; done) | (simp [*]; done)), (by first | rfl | (simp; done) | (simp [*]; done)), H', ⟨by have := HJ22.out; have := HK2.out; have := HK3.out; have := HJ54.out; have := HJ57.out; omega⟩, ⟨by (with_reducible repeat (first | apply Kd.R_alloc | apply Kd.R_drewN | apply Kd.R_drew)); exact HO_49.out⟩, ⟨by (with_reducible repeat (first | apply Kd.R_alloc | apply Kd.R_drewN | apply Kd.R_drew)); exact HO_59.out⟩, ⟨kk_ BK219⟩, ⟨kk_ BK220⟩, ⟨kk_ BK225⟩, (be_ HB)⟩
                      ·replace c93 := Bool.eq_false_iff.mpr c93
                       subst c93
                       have H1 : ((ephemerisref2_Product.f kj57 (wrap64 (t223 - 1)) x15_54).bind fun bt277 => ((ephemerisref2_Compare.f kj57 bt277.1 bt277.2.1 bt277.2.2.1 bt277.2.2.2.1 bt277.2.2.2.2.1 bt277.2.2.2.2.2.1 bt277.2.2.2.2.2.2 t237 t238 t239 t240 t241 t242 t243).bind fun t284 => (ephemerislaw2_IntervalDivs.l1 kj57 t224 (decide (t276 > 0)) (decide (t284 < 0)) (rd y229 x51_2) y229 (y229.length : Int) x51_2 y233 (y233.length : Int) (wrap64 (x61_3 + 1)) a1_0 a1_1 t222 t223))) = some r := by rw [if_neg (show ¬ (false = true) by decide)] at H; exact H
                       clear H
                       have H := H1
                       clear H1
                       replace H := Option.bind_eq_some_iff.mp H
                       obtain ⟨⟨t277, t278, t279, t280, t281, t282, t283⟩, A980, H⟩ := H
                       replace H : ((ephemerisref2_Compare.f kj57 t277 t278 t279 t280 t281 t282 t283 t237 t238 t239 t240 t241 t242 t243).bind fun t284 => (ephemerislaw2_IntervalDivs.l1 kj57 t224 (decide (t276 > 0)) (decide (t284 < 0)) (rd y229 x51_2) y229 (y229.length : Int) x51_2 y233 (y233.length : Int) (wrap64 (x61_3 + 1)) a1_0 a1_1 t222 t223)) = some r := H
                       have A98 := Aside0.mk A980
                       clear A980
                       replace H := Option.bind_eq_some_iff.mp H
                       obtain ⟨t284, A990, H⟩ := H
                       replace H : (ephemerislaw2_IntervalDivs.l1 kj57 t224 (decide (t276 > 0)) (decide (t284 < 0)) (rd y229 x51_2) y229 (y229.length : Int) x51_2 y233 (y233.length : Int) (wrap64 (x61_3 + 1)) a1_0 a1_1 t222 t223) = some r := H
                       have A99 := Aside0.mk A990
                       clear A990
                       have H' := Aside0.mk H
                       clear H
                       try go_wp2
                       replace HO_49 := Aside0.mk (Kd.R_drew HO_49.out)
                       replace HO_59 := Aside0.mk (Kd.R_drew HO_59.out)
                       replace BK219 := Aside0.mk (blk_drew BK219.out)
                       replace BK220 := Aside0.mk (blk_drew BK220.out)
                       replace BK225 := Aside0.mk (blk_drew BK225.out)
                       replace BK244 := Aside0.mk (blk_drew BK244.out)
                       replace HB := Aside0.mk (below_drew1 HB.out)
                       refine start_ (n := 12) (S := fun w' => w'.cell? ⟨gb225, 0, none⟩ = some (.int .i64 t222) ∧ w'.cell? ⟨gb225, 1, none⟩ = some (.int .i64 t223) ∧ w'.cell? ⟨gb244, 0, none⟩ = some (.bool t237) ∧ w'.cell? ⟨gb244, 1, none⟩ = some (.int .i64 t238) ∧ w'.cell? ⟨gb244, 2, none⟩ = some (.int .i64 t239) ∧ w'.cell? ⟨gb244, 3, none⟩ = some (.int .i64 t240) ∧ w'.cell? ⟨gb244, 4, none⟩ = some (.int .i64 t241) ∧ w'.cell? ⟨gb244, 5, none⟩ = some (.int .i64 t242) ∧ w'.cell? ⟨gb244, 6, none⟩ = some (.int .i64 t243)) (ds := []) #[false, false, false, false, false, false, false, false, false, false, false, false] (by kernel_rfl) rfl rfl ⟨(blk_cell BK225.out 0).trans rfl, (blk_cell BK225.out 1).trans rfl, (blk_cell BK244.out 0).trans rfl, (blk_cell BK244.out 1).trans rfl, (blk_cell BK244.out 2).trans rfl, (blk_cell BK244.out 3).trans rfl, (blk_cell BK244.out 4).trans rfl, (blk_cell BK244.out 5).trans rfl, (blk_cell BK244.out 6).trans rfl⟩ (fun hHeld => ?_); refine with_tabW ephemerislaw2_IntervalDivs.tab22 ephemerislaw2_IntervalDivs.bits22 (fun HT_ HW_ => ?_)
                       generalize wc.drew = w100 at HO_49 HO_59 BK219 BK220 BK225 BK244 HB hHeld ⊢
                       refine pure_ (i := 0) (N := some 91) (v := ?_) (a' := ?_) #[true, false, false, false, false, false, false, false, false, false, false, false] rfl rfl (any_of HT_.out (by kernel_rfl)) (fun _ _ _ h => h) (Or.inl ⟨by rfl, ?_⟩) ?_ ?_
                       rotate_left
                       ·intro w'
                        go_simp
                        with_reducible rfl
                       rotate_left
                       ·simp only [Act.put, List.setIfInBounds_toArray, List.set_cons_zero, List.set_cons_succ, i64_w, i32_w]
                        rfl
                       refine pure_ (i := 1) (N := some 92) (v := ?_) (a' := ?_) #[true, true, false, false, false, false, false, false, false, false, false, false] rfl rfl (any_of HT_.out (by kernel_rfl)) (fun _ _ _ h => h) (Or.inl ⟨by rfl, ?_⟩) ?_ ?_
                       rotate_left
                       ·intro w'
                        go_simp
                        with_reducible rfl
                       rotate_left
                       ·simp only [Act.put, List.setIfInBounds_toArray, List.set_cons_zero, List.set_cons_succ, i64_w, i32_w]
                        rfl
                       refine pure_ (i := 2) (N := some 93) (v := ?_) (a' := ?_) #[true, true, true, false, false, false, false, false, false, false, false, false] rfl rfl (any_of HT_.out (by kernel_rfl)) (fun _ _ _ h => h) (Or.inl ⟨by rfl, ?_⟩) ?_ ?_
                       rotate_left
                       ·intro w'
                        go_simp
                        with_reducible rfl
                       rotate_left
                       ·simp only [Act.put, List.setIfInBounds_toArray, List.set_cons_zero, List.set_cons_succ, i64_w, i32_w]
                        rfl
                       refine pure_ (i := 5) (N := some 96) (v := ?_) (a' := ?_) #[true, true, true, false, false, true, false, false, false, false, false, false] rfl rfl (any_of HT_.out (by kernel_rfl)) (fun _ _ _ h => h) (Or.inl ⟨by rfl, ?_⟩) ?_ ?_
                       rotate_left
                       ·intro w'
                        go_simp
                        with_reducible rfl
                       rotate_left
                       ·simp only [Act.put, List.setIfInBounds_toArray, List.set_cons_zero, List.set_cons_succ, i64_w, i32_w]
                        rfl
                       refine take_ (i := 3) (N := some 94) (v := ?_) (a' := ?_) #[true, true, true, true, false, true, false, false, false, false, false, false] rfl rfl (take_ofW HT_.out HW_.out (by kernel_rfl)) (fun _ _ _ h => h) (Or.inl ⟨by rfl, ?_⟩) hHeld ?_ ?_
                       rotate_left
                       ·rintro w' ⟨s0, s1, s2, s3, s4, s5, s6, s7, s8⟩
                        go_simp
                        with_reducible rfl
                       rotate_left
                       ·simp only [Act.put, List.setIfInBounds_toArray, List.set_cons_zero, List.set_cons_succ, i64_w, i32_w]
                        rfl
                       refine pure_ (i := 4) (N := some 95) (v := ?_) (a' := ?_) #[true, true, true, true, true, true, false, false, false, false, false, false] rfl rfl (any_of HT_.out (by kernel_rfl)) (fun _ _ _ h => h) (Or.inl ⟨by rfl, ?_⟩) ?_ ?_
                       rotate_left
                       ·intro w'
                        go_simp
                        with_reducible rfl
                       rotate_left
                       ·simp only [Act.put, List.setIfInBounds_toArray, List.set_cons_zero, List.set_cons_succ, i64_w, i32_w]
                        rfl
                       refine take_ (i := 7) (N := some 98) (v := ?_) (a' := ?_) #[true, true, true, true, true, true, false, true, false, false, false, false] rfl rfl (take_ofW HT_.out HW_.out (by kernel_rfl)) (fun _ _ _ h => h) (Or.inl ⟨by rfl, ?_⟩) hHeld ?_ ?_
                       rotate_left
                       ·rintro w' ⟨s0, s1, s2, s3, s4, s5, s6, s7, s8⟩
                        go_simp
                        with_reducible rfl
                       rotate_left
                       ·simp only [Act.put, List.setIfInBounds_toArray, List.set_cons_zero, List.set_cons_succ, i64_w, i32_w]
                        rfl
                       refine one_ (i := 6) (N := some 97) #[true, true, true, true, true, true, true, true, false, false, false, false] rfl rfl (one_of HT_.out (by kernel_rfl)) (by decide) (fun K hK => ?_)
                       refine goes_ Try.func28 (by kernel_rfl) rfl #[.int .i64 (wrap64 (t222 + 1)), .int .i64 x15_54] (by rfl) rfl rfl (by (try simp only [List.map_toArray, List.map_cons, List.map_nil]); first | done | rfl | (simp only [List.length_drop, List.length_take]; rfl)) ?_
                       with_reducible refine (ephemerisref2_Product.calls kj57 (wrap64 (t222 + 1)) x15_54 t269 t270 t271 t272 t273 t274 t275 _ A91.out).mono ?_
                       rintro e w101 ⟨rfl, hb⟩
                       refine ⟨_, rfl, ?_⟩
                       have n0_ := Aside0.mk (Kd.R_below (by (with_reducible repeat (first | apply Kd.R_alloc | apply Kd.R_drewN | apply Kd.R_drew)); exact HO_49.out) hb)
                       have n1_ := Aside0.mk (Kd.R_below (by (with_reducible repeat (first | apply Kd.R_alloc | apply Kd.R_drewN | apply Kd.R_drew)); exact HO_59.out) hb)
                       have n2_ := kb_ BK219 hb
                       have n3_ := kb_ BK220 hb
                       have n4_ := kb_ BK225 hb
                       have n5_ := kb_ BK244 hb
                       have n6_ := bs_ HB hb
                       clear HO_49
                       clear HO_59
                       clear BK219
                       clear BK220
                       clear BK225
                       clear BK244
                       clear HB
                       have HO_49 := n0_
                       have HO_59 := n1_
                       have BK219 := n2_
                       have BK220 := n3_
                       have BK225 := n4_
                       have BK244 := n5_
                       have HB := n6_
                       clear n0_ n1_ n2_ n3_ n4_ n5_ n6_
                       (try clear hb)
                       (try clear hb2)
                       (try clear hk)
                       (try clear hi)
                       refine hK.out _ _ ⟨(blk_cell BK225.out 0).trans rfl, (blk_cell BK225.out 1).trans rfl, (blk_cell BK244.out 0).trans rfl, (blk_cell BK244.out 1).trans rfl, (blk_cell BK244.out 2).trans rfl, (blk_cell BK244.out 3).trans rfl, (blk_cell BK244.out 4).trans rfl, (blk_cell BK244.out 5).trans rfl, (blk_cell BK244.out 6).trans rfl⟩ (fun hHeld => ?_)
                       clear hK K
                       refine norm_ (a' := ?_) ?_ ?_
                       rotate_left
                       ·show Act.put _ (some 97) _ = _
                        simp only [Act.put, List.setIfInBounds_toArray, List.set_cons_zero, List.set_cons_succ, i64_w, i32_w]
                        rfl
                       refine one_ (i := 8) (N := some 99) #[true, true, true, true, true, true, true, true, true, false, false, false] rfl rfl (one_of HT_.out (by kernel_rfl)) (by decide) (fun K hK => ?_)
                       refine goes_ Try.func30 (by kernel_rfl) rfl #[.agg #[.bool t269, .int .i64 t270, .int .i64 t271, .int .i64 t272, .int .i64 t273, .int .i64 t274, .int .i64 t275], .agg #[.bool t237, .int .i64 t238, .int .i64 t239, .int .i64 t240, .int .i64 t241, .int .i64 t242, .int .i64 t243]] (by rfl) rfl rfl (by (try simp only [List.map_toArray, List.map_cons, List.map_nil]); first | done | rfl | (simp only [List.length_drop, List.length_take]; rfl)) ?_
                       with_reducible refine (ephemerisref2_Compare.calls kj57 t269 t270 t271 t272 t273 t274 t275 t237 t238 t239 t240 t241 t242 t243 t276 _ A92.out).mono ?_
                       rintro e w102 ⟨rfl, hb⟩
                       refine ⟨_, rfl, ?_⟩
                       have n0_ := Aside0.mk (Kd.R_below (by (with_reducible repeat (first | apply Kd.R_alloc | apply Kd.R_drewN | apply Kd.R_drew)); exact HO_49.out) hb)
                       have n1_ := Aside0.mk (Kd.R_below (by (with_reducible repeat (first | apply Kd.R_alloc | apply Kd.R_drewN | apply Kd.R_drew)); exact HO_59.out) hb)
                       have n2_ := kb_ BK219 hb
                       have n3_ := kb_ BK220 hb
                       have n4_ := kb_ BK225 hb
                       have n5_ := kb_ BK244 hb
                       have n6_ := bs_ HB hb
                       clear HO_49
                       clear HO_59
                       clear BK219
                       clear BK220
                       clear BK225
                       clear BK244
                       clear HB
                       have HO_49 := n0_
                       have HO_59 := n1_
                       have BK219 := n2_
                       have BK220 := n3_
                       have BK225 := n4_
                       have BK244 := n5_
                       have HB := n6_
                       clear n0_ n1_ n2_ n3_ n4_ n5_ n6_
                       (try clear hb)
                       (try clear hb2)
                       (try clear hk)
                       (try clear hi)
                       refine hK.out _ _ ⟨(blk_cell BK225.out 0).trans rfl, (blk_cell BK225.out 1).trans rfl, (blk_cell BK244.out 0).trans rfl, (blk_cell BK244.out 1).trans rfl, (blk_cell BK244.out 2).trans rfl, (blk_cell BK244.out 3).trans rfl, (blk_cell BK244.out 4).trans rfl, (blk_cell BK244.out 5).trans rfl, (blk_cell BK244.out 6).trans rfl⟩ (fun hHeld => ?_)
                       clear hK K
                       refine norm_ (a' := ?_) ?_ ?_
                       rotate_left
                       ·show Act.put _ (some 99) _ = _
                        simp only [Act.put, List.setIfInBounds_toArray, List.set_cons_zero, List.set_cons_succ, i64_w, i32_w]
                        rfl
                       refine pure_ (i := 9) (N := some 100) (v := ?_) (a' := ?_) #[true, true, true, true, true, true, true, true, true, true, false, false] rfl rfl (any_of HT_.out (by kernel_rfl)) (fun _ _ _ h => h) (Or.inl ⟨by rfl, ?_⟩) ?_ ?_
                       rotate_left
                       ·intro w'
                        go_simp
                        with_reducible rfl
                       rotate_left
                       ·simp only [Act.put, List.setIfInBounds_toArray, List.set_cons_zero, List.set_cons_succ, i64_w, i32_w]
                        rfl
                       refine pure_ (i := 10) (N := some 101) (v := ?_) (a' := ?_) #[true, true, true, true, true, true, true, true, true, true, true, false] rfl rfl (any_of HT_.out (by kernel_rfl)) (fun _ _ _ h => h) (Or.inl ⟨by rfl, ?_⟩) ?_ ?_
                       rotate_left
                       ·intro w'
                        go_simp
                        with_reducible rfl
                       rotate_left
                       ·simp only [Act.put, List.setIfInBounds_toArray, List.set_cons_zero, List.set_cons_succ, i64_w, i32_w]
                        rfl
                       refine pure_ (i := 11) (N := some 8) (v := ?_) (a' := ?_) #[true, true, true, true, true, true, true, true, true, true, true, true] rfl rfl (any_of HT_.out (by kernel_rfl)) (fun _ _ _ h => h) (Or.inl ⟨by rfl, ?_⟩) ?_ ?_
                       rotate_left
                       ·intro w'
                        go_simp
                        with_reducible rfl
                       rotate_left
                       ·simp only [Act.put, List.setIfInBounds_toArray, List.set_cons_zero, List.set_cons_succ, i64_w, i32_w]
                        rfl
                       refine done_ (done_of HT_.out (by kernel_rfl)) ?_
                       try go_wp2
                       replace HO_49 := Aside0.mk (Kd.R_drew HO_49.out)
                       replace HO_59 := Aside0.mk (Kd.R_drew HO_59.out)
                       replace BK219 := Aside0.mk (blk_drew BK219.out)
                       replace BK220 := Aside0.mk (blk_drew BK220.out)
                       replace BK225 := Aside0.mk (blk_drew BK225.out)
                       replace BK244 := Aside0.mk (blk_drew BK244.out)
                       replace HB := Aside0.mk (below_drew1 HB.out)
                       refine start_ (n := 12) (S := fun w' => w'.cell? ⟨gb225, 0, none⟩ = some (.int .i64 t222) ∧ w'.cell? ⟨gb225, 1, none⟩ = some (.int .i64 t223) ∧ w'.cell? ⟨gb244, 0, none⟩ = some (.bool t237) ∧ w'.cell? ⟨gb244, 1, none⟩ = some (.int .i64 t238) ∧ w'.cell? ⟨gb244, 2, none⟩ = some (.int .i64 t239) ∧ w'.cell? ⟨gb244, 3, none⟩ = some (.int .i64 t240) ∧ w'.cell? ⟨gb244, 4, none⟩ = some (.int .i64 t241) ∧ w'.cell? ⟨gb244, 5, none⟩ = some (.int .i64 t242) ∧ w'.cell? ⟨gb244, 6, none⟩ = some (.int .i64 t243)) (ds := []) #[false, false, false, false, false, false, false, false, false, false, false, false] (by kernel_rfl) rfl rfl ⟨(blk_cell BK225.out 0).trans rfl, (blk_cell BK225.out 1).trans rfl, (blk_cell BK244.out 0).trans rfl, (blk_cell BK244.out 1).trans rfl, (blk_cell BK244.out 2).trans rfl, (blk_cell BK244.out 3).trans rfl, (blk_cell BK244.out 4).trans rfl, (blk_cell BK244.out 5).trans rfl, (blk_cell BK244.out 6).trans rfl⟩ (fun hHeld => ?_); refine with_tabW ephemerislaw2_IntervalDivs.tab23 ephemerislaw2_IntervalDivs.bits23 (fun HT_ HW_ => ?_)
                       generalize w102.drew = w103 at HO_49 HO_59 BK219 BK220 BK225 BK244 HB hHeld ⊢
                       refine pure_ (i := 0) (N := some 102) (v := ?_) (a' := ?_) #[true, false, false, false, false, false, false, false, false, false, false, false] rfl rfl (any_of HT_.out (by kernel_rfl)) (fun _ _ _ h => h) (Or.inl ⟨by rfl, ?_⟩) ?_ ?_
                       rotate_left
                       ·intro w'
                        go_simp
                        with_reducible rfl
                       rotate_left
                       ·simp only [Act.put, List.setIfInBounds_toArray, List.set_cons_zero, List.set_cons_succ, i64_w, i32_w]
                        rfl
                       refine pure_ (i := 1) (N := some 103) (v := ?_) (a' := ?_) #[true, true, false, false, false, false, false, false, false, false, false, false] rfl rfl (any_of HT_.out (by kernel_rfl)) (fun _ _ _ h => h) (Or.inl ⟨by rfl, ?_⟩) ?_ ?_
                       rotate_left
                       ·intro w'
                        go_simp
                        with_reducible rfl
                       rotate_left
                       ·simp only [Act.put, List.setIfInBounds_toArray, List.set_cons_zero, List.set_cons_succ, i64_w, i32_w]
                        rfl
                       refine pure_ (i := 2) (N := some 104) (v := ?_) (a' := ?_) #[true, true, true, false, false, false, false, false, false, false, false, false] rfl rfl (any_of HT_.out (by kernel_rfl)) (fun _ _ _ h => h) (Or.inl ⟨by rfl, ?_⟩) ?_ ?_
                       rotate_left
                       ·intro w'
                        go_simp
                        with_reducible rfl
                       rotate_left
                       ·simp only [Act.put, List.setIfInBounds_toArray, List.set_cons_zero, List.set_cons_succ, i64_w, i32_w]
                        rfl
                       refine pure_ (i := 5) (N := some 107) (v := ?_) (a' := ?_) #[true, true, true, false, false, true, false, false, false, false, false, false] rfl rfl (any_of HT_.out (by kernel_rfl)) (fun _ _ _ h => h) (Or.inl ⟨by rfl, ?_⟩) ?_ ?_
                       rotate_left
                       ·intro w'
                        go_simp
                        with_reducible rfl
                       rotate_left
                       ·simp only [Act.put, List.setIfInBounds_toArray, List.set_cons_zero, List.set_cons_succ, i64_w, i32_w]
                        rfl
                       refine take_ (i := 3) (N := some 105) (v := ?_) (a' := ?_) #[true, true, true, true, false, true, false, false, false, false, false, false] rfl rfl (take_ofW HT_.out HW_.out (by kernel_rfl)) (fun _ _ _ h => h) (Or.inl ⟨by rfl, ?_⟩) hHeld ?_ ?_
                       rotate_left
                       ·rintro w' ⟨s0, s1, s2, s3, s4, s5, s6, s7, s8⟩
                        go_simp
                        with_reducible rfl
                       rotate_left
                       ·simp only [Act.put, List.setIfInBounds_toArray, List.set_cons_zero, List.set_cons_succ, i64_w, i32_w]
                        rfl
                       refine pure_ (i := 4) (N := some 106) (v := ?_) (a' := ?_) #[true, true, true, true, true, true, false, false, false, false, false, false] rfl rfl (any_of HT_.out (by kernel_rfl)) (fun _ _ _ h => h) (Or.inl ⟨by rfl, ?_⟩) ?_ ?_
                       rotate_left
                       ·intro w'
                        go_simp
                        with_reducible rfl
                       rotate_left
                       ·simp only [Act.put, List.setIfInBounds_toArray, List.set_cons_zero, List.set_cons_succ, i64_w, i32_w]
                        rfl
                       refine take_ (i := 7) (N := some 109) (v := ?_) (a' := ?_) #[true, true, true, true, true, true, false, true, false, false, false, false] rfl rfl (take_ofW HT_.out HW_.out (by kernel_rfl)) (fun _ _ _ h => h) (Or.inl ⟨by rfl, ?_⟩) hHeld ?_ ?_
                       rotate_left
                       ·rintro w' ⟨s0, s1, s2, s3, s4, s5, s6, s7, s8⟩
                        go_simp
                        with_reducible rfl
                       rotate_left
                       ·simp only [Act.put, List.setIfInBounds_toArray, List.set_cons_zero, List.set_cons_succ, i64_w, i32_w]
                        rfl
                       refine one_ (i := 6) (N := some 108) #[true, true, true, true, true, true, true, true, false, false, false, false] rfl rfl (one_of HT_.out (by kernel_rfl)) (by decide) (fun K hK => ?_)
                       refine goes_ Try.func28 (by kernel_rfl) rfl #[.int .i64 (wrap64 (t223 - 1)), .int .i64 x15_54] (by rfl) rfl rfl (by (try simp only [List.map_toArray, List.map_cons, List.map_nil]); first | done | rfl | (simp only [List.length_drop, List.length_take]; rfl)) ?_
                       with_reducible refine (ephemerisref2_Product.calls kj57 (wrap64 (t223 - 1)) x15_54 t277 t278 t279 t280 t281 t282 t283 _ A98.out).mono ?_
                       rintro e w104 ⟨rfl, hb⟩
                       refine ⟨_, rfl, ?_⟩
                       have n0_ := Aside0.mk (Kd.R_below (by (with_reducible repeat (first | apply Kd.R_alloc | apply Kd.R_drewN | apply Kd.R_drew)); exact HO_49.out) hb)
                       have n1_ := Aside0.mk (Kd.R_below (by (with_reducible repeat (first | apply Kd.R_alloc | apply Kd.R_drewN | apply Kd.R_drew)); exact HO_59.out) hb)
                       have n2_ := kb_ BK219 hb
                       have n3_ := kb_ BK220 hb
                       have n4_ := kb_ BK225 hb
                       have n5_ := kb_ BK244 hb
                       have n6_ := bs_ HB hb
                       clear HO_49
                       clear HO_59
                       clear BK219
                       clear BK220
                       clear BK225
                       clear BK244
                       clear HB
                       have HO_49 := n0_
                       have HO_59 := n1_
                       have BK219 := n2_
                       have BK220 := n3_
                       have BK225 := n4_
                       have BK244 := n5_
                       have HB := n6_
                       clear n0_ n1_ n2_ n3_ n4_ n5_ n6_
                       (try clear hb)
                       (try clear hb2)
                       (try clear hk)
                       (try clear hi)
                       refine hK.out _ _ ⟨(blk_cell BK225.out 0).trans rfl, (blk_cell BK225.out 1).trans rfl, (blk_cell BK244.out 0).trans rfl, (blk_cell BK244.out 1).trans rfl, (blk_cell BK244.out 2).trans rfl, (blk_cell BK244.out 3).trans rfl, (blk_cell BK244.out 4).trans rfl, (blk_cell BK244.out 5).trans rfl, (blk_cell BK244.out 6).trans rfl⟩ (fun hHeld => ?_)
                       clear hK K
                       refine norm_ (a' := ?_) ?_ ?_
                       rotate_left
                       ·show Act.put _ (some 108) _ = _
                        simp only [Act.put, List.setIfInBounds_toArray, List.set_cons_zero, List.set_cons_succ, i64_w, i32_w]
                        rfl
                       refine one_ (i := 8) (N := some 110) #[true, true, true, true, true, true, true, true, true, false, false, false] rfl rfl (one_of HT_.out (by kernel_rfl)) (by decide) (fun K hK => ?_)
                       refine goes_ Try.func30 (by kernel_rfl) rfl #[.agg #[.bool t277, .int .i64 t278, .int .i64 t279, .int .i64 t280, .int .i64 t281, .int .i64 t282, .int .i64 t283], .agg #[.bool t237, .int .i64 t238, .int .i64 t239, .int .i64 t240, .int .i64 t241, .int .i64 t242, .int .i64 t243]] (by rfl) rfl rfl (by (try simp only [List.map_toArray, List.map_cons, List.map_nil]); first | done | rfl | (simp only [List.length_drop, List.length_take]; rfl)) ?_
                       with_reducible refine (ephemerisref2_Compare.calls kj57 t277 t278 t279 t280 t281 t282 t283 t237 t238 t239 t240 t241 t242 t243 t284 _ A99.out).mono ?_
                       rintro e w105 ⟨rfl, hb⟩
                       refine ⟨_, rfl, ?_⟩
                       have n0_ := Aside0.mk (Kd.R_below (by (with_reducible repeat (first | apply Kd.R_alloc | apply Kd.R_drewN | apply Kd.R_drew)); exact HO_49.out) hb)
                       have n1_ := Aside0.mk (Kd.R_below (by (with_reducible repeat (first | apply Kd.R_alloc | apply Kd.R_drewN | apply Kd.R_drew)); exact HO_59.out) hb)
                       have n2_ := kb_ BK219 hb
                       have n3_ := kb_ BK220 hb
                       have n4_ := kb_ BK225 hb
                       have n5_ := kb_ BK244 hb
                       have n6_ := bs_ HB hb
                       clear HO_49
                       clear HO_59
                       clear BK219
                       clear BK220
                       clear BK225
                       clear BK244
                       clear HB
                       have HO_49 := n0_
                       have HO_59 := n1_
                       have BK219 := n2_
                       have BK220 := n3_
                       have BK225 := n4_
                       have BK244 := n5_
                       have HB := n6_
                       clear n0_ n1_ n2_ n3_ n4_ n5_ n6_
                       (try clear hb)
                       (try clear hb2)
                       (try clear hk)
                       (try clear hi)
                       refine hK.out _ _ ⟨(blk_cell BK225.out 0).trans rfl, (blk_cell BK225.out 1).trans rfl, (blk_cell BK244.out 0).trans rfl, (blk_cell BK244.out 1).trans rfl, (blk_cell BK244.out 2).trans rfl, (blk_cell BK244.out 3).trans rfl, (blk_cell BK244.out 4).trans rfl, (blk_cell BK244.out 5).trans rfl, (blk_cell BK244.out 6).trans rfl⟩ (fun hHeld => ?_)
                       clear hK K
                       refine norm_ (a' := ?_) ?_ ?_
                       rotate_left
                       ·show Act.put _ (some 110) _ = _
                        simp only [Act.put, List.setIfInBounds_toArray, List.set_cons_zero, List.set_cons_succ, i64_w, i32_w]
                        rfl
                       refine pure_ (i := 9) (N := some 111) (v := ?_) (a' := ?_) #[true, true, true, true, true, true, true, true, true, true, false, false] rfl rfl (any_of HT_.out (by kernel_rfl)) (fun _ _ _ h => h) (Or.inl ⟨by rfl, ?_⟩) ?_ ?_
                       rotate_left
                       ·intro w'
                        go_simp
                        with_reducible rfl
                       rotate_left
                       ·simp only [Act.put, List.setIfInBounds_toArray, List.set_cons_zero, List.set_cons_succ, i64_w, i32_w]
                        rfl
                       refine pure_ (i := 10) (N := some 112) (v := ?_) (a' := ?_) #[true, true, true, true, true, true, true, true, true, true, true, false] rfl rfl (any_of HT_.out (by kernel_rfl)) (fun _ _ _ h => h) (Or.inl ⟨by rfl, ?_⟩) ?_ ?_
                       rotate_left
                       ·intro w'
                        go_simp
                        with_reducible rfl
                       rotate_left
                       ·simp only [Act.put, List.setIfInBounds_toArray, List.set_cons_zero, List.set_cons_succ, i64_w, i32_w]
                        rfl
                       refine pure_ (i := 11) (N := some 9) (v := ?_) (a' := ?_) #[true, true, true, true, true, true, true, true, true, true, true, true] rfl rfl (any_of HT_.out (by kernel_rfl)) (fun _ _ _ h => h) (Or.inl ⟨by rfl, ?_⟩) ?_ ?_
                       rotate_left
                       ·intro w'
                        go_simp
                        with_reducible rfl
                       rotate_left
                       ·simp only [Act.put, List.setIfInBounds_toArray, List.set_cons_zero, List.set_cons_succ, i64_w, i32_w]
                        rfl
                       refine done_ (done_of HT_.out (by kernel_rfl)) ?_
                       try go_wp2
                       go_roundg kj57
                       case measure => have := HJ22.out; have := HK2.out; have := HK3.out; have := HJ54.out; have := HJ57.out; omega
                       case rel => exact ⟨(decide (t276 > 0)), (decide (t284 < 0)), (wrap64 (x61_3 + 1)), (by first | rfl | (simp; done) | (simp [*]; done)), (by first | rfl | (simp; done) | (simp [*]; done)), (by first | rfl | (simp; done) | (simp [*]; done)), H', ⟨by have := HJ22.out; have := HK2.out; have := HK3.out; have := HJ54.out; have := HJ57.out; omega⟩, ⟨by (with_reducible repeat (first | apply Kd.R_alloc | apply Kd.R_drewN | apply Kd.R_drew)); exact HO_49.out⟩, ⟨by (with_reducible repeat (first | apply Kd.R_alloc | apply Kd.R_drewN | apply Kd.R_drew)); exact HO_59.out⟩, ⟨kk_ BK219⟩, ⟨kk_ BK220⟩, ⟨kk_ BK225⟩, (be_ HB)⟩
               ·rw [if_neg c54] at H
                exact absurd H (by simp)
              ·rw [if_neg c53] at H
               exact absurd H (by simp)
             ·rw [if_neg c52] at H
              have c52b0 : decide (x61_3 < (y233.length : Int)) = false := decide_eq_false c52
              clear c52
              have H' := Aside0.mk H
              clear H
              go_wp2
              go_roundg k3
              case measure => have := HJ22.out; have := HK2.out; have := HK3.out; omega
              case rel => exact ⟨(x8_3), (x9_3), (wrap64 (x51_2 + 1)), (by first | rfl | (simp; done) | (simp [*]; done)), (by first | rfl | (simp; done) | (simp [*]; done)), (by first | rfl | (simp; done) | (simp [*]; done)), H', ⟨by have := HJ22.out; have := HK2.out; have := HK3.out; omega⟩, ⟨by (with_reducible repeat (first | apply Kd.R_alloc | apply Kd.R_drewN | apply Kd.R_drew)); exact Kd.R_mono HO_49.out (fun _ hk => trivial)⟩, ⟨kk_ BK219⟩, ⟨kk_ BK220⟩, ⟨kk_ BK225⟩, (be_ HB)⟩
          ·rw [if_neg c45] at H
           exact absurd H (by simp)
         ·rw [if_neg c44] at H
          exact absurd H (by simp)
        ·rw [if_neg c43] at H
         have c43b0 : decide (x51_2 < (y229.length : Int)) = false := decide_eq_false c43
         clear c43
         by_cases c106 : t224 = 0
         ·rw [if_pos c106] at H
          have c106b0 : (t224 == 0) = true := beq_iff_eq.mpr c106
          have c106b1 : (t224 != 0) = false := bne_eq_false_iff_eq.mpr c106
          clear c106
          by_cases c107 : x8_2 = true
          ·subst c107
           have H1 : (some x9_2) = some r := by rw [if_pos rfl] at H; exact H
           clear H
           have H := H1
           clear H1
           obtain rfl := Option.some.inj H
           simp only [Option.some.injEq, Prod.mk.injEq] at H
           obtain ⟨rfl⟩ := H
           go_wp2
           go_ret
           exact ⟨by first | rfl | (simp [errW_none, errW_some] <;> rfl) | (simp [*, errW_none, errW_some] <;> rfl), (be_ HB).out⟩
          ·replace c107 := Bool.eq_false_iff.mpr c107
           subst c107
           have H1 : (some false) = some r := by rw [if_neg (show ¬ (false = true) by decide)] at H; exact H
           clear H
           have H := H1
           clear H1
           obtain rfl := Option.some.inj H
           exact absurd hT (by decide)
         ·rw [if_neg c106] at H
          have c106b0 : (t224 == 0) = false := beq_eq_false_iff_ne.mpr c106
          have c106b1 : (t224 != 0) = true := bne_iff_ne.mpr c106
          obtain rfl := Option.some.inj H
          exact absurd hT (by decide)
  ·rw [if_neg c22] at H
   have c22b0 : (t226 == 0) = false := beq_eq_false_iff_ne.mpr c22
   have c22b1 : (t226 != 0) = true := bne_iff_ne.mpr c22
   (first | rw [c22b0] | (simp only [i64_w, i32_w]; rw [c22b0]) | skip)
   replace H := Option.bind_eq_some_iff.mp H
   obtain ⟨t227, A1080, H⟩ := H
   replace H : (some t227) = some r := H
   have A108 := Aside0.mk A1080
   clear A1080
   obtain rfl := Option.some.inj H
   simp only [Option.some.injEq, Prod.mk.injEq] at H
   obtain ⟨rfl⟩ := H
   have hnb109 := NB225_219.out
   have hnc109 := NB219_225.out
   have hnb110 := NB225_220.out
   have hnc110 := NB220_225.out
   have hcz111_0 : w21.cell? ⟨gb225, 0, none⟩ = some (.int .i64 t222) := (blk_cell BK225.out 0).trans rfl
   have hcz111_1 : w21.cell? ⟨gb225, 1, none⟩ = some (.int .i64 t223) := (blk_cell BK225.out 1).trans rfl
   have hfz111_0 := blk_frozen BK225.out 0
   have hfz111_1 := blk_frozen BK225.out 1
   go_wp2_with (first | ((with_reducible refine gate_callee (f := 27) rfl ?_); refine goesL_ (some 33) rfl rfl Try.func27 (by kernel_rfl) rfl #[.agg #[.int .i64 t222, .int .i64 t223], .int .i64 t224, .int .i64 t226] rfl (by (try simp only [List.map_toArray, List.map_cons, List.map_nil]); first | done | rfl | (simp only [List.length_drop, List.length_take]; rfl)) ?_; (with_reducible refine (ephemerislaw2_none.calls t222 t223 t224 t226 t227 _ A108.out).mono ?_); rintro e w112 ⟨rfl, hb⟩; refine ⟨_, rfl, ?_⟩; replace BK219 := kb_ BK219 hb; replace BK220 := kb_ BK220 hb; replace BK225 := kb_ BK225 hb; replace HB := bs_ HB hb; (try clear hb); (try clear hb2); (try clear hk); (try clear hi)))
   go_ret
   exact ⟨by first | rfl | (simp [errW_none, errW_some] <;> rfl) | (simp [*, errW_none, errW_some] <;> rfl), (be_ HB).out⟩
 ·replace c4 := Bool.eq_false_iff.mpr c4
  subst c4
  have H1 : (some false) = some r := by rw [if_neg (show ¬ (false = true) by decide)] at H; exact H
  clear H
  have H := H1
  clear H1
  obtain rfl := Option.some.inj H
  exact absurd hT (by decide)
end Go.Proofs.Ytflnkfppkcjegaa.PAll
