/- Written by a program of this session out of the translation. -/
import Derived.Test.YtflnkfppkcjegaaIntervalMulsn14
import Derived.Test.YtflnkfppkcjegaaIntervalMulsn2
import Derived.Test.YtflnkfppkcjegaaIntervalMulsn3
import Derived.Test.YtflnkfppkcjegaaIntervalMulsn11
import Derived.Test.YtflnkfppkcjegaaIntervalMulsn13
namespace Go.Proofs.Ytflnkfppkcjegaa.PAll
open Go.RowKit Go.Proofs.YtflnkfppkcjegaaW.PrintWords Go.Proofs.YtflnkfppkcjegaaW.PrintLast Go.Proofs.YtflnkfppkcjegaaW.PrintMore Go.Proofs.Ytflnkfppkcjegaa.More2 Go.Proofs.Ytflnkfppkcjegaa.Sq
attribute [local go_sem] max2_int min2_int max_two min_two max_three min_three max_four min_four tdiv2e18_ tdiv1e18_ cellSS_  -- for this text's walks alone
set_option linter.unusedVariables false
set_option linter.unusedSimpArgs false
mutual
def ephemerislaw2_IntervalMuls.l0 : Nat → Int → Bool → Bool → List Int → Int → Int → Int → Int → Int → Int → Option (Bool)
 | 0, _, _, _, _, _, _, _, _, _, _ => none
 | k + 1, x6, x8, x9, x38, x39, x40, x178000, x178001, x183000, x183001 => if x40 < x39 then (if 0 ≤ x40 then (if x40 < (x38.length : Int) then ((some (([x178000, x178001] : List Int) : List Int)).bind fun y189 => (ephemerislaw2_IntervalMuls.l1 k x6 x8 x9 (rd x38 x40) x38 x39 x40 y189 (y189.length : Int) 0 x178000 x178001 x183000 x183001)) else (none)) else (none)) else (if x6 = 0 then (if x8 = true then (some x9) else (some false)) else (some false))
def ephemerislaw2_IntervalMuls.l1 : Nat → Int → Bool → Bool → Int → List Int → Int → Int → List Int → Int → Int → Int → Int → Int → Int → Option (Bool)
 | 0, _, _, _, _, _, _, _, _, _, _, _, _, _, _ => none
 | k + 1, x6, x8, x9, x11, x38, x39, x40, x48, x49, x50, x178000, x178001, x183000, x183001 => if x50 < x49 then (if 0 ≤ x50 then (if x50 < (x48.length : Int) then ((ephemerisref2_Product.f k x11 (rd x48 x50)).bind fun bt193 => ((ephemerisref2_Fine.f k bt193.1 bt193.2.1 bt193.2.2.1 bt193.2.2.2.1 bt193.2.2.2.2.1 bt193.2.2.2.2.2.1 bt193.2.2.2.2.2.2).bind fun t201 => (if t201 = true then ((ephemerisref2_ToWide.f k x183000).bind fun bt203 => ((ephemerisref2_Compare.f k bt203.1 bt203.2.1 bt203.2.2.1 bt203.2.2.2.1 bt203.2.2.2.2.1 bt203.2.2.2.2.2.1 bt203.2.2.2.2.2.2 bt193.1 bt193.2.1 bt193.2.2.1 bt193.2.2.2.1 bt193.2.2.2.2.1 bt193.2.2.2.2.2.1 bt193.2.2.2.2.2.2).bind fun t210 => ((ephemerisref2_ToWide.f k x183001).bind fun bt211 => ((ephemerisref2_Compare.f k bt193.1 bt193.2.1 bt193.2.2.1 bt193.2.2.2.1 bt193.2.2.2.2.1 bt193.2.2.2.2.2.1 bt193.2.2.2.2.2.2 bt211.1 bt211.2.1 bt211.2.2.1 bt211.2.2.2.1 bt211.2.2.2.2.1 bt211.2.2.2.2.2.1 bt211.2.2.2.2.2.2).bind fun t218 => (if x6 = 0 then (if t210 > 0 then (some false) else (if t218 > 0 then (some false) else (if x8 = true then (if x9 = true then (ephemerislaw2_IntervalMuls.l1 k x6 true true x11 x38 x39 x40 x48 x49 (wrap64 (x50 + 1)) x178000 x178001 x183000 x183001) else (ephemerislaw2_IntervalMuls.l1 k x6 true (t218 == 0) x11 x38 x39 x40 x48 x49 (wrap64 (x50 + 1)) x178000 x178001 x183000 x183001)) else (if x9 = true then (ephemerislaw2_IntervalMuls.l1 k x6 (t210 == 0) true x11 x38 x39 x40 x48 x49 (wrap64 (x50 + 1)) x178000 x178001 x183000 x183001) else (ephemerislaw2_IntervalMuls.l1 k x6 (t210 == 0) (t218 == 0) x11 x38 x39 x40 x48 x49 (wrap64 (x50 + 1)) x178000 x178001 x183000 x183001))))) else (if x8 = true then (if x9 = true then (ephemerislaw2_IntervalMuls.l1 k x6 true true x11 x38 x39 x40 x48 x49 (wrap64 (x50 + 1)) x178000 x178001 x183000 x183001) else (ephemerislaw2_IntervalMuls.l1 k x6 true (t218 == 0) x11 x38 x39 x40 x48 x49 (wrap64 (x50 + 1)) x178000 x178001 x183000 x183001)) else (if x9 = true then (ephemerislaw2_IntervalMuls.l1 k x6 (t210 == 0) true x11 x38 x39 x40 x48 x49 (wrap64 (x50 + 1)) x178000 x178001 x183000 x183001) else (ephemerislaw2_IntervalMuls.l1 k x6 (t210 == 0) (t218 == 0) x11 x38 x39 x40 x48 x49 (wrap64 (x50 + 1)) x178000 x178001 x183000 x183001)))))))) else ((ephemerislaw2_none.f x183000 x183001 x6 14).bind fun t202 => (some t202))))) else (none)) else (none)) else (ephemerislaw2_IntervalMuls.l0 k x6 x8 x9 x38 x39 (wrap64 (x40 + 1)) x178000 x178001 x183000 x183001)
end
def ephemerislaw2_IntervalMuls.f (k : Nat) (a0_0 : Int) (a0_1 : Int) (a1_0 : Int) (a1_1 : Int) : Option (Bool) := (ephemerislaw2_intervalWorks.f k).bind fun t178 => (if t178 = true then ((interval_Mul.f k a0_0 a0_1 a1_0 a1_1).bind fun bt179 => ((ephemerisref2_TwoErr.f k a0_0 a0_1 a1_0 a1_1).bind fun t183 => (if t183 = 0 then ((some (([a0_0, a0_1] : List Int) : List Int)).bind fun y185 => (ephemerislaw2_IntervalMuls.l0 k bt179.2.2 false false y185 (y185.length : Int) 0 a1_0 a1_1 bt179.1 bt179.2.1)) else ((ephemerislaw2_none.f bt179.1 bt179.2.1 bt179.2.2 t183).bind fun t184 => (some t184))))) else (some false))
def ephemerislaw2_IntervalMuls.T17 : Bool × List (List Nat × List Nat) := (true, [([], []), ([0], [0]), ([1], [1]), ([], []), ([2, 3, 2], [2, 3]), ([], []), ([], []), ([6], [6]), ([7, 4], [7]), ([5, 8, 8], [5, 8]), ([4, 9, 0, 1, 2, 3, 4], [4]), ([9, 10, 0, 1, 2, 3, 4, 5, 6, 7, 8, 9, 10], [9])])
def ephemerislaw2_IntervalMuls.B17 : List Nat := [0, 1, 3, 0, 15, 0, 0, 64, 223, 511, 1023, 2047]
theorem ephemerislaw2_IntervalMuls.tab17 : rtab .any (opsOf Try.f5 17) = ephemerislaw2_IntervalMuls.T17 := by kernel_rfl
theorem ephemerislaw2_IntervalMuls.bits17 : waitsOk ephemerislaw2_IntervalMuls.T17.2 ephemerislaw2_IntervalMuls.B17 = true := by kernel_rfl
set_option maxHeartbeats 8000000 in
set_option maxRecDepth 100000 in
theorem ephemerislaw2_IntervalMuls.calls (k : Nat) (a0_0 : Int) (a0_1 : Int) (a1_0 : Int) (a1_1 : Int) (r : Bool) (w : World) (h : ephemerislaw2_IntervalMuls.f k a0_0 a0_1 a1_0 a1_1 = some r) (hT : r = true) :
  Calls Try.prog 5 #[.agg #[.int .i64 a0_0, .int .i64 a0_1], .agg #[.int .i64 a1_0, .int .i64 a1_1]] w fun e w' => e = .returned (.bool r) ∧ Below w.heap.size w w' := by
 have hu37 := Try.underlying37
 have hu46 := Try.underlying46
 have HB := Aside0.mk (Below.refl w.heap.size w)
 have H : ((ephemerislaw2_intervalWorks.f k).bind fun t178 => (if t178 = true then ((interval_Mul.f k a0_0 a0_1 a1_0 a1_1).bind fun bt179 => ((ephemerisref2_TwoErr.f k a0_0 a0_1 a1_0 a1_1).bind fun t183 => (if t183 = 0 then ((some (([a0_0, a0_1] : List Int) : List Int)).bind fun y185 => (ephemerislaw2_IntervalMuls.l0 k bt179.2.2 false false y185 (y185.length : Int) 0 a1_0 a1_1 bt179.1 bt179.2.1)) else ((ephemerislaw2_none.f bt179.1 bt179.2.1 bt179.2.2 t183).bind fun t184 => (some t184))))) else (some false))) = some r := h
 clear h
 replace H := Option.bind_eq_some_iff.mp H
 obtain ⟨t178, A30, H⟩ := H
 replace H : (if t178 = true then ((interval_Mul.f k a0_0 a0_1 a1_0 a1_1).bind fun bt179 => ((ephemerisref2_TwoErr.f k a0_0 a0_1 a1_0 a1_1).bind fun t183 => (if t183 = 0 then ((some (([a0_0, a0_1] : List Int) : List Int)).bind fun y185 => (ephemerislaw2_IntervalMuls.l0 k bt179.2.2 false false y185 (y185.length : Int) 0 a1_0 a1_1 bt179.1 bt179.2.1)) else ((ephemerislaw2_none.f bt179.1 bt179.2.1 bt179.2.2 t183).bind fun t184 => (some t184))))) else (some false)) = some r := H
 have A3 := Aside0.mk A30
 clear A30
 by_cases c4 : t178 = true
 ·subst c4
  have H1 : ((interval_Mul.f k a0_0 a0_1 a1_0 a1_1).bind fun bt179 => ((ephemerisref2_TwoErr.f k a0_0 a0_1 a1_0 a1_1).bind fun t183 => (if t183 = 0 then ((some (([a0_0, a0_1] : List Int) : List Int)).bind fun y185 => (ephemerislaw2_IntervalMuls.l0 k bt179.2.2 false false y185 (y185.length : Int) 0 a1_0 a1_1 bt179.1 bt179.2.1)) else ((ephemerislaw2_none.f bt179.1 bt179.2.1 bt179.2.2 t183).bind fun t184 => (some t184))))) = some r := by rw [if_pos rfl] at H; exact H
  clear H
  have H := H1
  clear H1
  replace H := Option.bind_eq_some_iff.mp H
  obtain ⟨⟨t179, t180, t181⟩, A50, H⟩ := H
  replace H : ((ephemerisref2_TwoErr.f k a0_0 a0_1 a1_0 a1_1).bind fun t183 => (if t183 = 0 then ((some (([a0_0, a0_1] : List Int) : List Int)).bind fun y185 => (ephemerislaw2_IntervalMuls.l0 k t181 false false y185 (y185.length : Int) 0 a1_0 a1_1 t179 t180)) else ((ephemerislaw2_none.f t179 t180 t181 t183).bind fun t184 => (some t184)))) = some r := H
  have A5 := Aside0.mk A50
  clear A50
  replace H := Option.bind_eq_some_iff.mp H
  obtain ⟨t183, A60, H⟩ := H
  replace H : (if t183 = 0 then ((some (([a0_0, a0_1] : List Int) : List Int)).bind fun y185 => (ephemerislaw2_IntervalMuls.l0 k t181 false false y185 (y185.length : Int) 0 a1_0 a1_1 t179 t180)) else ((ephemerislaw2_none.f t179 t180 t181 t183).bind fun t184 => (some t184))) = some r := H
  have A6 := Aside0.mk A60
  clear A60
  have HC7 := Aside0.mk H
  clear H
  go_enter Try.func5, Try.ntmps5
  go_upto_if 29 with (first | ((with_reducible refine gate_dst (N := 2) rfl ?_); refine box_event ?hg (N := 2) ?hd (cs := #[.int .i64 a0_0, .int .i64 a0_1]) (t := 37) ?hr ?_; (case hd => rfl); (case hg => rfl); (case hr => first | (go_simp; done) | (go_simp; rfl)); intro gb176 hg w8 hbox hb; have BK176 := Aside0.mk (hbox); have GW176 := ge_ hg HB; have GE176 := ge_ hg HB; replace HB := bs_ HB hb; clear hb hbox hg) | ((with_reducible refine gate_dst (N := 3) rfl ?_); refine box_event ?hg (N := 3) ?hd (cs := #[.int .i64 a1_0, .int .i64 a1_1]) (t := 37) ?hr ?_; (case hd => rfl); (case hg => rfl); (case hr => first | (go_simp; done) | (go_simp; rfl)); intro gb177 hg w9 hbox hb; have BK177 := Aside0.mk (hbox); have GW177 := ge_ hg HB; have GE177 := ge_ hg HB; have NB176_177 := nl_ hg BK176; have NB177_176 := ng_ hg BK176; replace BK176 := kb_ BK176 hb; replace HB := bs_ HB hb; clear hb hbox hg) | ((with_reducible refine gate_callee (f := 22) rfl ?_); refine goesL_ (some 17) rfl rfl Try.func22 (by kernel_rfl) rfl #[] rfl (by (try simp only [List.map_toArray, List.map_cons, List.map_nil]); first | done | rfl | (simp only [List.length_drop, List.length_take]; rfl)) ?_; (with_reducible refine (ephemerislaw2_intervalWorks.calls k  true _ A3.out rfl).mono ?_); rintro e w10 ⟨rfl, hb⟩; refine ⟨_, rfl, ?_⟩; replace BK176 := kb_ BK176 hb; replace BK177 := kb_ BK177 hb; replace HB := bs_ HB hb; (try clear hb); (try clear hb2); (try clear hk); (try clear hi); have hnb11 := NB176_177.out; have hnc11 := NB177_176.out; have hcz12_0 : w10.cell? ⟨gb176, 0, none⟩ = some (.int .i64 a0_0) := (blk_cell BK176.out 0).trans rfl; have hcz12_1 : w10.cell? ⟨gb176, 1, none⟩ = some (.int .i64 a0_1) := (blk_cell BK176.out 1).trans rfl; have hfz12_0 := blk_frozen BK176.out 0; have hfz12_1 := blk_frozen BK176.out 1; have hcz13_0 : w10.cell? ⟨gb177, 0, none⟩ = some (.int .i64 a1_0) := (blk_cell BK177.out 0).trans rfl; have hcz13_1 : w10.cell? ⟨gb177, 1, none⟩ = some (.int .i64 a1_1) := (blk_cell BK177.out 1).trans rfl; have hfz13_0 := blk_frozen BK177.out 0; have hfz13_1 := blk_frozen BK177.out 1) | ((with_reducible refine gate_callee (f := 25) rfl ?_); refine goesL_ (some 22) rfl rfl Try.func25 (by kernel_rfl) rfl #[.agg #[.int .i64 a0_0, .int .i64 a0_1], .agg #[.int .i64 a1_0, .int .i64 a1_1]] rfl (by (try simp only [List.map_toArray, List.map_cons, List.map_nil]); first | done | rfl | (simp only [List.length_drop, List.length_take]; rfl)) ?_; (with_reducible refine (interval_Mul.calls k a0_0 a0_1 a1_0 a1_1 t179 t180 t181 _ A5.out).mono ?_); rintro e w14 ⟨rfl, hb⟩; refine ⟨_, rfl, ?_⟩; replace BK176 := kb_ BK176 hb; replace BK177 := kb_ BK177 hb; replace HB := bs_ HB hb; (try clear hb); (try clear hb2); (try clear hk); (try clear hi)) | ((with_reducible refine gate_dst (N := 5) rfl ?_); refine box_event ?hg (N := 5) ?hd (cs := #[.int .i64 0, .int .i64 0]) (t := 37) ?hr ?_; (case hd => rfl); (case hg => rfl); (case hr => first | (go_simp; done) | (go_simp; rfl)); intro gb182 hg w15 hbox hb; have BK182 := Aside0.mk (hbox); have GW182 := ge_ hg HB; have GE182 := ge_ hg HB; have NB176_182 := nl_ hg BK176; have NB182_176 := ng_ hg BK176; have NB177_182 := nl_ hg BK177; have NB182_177 := ng_ hg BK177; replace BK176 := kb_ BK176 hb; replace BK177 := kb_ BK177 hb; replace HB := bs_ HB hb; clear hb hbox hg; have hnb16 := NB182_176.out; have hnc16 := NB176_182.out; have hnb17 := NB182_177.out; have hnc17 := NB177_182.out; have hcz18_0 : w15.cell? ⟨gb182, 0, none⟩ = some (.int .i64 0) := (blk_cell BK182.out 0).trans rfl; have hcz18_1 : w15.cell? ⟨gb182, 1, none⟩ = some (.int .i64 0) := (blk_cell BK182.out 1).trans rfl; have hfz18_0 := blk_frozen BK182.out 0; have hfz18_1 := blk_frozen BK182.out 1; have hcz19_0 : w15.cell? ⟨gb176, 0, none⟩ = some (.int .i64 a0_0) := (blk_cell BK176.out 0).trans rfl; have hcz19_1 : w15.cell? ⟨gb176, 1, none⟩ = some (.int .i64 a0_1) := (blk_cell BK176.out 1).trans rfl; have hfz19_0 := blk_frozen BK176.out 0; have hfz19_1 := blk_frozen BK176.out 1; have hcz20_0 : w15.cell? ⟨gb177, 0, none⟩ = some (.int .i64 a1_0) := (blk_cell BK177.out 0).trans rfl; have hcz20_1 : w15.cell? ⟨gb177, 1, none⟩ = some (.int .i64 a1_1) := (blk_cell BK177.out 1).trans rfl; have hfz20_0 := blk_frozen BK177.out 0; have hfz20_1 := blk_frozen BK177.out 1) | ((with_reducible refine gate_callee (f := 26) rfl ?_); refine goesL_ (some 27) rfl rfl Try.func26 (by kernel_rfl) rfl #[.agg #[.int .i64 a0_0, .int .i64 a0_1], .agg #[.int .i64 a1_0, .int .i64 a1_1]] rfl (by (try simp only [List.map_toArray, List.map_cons, List.map_nil]); first | done | rfl | (simp only [List.length_drop, List.length_take]; rfl)) ?_; (with_reducible refine (ephemerisref2_TwoErr.calls k a0_0 a0_1 a1_0 a1_1 t183 _ A6.out).mono ?_); rintro e w21 ⟨rfl, hb⟩; refine ⟨_, rfl, ?_⟩; have n0_ := kb_ BK176 hb; have n1_ := kb_ BK177 hb; have n2_ := Aside0.mk (blk_below (g := gb182) (o := .cells #[.int .i64 t179, .int .i64 t180] 37 (0, 0)) (by (with_reducible repeat (first | refine blk_drewN ?_ _ | refine blk_drew ?_ | refine blk_alloc ?_ _)); refine blk_put (cs := #[.int .i64 t179, .int .i64 0]) ?_ 1 _ rfl; (with_reducible repeat (first | refine blk_drewN ?_ _ | refine blk_drew ?_ | refine blk_alloc ?_ _)); refine blk_put (cs := #[.int .i64 0, .int .i64 0]) ?_ 0 _ rfl; (with_reducible repeat (first | refine blk_drewN ?_ _ | refine blk_drew ?_ | refine blk_alloc ?_ _)); exact BK182.out) hb); have n3_ := bs_ HB hb; clear BK176; clear BK177; clear BK182; clear HB; have BK176 := n0_; have BK177 := n1_; have BK182 := n2_; have HB := n3_; clear n0_ n1_ n2_ n3_; (try clear hb); (try clear hb2); (try clear hk); (try clear hi)))
  (try simp only [Act.put, List.setIfInBounds_toArray, List.set_cons_zero, List.set_cons_succ])
  have H := HC7.out
  clear HC7
  by_cases c22 : t183 = 0
  ·rw [if_pos c22] at H
   have c22b0 : (t183 == 0) = true := beq_iff_eq.mpr c22
   have c22b1 : (t183 != 0) = false := bne_eq_false_iff_eq.mpr c22
   clear c22
   (first | rw [c22b0] | (simp only [i64_w, i32_w]; rw [c22b0]) | skip)
   obtain ⟨y185, hy185⟩ : ∃ y_ : List Int, y_ = (([a0_0, a0_1] : List Int)) := ⟨_, rfl⟩
   replace H : (ephemerislaw2_IntervalMuls.l0 k t181 false false y185 (y185.length : Int) 0 a1_0 a1_1 t179 t180) = some r := by first | (rw [hy185]; with_reducible exact H) | (have H2_ := (Option.bind_some _ _).symm.trans H; rw [hy185]; with_reducible exact H2_) | (have H2_ := (Option.bind_some _ _).symm.trans H; with_reducible exact H2_) | with_reducible exact H | (rw [hy185]; exact H) | exact H
   have Ny185 := Aside0.mk hy185
   clear hy185
   have H' := Aside0.mk H
   clear H
   have hnb23 := NB176_177.out
   have hnc23 := NB177_176.out
   have hnb24 := NB176_182.out
   have hnc24 := NB182_176.out
   have hcz25_0 : w21.cell? ⟨gb176, 0, none⟩ = some (.int .i64 a0_0) := (blk_cell BK176.out 0).trans rfl
   have hcz25_1 : w21.cell? ⟨gb176, 1, none⟩ = some (.int .i64 a0_1) := (blk_cell BK176.out 1).trans rfl
   have hfz25_0 := blk_frozen BK176.out 0
   have hfz25_1 := blk_frozen BK176.out 1
   go_wp2_with (first | ((with_reducible refine gate_dst (N := 38) rfl ?_); refine Kd.R_lit (Kd.int .i64) _ 3 ?hg (N := 38) ?hd (xs := ([a0_0, a0_1] : List Int)) (inner := [.int .i64 a0_0, .int .i64 a0_1]) (ok := fun _ => True) (okp := fun _ => True) ?hr ?hp (fun _ hk => hk) trivial (Below.refl _ _) (Nat.le_refl _) (by simp) ?_; (case hd => rfl); (case hg => rfl); (case hr => first | (go_simp; done) | (go_simp; rfl)); (case hp => exact (Reps.one (show Kd.M (Kd.int .i64) _ _ _ a0_0 [.int .i64 a0_0] from rfl) (Reps.one (show Kd.M (Kd.int .i64) _ _ _ a0_1 [.int .i64 a0_1] from rfl) (Reps.none _ _)))); intro v186 w26 ho27 hb hg_ hnew_; clear hg_ hnew_; (first | rw [← Ny185.out] at ho27 | (simp only [Int.reduceToNat] at ho27; rw [← Ny185.out] at ho27)); have HO187 := Aside0.mk (Kd.R_lower ho27 (below_size (be_ HB).out)); replace BK176 := kb_ BK176 hb; replace BK177 := kb_ BK177 hb; replace BK182 := kb_ BK182 hb; replace HB := bs_ HB hb; clear hb ho27; obtain ⟨Ao28, co28, eo28⟩ := Kd.R_slice HO187.out; subst eo28))
   go_loopg [8, 9, 40] k (fun kq v8 v9 v40 w' => ∃ (x8_1 : Bool) (x9_1 : Bool) (x40_1 : Int), v8 = .bool x8_1 ∧ v9 = .bool x9_1 ∧ v40 = .int .i64 x40_1 ∧ Aside0 (ephemerislaw2_IntervalMuls.l0 kq t181 x8_1 x9_1 y185 (y185.length : Int) x40_1 a1_0 a1_1 t179 t180 = some r) ∧ Aside0 (kq ≤ k) ∧ Aside0 (Kd.R (Kd.int .i64) 3 w' w.heap.size (fun _ => True) (.slice Ao28 y185.length co28) y185) ∧ Aside0 (w'.heap[gb176]? = some (.cells #[.int .i64 a0_0, .int .i64 a0_1] 37 (0, 0))) ∧ Aside0 (w'.heap[gb177]? = some (.cells #[.int .i64 a1_0, .int .i64 a1_1] 37 (0, 0))) ∧ Aside0 (w'.heap[gb182]? = some (.cells #[.int .i64 t179, .int .i64 t180] 37 (0, 0))) ∧ Aside0 (Below w.heap.size w w'))
   case atStart => exact ⟨(false), (false), (0), (by first | rfl | (simp; done) | (simp [*]; done)), (by first | rfl | (simp; done) | (simp [*]; done)), (by first | rfl | (simp; done) | (simp [*]; done)), H', ⟨Nat.le_refl _⟩, ⟨by (with_reducible repeat (first | apply Kd.R_alloc | apply Kd.R_drewN | apply Kd.R_drew)); exact HO187.out⟩, ⟨kk_ BK176⟩, ⟨kk_ BK177⟩, ⟨kk_ BK182⟩, (be_ HB)⟩
   case round =>
    clear H'
    try clear c1
    try clear c2
    try clear p2
    try clear c4
    try clear c5
    try clear c11
    try clear c16
    try clear c17
    try clear c22
    try clear c22b0
    try clear c22b1
    try clear c23
    try clear c24
    try clear c25
    try clear c26
    try clear hcz12_0
    try clear hcz12_1
    try clear hcz13_0
    try clear hcz13_1
    try clear hcz18_0
    try clear hcz18_1
    try clear hcz19_0
    try clear hcz19_1
    try clear hcz20_0
    try clear hcz20_1
    try clear hcz25_0
    try clear hcz25_1
    try clear hfz12_0
    try clear hfz12_1
    try clear hfz13_0
    try clear hfz13_1
    try clear hfz18_0
    try clear hfz18_1
    try clear hfz19_0
    try clear hfz19_1
    try clear hfz20_0
    try clear hfz20_1
    try clear hfz25_0
    try clear hfz25_1
    obtain ⟨x8_1, x9_1, x40_1, rfl, rfl, rfl, HA, HK1, HO_38, BK176, BK177, BK182, HB⟩ := hrel
    cases gk with
    | zero => exact absurd HA.out (by simp [ephemerislaw2_IntervalMuls.l0])
    | succ k1 =>
     have H := HA.out
     clear HA
     simp only [ephemerislaw2_IntervalMuls.l0] at H
     by_cases c29 : x40_1 < (y185.length : Int)
     ·rw [if_pos c29] at H
      have c29b0 : decide (x40_1 < (y185.length : Int)) = true := decide_eq_true c29
      clear c29
      by_cases c30 : 0 ≤ x40_1
      ·rw [if_pos c30] at H
       have c30b0 : decide (0 ≤ x40_1) = true := decide_eq_true c30
       clear c30
       by_cases c31 : x40_1 < (y185.length : Int)
       ·rw [if_pos c31] at H
        have c31b0 : decide (x40_1 < (y185.length : Int)) = true := decide_eq_true c31
        clear c31
        obtain ⟨y189, hy189⟩ : ∃ y_ : List Int, y_ = (([a1_0, a1_1] : List Int)) := ⟨_, rfl⟩
        replace H : (ephemerislaw2_IntervalMuls.l1 k1 t181 x8_1 x9_1 (rd y185 x40_1) y185 (y185.length : Int) x40_1 y189 (y189.length : Int) 0 a1_0 a1_1 t179 t180) = some r := by first | (rw [hy189]; with_reducible exact H) | (have H2_ := (Option.bind_some _ _).symm.trans H; rw [hy189]; with_reducible exact H2_) | (have H2_ := (Option.bind_some _ _).symm.trans H; with_reducible exact H2_) | with_reducible exact H | (rw [hy189]; exact H) | exact H
        have Ny189 := Aside0.mk hy189
        clear hy189
        have H' := Aside0.mk H
        clear H
        have p188 : 0 ≤ (x40_1 : Int) := of_decide_eq_true (by first | (with_reducible assumption) | assumption)
        have q188 : x40_1 < (y185.length : Int) := of_decide_eq_true (by first | (with_reducible assumption) | assumption)
        obtain ⟨ad188, e188, hx188_0⟩ := Kd.at_int (Kd.R_reads' HO_38.out).2.2 x40_1 p188 q188
        cases e188
        replace p188 := eq_true p188
        replace q188 := eq_true q188
        have hnb32 := NB177_176.out
        have hnc32 := NB176_177.out
        have hnb33 := NB177_182.out
        have hnc33 := NB182_177.out
        have hcz34_0 : wr.cell? ⟨gb177, 0, none⟩ = some (.int .i64 a1_0) := (blk_cell BK177.out 0).trans rfl
        have hcz34_1 : wr.cell? ⟨gb177, 1, none⟩ = some (.int .i64 a1_1) := (blk_cell BK177.out 1).trans rfl
        have hfz34_0 := blk_frozen BK177.out 0
        have hfz34_1 := blk_frozen BK177.out 1
        go_wp2_with (first | ((with_reducible refine gate_dst (N := 48) rfl ?_); refine Kd.R_lit (Kd.int .i64) _ 3 ?hg (N := 48) ?hd (xs := ([a1_0, a1_1] : List Int)) (inner := [.int .i64 a1_0, .int .i64 a1_1]) (ok := fun _ => True) (okp := fun _ => True) ?hr ?hp (fun _ hk => hk) trivial (Below.refl _ _) (Nat.le_refl _) (by simp) ?_; (case hd => rfl); (case hg => rfl); (case hr => first | (go_simp; done) | (go_simp; rfl)); (case hp => exact (Reps.one (show Kd.M (Kd.int .i64) _ _ _ a1_0 [.int .i64 a1_0] from rfl) (Reps.one (show Kd.M (Kd.int .i64) _ _ _ a1_1 [.int .i64 a1_1] from rfl) (Reps.none _ _)))); intro v190 w35 ho36 hb hg_ hnew_; clear hg_ hnew_; (first | rw [← Ny189.out] at ho36 | (simp only [Int.reduceToNat] at ho36; rw [← Ny189.out] at ho36)); have n0_ := Aside0.mk (Kd.R_elder' (by (with_reducible repeat (first | apply Kd.R_alloc | apply Kd.R_drewN | apply Kd.R_drew)); exact HO_38.out) (Kd.R_base ho36) hb); have n1_ := Aside0.mk (Kd.R_lower (Kd.R_new' ho36 (Kd.R_lt (by (with_reducible repeat (first | apply Kd.R_alloc | apply Kd.R_drewN | apply Kd.R_drew)); exact HO_38.out))) (below_size (be_ HB).out)); have n2_ := kb_ BK176 hb; have n3_ := kb_ BK177 hb; have n4_ := kb_ BK182 hb; have n5_ := bs_ HB hb; clear HO_38; clear BK176; clear BK177; clear BK182; clear HB; have HO_38 := n0_; have HO191 := n1_; have BK176 := n2_; have BK177 := n3_; have BK182 := n4_; have HB := n5_; clear n0_ n1_ n2_ n3_ n4_ n5_; clear hb ho36; obtain ⟨Ao37, co37, eo37⟩ := Kd.R_slice HO191.out; subst eo37))
        go_loopg [8, 9, 50] k1 (fun kq v8 v9 v50 w' => ∃ (x8_2 : Bool) (x9_2 : Bool) (x50_2 : Int), v8 = .bool x8_2 ∧ v9 = .bool x9_2 ∧ v50 = .int .i64 x50_2 ∧ Aside0 (ephemerislaw2_IntervalMuls.l1 kq t181 x8_2 x9_2 (rd y185 x40_1) y185 (y185.length : Int) x40_1 y189 (y189.length : Int) x50_2 a1_0 a1_1 t179 t180 = some r) ∧ Aside0 (kq ≤ k1) ∧ Aside0 (Kd.R (Kd.int .i64) 3 w' w.heap.size (fun k_ => some k_ ≠ ((.slice Ao37 y189.length co37) : Value).ownBlock) (.slice (some ad188) y185.length co28) y185) ∧ Aside0 (Kd.R (Kd.int .i64) 3 w' w.heap.size (fun k_ => some k_ ≠ ((.slice (some ad188) y185.length co28) : Value).ownBlock) (.slice Ao37 y189.length co37) y189) ∧ Aside0 (w'.heap[gb176]? = some (.cells #[.int .i64 a0_0, .int .i64 a0_1] 37 (0, 0))) ∧ Aside0 (w'.heap[gb177]? = some (.cells #[.int .i64 a1_0, .int .i64 a1_1] 37 (0, 0))) ∧ Aside0 (w'.heap[gb182]? = some (.cells #[.int .i64 t179, .int .i64 t180] 37 (0, 0))) ∧ Aside0 (Below w.heap.size w w'))
        case atStart => exact ⟨(x8_1), (x9_1), (0), (by first | rfl | (simp; done) | (simp [*]; done)), (by first | rfl | (simp; done) | (simp [*]; done)), (by first | rfl | (simp; done) | (simp [*]; done)), H', ⟨Nat.le_refl _⟩, ⟨by (with_reducible repeat (first | apply Kd.R_alloc | apply Kd.R_drewN | apply Kd.R_drew)); exact Kd.R_mono HO_38.out (fun _ hk => hk.2)⟩, ⟨by (with_reducible repeat (first | apply Kd.R_alloc | apply Kd.R_drewN | apply Kd.R_drew)); exact Kd.R_mono HO191.out (fun _ hk => hk.2)⟩, ⟨kk_ BK176⟩, ⟨kk_ BK177⟩, ⟨kk_ BK182⟩, (be_ HB)⟩
        case round =>
         clear H'
         try clear c1
         try clear p1
         try clear q1
         try clear hx1
         try clear c2
         try clear p2
         try clear c3
         try clear c4
         try clear c5
         try clear c11
         try clear c16
         try clear c17
         try clear p18
         try clear q18
         try clear hx18
         try clear c22
         try clear c22b0
         try clear c22b1
         try clear c23
         try clear c24
         try clear c25
         try clear c26
         try clear c29
         try clear c29b0
         try clear c30
         try clear c30b0
         try clear c31
         try clear c31b0
         try clear c32
         try clear c33
         try clear hcz12_0
         try clear hcz12_1
         try clear hcz13_0
         try clear hcz13_1
         try clear hcz18_0
         try clear hcz18_1
         try clear hcz19_0
         try clear hcz19_1
         try clear hcz20_0
         try clear hcz20_1
         try clear hcz25_0
         try clear hcz25_1
         try clear hcz34_0
         try clear hcz34_1
         try clear hfz12_0
         try clear hfz12_1
         try clear hfz13_0
         try clear hfz13_1
         try clear hfz18_0
         try clear hfz18_1
         try clear hfz19_0
         try clear hfz19_1
         try clear hfz20_0
         try clear hfz20_1
         try clear hfz25_0
         try clear hfz25_1
         try clear hfz34_0
         try clear hfz34_1
         try clear hx188_0
         try clear p188
         try clear p2
         try clear q188
         obtain ⟨x8_2, x9_2, x50_2, rfl, rfl, rfl, HA, HK2, HO_38, HO_48, BK176, BK177, BK182, HB⟩ := hrel
         cases gk with
         | zero => exact absurd HA.out (by simp [ephemerislaw2_IntervalMuls.l1])
         | succ k2 =>
          have H := HA.out
          clear HA
          simp only [ephemerislaw2_IntervalMuls.l1] at H
          by_cases c38 : x50_2 < (y189.length : Int)
          ·rw [if_pos c38] at H
           have c38b0 : decide (x50_2 < (y189.length : Int)) = true := decide_eq_true c38
           clear c38
           by_cases c39 : 0 ≤ x50_2
           ·rw [if_pos c39] at H
            have c39b0 : decide (0 ≤ x50_2) = true := decide_eq_true c39
            clear c39
            by_cases c40 : x50_2 < (y189.length : Int)
            ·rw [if_pos c40] at H
             have c40b0 : decide (x50_2 < (y189.length : Int)) = true := decide_eq_true c40
             clear c40
             replace H := Option.bind_eq_some_iff.mp H
             obtain ⟨⟨t193, t194, t195, t196, t197, t198, t199⟩, A410, H⟩ := H
             replace H : ((ephemerisref2_Fine.f k2 t193 t194 t195 t196 t197 t198 t199).bind fun t201 => (if t201 = true then ((ephemerisref2_ToWide.f k2 t179).bind fun bt203 => ((ephemerisref2_Compare.f k2 bt203.1 bt203.2.1 bt203.2.2.1 bt203.2.2.2.1 bt203.2.2.2.2.1 bt203.2.2.2.2.2.1 bt203.2.2.2.2.2.2 t193 t194 t195 t196 t197 t198 t199).bind fun t210 => ((ephemerisref2_ToWide.f k2 t180).bind fun bt211 => ((ephemerisref2_Compare.f k2 t193 t194 t195 t196 t197 t198 t199 bt211.1 bt211.2.1 bt211.2.2.1 bt211.2.2.2.1 bt211.2.2.2.2.1 bt211.2.2.2.2.2.1 bt211.2.2.2.2.2.2).bind fun t218 => (if t181 = 0 then (if t210 > 0 then (some false) else (if t218 > 0 then (some false) else (if x8_2 = true then (if x9_2 = true then (ephemerislaw2_IntervalMuls.l1 k2 t181 true true (rd y185 x40_1) y185 (y185.length : Int) x40_1 y189 (y189.length : Int) (wrap64 (x50_2 + 1)) a1_0 a1_1 t179 t180) else (ephemerislaw2_IntervalMuls.l1 k2 t181 true (t218 == 0) (rd y185 x40_1) y185 (y185.length : Int) x40_1 y189 (y189.length : Int) (wrap64 (x50_2 + 1)) a1_0 a1_1 t179 t180)) else (if x9_2 = true then (ephemerislaw2_IntervalMuls.l1 k2 t181 (t210 == 0) true (rd y185 x40_1) y185 (y185.length : Int) x40_1 y189 (y189.length : Int) (wrap64 (x50_2 + 1)) a1_0 a1_1 t179 t180) else (ephemerislaw2_IntervalMuls.l1 k2 t181 (t210 == 0) (t218 == 0) (rd y185 x40_1) y185 (y185.length : Int) x40_1 y189 (y189.length : Int) (wrap64 (x50_2 + 1)) a1_0 a1_1 t179 t180))))) else (if x8_2 = true then (if x9_2 = true then (ephemerislaw2_IntervalMuls.l1 k2 t181 true true (rd y185 x40_1) y185 (y185.length : Int) x40_1 y189 (y189.length : Int) (wrap64 (x50_2 + 1)) a1_0 a1_1 t179 t180) else (ephemerislaw2_IntervalMuls.l1 k2 t181 true (t218 == 0) (rd y185 x40_1) y185 (y185.length : Int) x40_1 y189 (y189.length : Int) (wrap64 (x50_2 + 1)) a1_0 a1_1 t179 t180)) else (if x9_2 = true then (ephemerislaw2_IntervalMuls.l1 k2 t181 (t210 == 0) true (rd y185 x40_1) y185 (y185.length : Int) x40_1 y189 (y189.length : Int) (wrap64 (x50_2 + 1)) a1_0 a1_1 t179 t180) else (ephemerislaw2_IntervalMuls.l1 k2 t181 (t210 == 0) (t218 == 0) (rd y185 x40_1) y185 (y185.length : Int) x40_1 y189 (y189.length : Int) (wrap64 (x50_2 + 1)) a1_0 a1_1 t179 t180)))))))) else ((ephemerislaw2_none.f t179 t180 t181 14).bind fun t202 => (some t202)))) = some r := H
             have A41 := Aside0.mk A410
             clear A410
             replace H := Option.bind_eq_some_iff.mp H
             obtain ⟨t201, A420, H⟩ := H
             replace H : (if t201 = true then ((ephemerisref2_ToWide.f k2 t179).bind fun bt203 => ((ephemerisref2_Compare.f k2 bt203.1 bt203.2.1 bt203.2.2.1 bt203.2.2.2.1 bt203.2.2.2.2.1 bt203.2.2.2.2.2.1 bt203.2.2.2.2.2.2 t193 t194 t195 t196 t197 t198 t199).bind fun t210 => ((ephemerisref2_ToWide.f k2 t180).bind fun bt211 => ((ephemerisref2_Compare.f k2 t193 t194 t195 t196 t197 t198 t199 bt211.1 bt211.2.1 bt211.2.2.1 bt211.2.2.2.1 bt211.2.2.2.2.1 bt211.2.2.2.2.2.1 bt211.2.2.2.2.2.2).bind fun t218 => (if t181 = 0 then (if t210 > 0 then (some false) else (if t218 > 0 then (some false) else (if x8_2 = true then (if x9_2 = true then (ephemerislaw2_IntervalMuls.l1 k2 t181 true true (rd y185 x40_1) y185 (y185.length : Int) x40_1 y189 (y189.length : Int) (wrap64 (x50_2 + 1)) a1_0 a1_1 t179 t180) else (ephemerislaw2_IntervalMuls.l1 k2 t181 true (t218 == 0) (rd y185 x40_1) y185 (y185.length : Int) x40_1 y189 (y189.length : Int) (wrap64 (x50_2 + 1)) a1_0 a1_1 t179 t180)) else (if x9_2 = true then (ephemerislaw2_IntervalMuls.l1 k2 t181 (t210 == 0) true (rd y185 x40_1) y185 (y185.length : Int) x40_1 y189 (y189.length : Int) (wrap64 (x50_2 + 1)) a1_0 a1_1 t179 t180) else (ephemerislaw2_IntervalMuls.l1 k2 t181 (t210 == 0) (t218 == 0) (rd y185 x40_1) y185 (y185.length : Int) x40_1 y189 (y189.length : Int) (wrap64 (x50_2 + 1)) a1_0 a1_1 t179 t180))))) else (if x8_2 = true then (if x9_2 = true then (ephemerislaw2_IntervalMuls.l1 k2 t181 true true (rd y185 x40_1) y185 (y185.length : Int) x40_1 y189 (y189.length : Int) (wrap64 (x50_2 + 1)) a1_0 a1_1 t179 t180) else (ephemerislaw2_IntervalMuls.l1 k2 t181 true (t218 == 0) (rd y185 x40_1) y185 (y185.length : Int) x40_1 y189 (y189.length : Int) (wrap64 (x50_2 + 1)) a1_0 a1_1 t179 t180)) else (if x9_2 = true then (ephemerislaw2_IntervalMuls.l1 k2 t181 (t210 == 0) true (rd y185 x40_1) y185 (y185.length : Int) x40_1 y189 (y189.length : Int) (wrap64 (x50_2 + 1)) a1_0 a1_1 t179 t180) else (ephemerislaw2_IntervalMuls.l1 k2 t181 (t210 == 0) (t218 == 0) (rd y185 x40_1) y185 (y185.length : Int) x40_1 y189 (y189.length : Int) (wrap64 (x50_2 + 1)) a1_0 a1_1 t179 t180)))))))) else ((ephemerislaw2_none.f t179 t180 t181 14).bind fun t202 => (some t202))) = some r := H
             have A42 := Aside0.mk A420
             clear A420
             by_cases c43 : t201 = true
             ·subst c43
              have H1 : ((ephemerisref2_ToWide.f k2 t179).bind fun bt203 => ((ephemerisref2_Compare.f k2 bt203.1 bt203.2.1 bt203.2.2.1 bt203.2.2.2.1 bt203.2.2.2.2.1 bt203.2.2.2.2.2.1 bt203.2.2.2.2.2.2 t193 t194 t195 t196 t197 t198 t199).bind fun t210 => ((ephemerisref2_ToWide.f k2 t180).bind fun bt211 => ((ephemerisref2_Compare.f k2 t193 t194 t195 t196 t197 t198 t199 bt211.1 bt211.2.1 bt211.2.2.1 bt211.2.2.2.1 bt211.2.2.2.2.1 bt211.2.2.2.2.2.1 bt211.2.2.2.2.2.2).bind fun t218 => (if t181 = 0 then (if t210 > 0 then (some false) else (if t218 > 0 then (some false) else (if x8_2 = true then (if x9_2 = true then (ephemerislaw2_IntervalMuls.l1 k2 t181 true true (rd y185 x40_1) y185 (y185.length : Int) x40_1 y189 (y189.length : Int) (wrap64 (x50_2 + 1)) a1_0 a1_1 t179 t180) else (ephemerislaw2_IntervalMuls.l1 k2 t181 true (t218 == 0) (rd y185 x40_1) y185 (y185.length : Int) x40_1 y189 (y189.length : Int) (wrap64 (x50_2 + 1)) a1_0 a1_1 t179 t180)) else (if x9_2 = true then (ephemerislaw2_IntervalMuls.l1 k2 t181 (t210 == 0) true (rd y185 x40_1) y185 (y185.length : Int) x40_1 y189 (y189.length : Int) (wrap64 (x50_2 + 1)) a1_0 a1_1 t179 t180) else (ephemerislaw2_IntervalMuls.l1 k2 t181 (t210 == 0) (t218 == 0) (rd y185 x40_1) y185 (y185.length : Int) x40_1 y189 (y189.length : Int) (wrap64 (x50_2 + 1)) a1_0 a1_1 t179 t180))))) else (if x8_2 = true then (if x9_2 = true then (ephemerislaw2_IntervalMuls.l1 k2 t181 true true (rd y185 x40_1) y185 (y185.length : Int) x40_1 y189 (y189.length : Int) (wrap64 (x50_2 + 1)) a1_0 a1_1 t179 t180) else (ephemerislaw2_IntervalMuls.l1 k2 t181 true (t218 == 0) (rd y185 x40_1) y185 (y185.length : Int) x40_1 y189 (y189.length : Int) (wrap64 (x50_2 + 1)) a1_0 a1_1 t179 t180)) else (if x9_2 = true then (ephemerislaw2_IntervalMuls.l1 k2 t181 (t210 == 0) true (rd y185 x40_1) y185 (y185.length : Int) x40_1 y189 (y189.length : Int) (wrap64 (x50_2 + 1)) a1_0 a1_1 t179 t180) else (ephemerislaw2_IntervalMuls.l1 k2 t181 (t210 == 0) (t218 == 0) (rd y185 x40_1) y185 (y185.length : Int) x40_1 y189 (y189.length : Int) (wrap64 (x50_2 + 1)) a1_0 a1_1 t179 t180)))))))) = some r := by rw [if_pos rfl] at H; exact H
              clear H
              have H := H1
              clear H1
              replace H := Option.bind_eq_some_iff.mp H
              obtain ⟨⟨t203, t204, t205, t206, t207, t208, t209⟩, A440, H⟩ := H
              replace H : ((ephemerisref2_Compare.f k2 t203 t204 t205 t206 t207 t208 t209 t193 t194 t195 t196 t197 t198 t199).bind fun t210 => ((ephemerisref2_ToWide.f k2 t180).bind fun bt211 => ((ephemerisref2_Compare.f k2 t193 t194 t195 t196 t197 t198 t199 bt211.1 bt211.2.1 bt211.2.2.1 bt211.2.2.2.1 bt211.2.2.2.2.1 bt211.2.2.2.2.2.1 bt211.2.2.2.2.2.2).bind fun t218 => (if t181 = 0 then (if t210 > 0 then (some false) else (if t218 > 0 then (some false) else (if x8_2 = true then (if x9_2 = true then (ephemerislaw2_IntervalMuls.l1 k2 t181 true true (rd y185 x40_1) y185 (y185.length : Int) x40_1 y189 (y189.length : Int) (wrap64 (x50_2 + 1)) a1_0 a1_1 t179 t180) else (ephemerislaw2_IntervalMuls.l1 k2 t181 true (t218 == 0) (rd y185 x40_1) y185 (y185.length : Int) x40_1 y189 (y189.length : Int) (wrap64 (x50_2 + 1)) a1_0 a1_1 t179 t180)) else (if x9_2 = true then (ephemerislaw2_IntervalMuls.l1 k2 t181 (t210 == 0) true (rd y185 x40_1) y185 (y185.length : Int) x40_1 y189 (y189.length : Int) (wrap64 (x50_2 + 1)) a1_0 a1_1 t179 t180) else (ephemerislaw2_IntervalMuls.l1 k2 t181 (t210 == 0) (t218 == 0) (rd y185 x40_1) y185 (y185.length : Int) x40_1 y189 (y189.length : Int) (wrap64 (x50_2 + 1)) a1_0 a1_1 t179 t180))))) else (if x8_2 = true then (if x9_2 = true then (ephemerislaw2_IntervalMuls.l1 k2 t181 true true (rd y185 x40_1) y185 (y185.length : Int) x40_1 y189 (y189.length : Int) (wrap64 (x50_2 + 1)) a1_0 a1_1 t179 t180) else (ephemerislaw2_IntervalMuls.l1 k2 t181 true (t218 == 0) (rd y185 x40_1) y185 (y185.length : Int) x40_1 y189 (y189.length : Int) (wrap64 (x50_2 + 1)) a1_0 a1_1 t179 t180)) else (if x9_2 = true then (ephemerislaw2_IntervalMuls.l1 k2 t181 (t210 == 0) true (rd y185 x40_1) y185 (y185.length : Int) x40_1 y189 (y189.length : Int) (wrap64 (x50_2 + 1)) a1_0 a1_1 t179 t180) else (ephemerislaw2_IntervalMuls.l1 k2 t181 (t210 == 0) (t218 == 0) (rd y185 x40_1) y185 (y185.length : Int) x40_1 y189 (y189.length : Int) (wrap64 (x50_2 + 1)) a1_0 a1_1 t179 t180))))))) = some r := H
              have A44 := Aside0.mk A440
              clear A440
              replace H := Option.bind_eq_some_iff.mp H
              obtain ⟨t210, A450, H⟩ := H
              replace H : ((ephemerisref2_ToWide.f k2 t180).bind fun bt211 => ((ephemerisref2_Compare.f k2 t193 t194 t195 t196 t197 t198 t199 bt211.1 bt211.2.1 bt211.2.2.1 bt211.2.2.2.1 bt211.2.2.2.2.1 bt211.2.2.2.2.2.1 bt211.2.2.2.2.2.2).bind fun t218 => (if t181 = 0 then (if t210 > 0 then (some false) else (if t218 > 0 then (some false) else (if x8_2 = true then (if x9_2 = true then (ephemerislaw2_IntervalMuls.l1 k2 t181 true true (rd y185 x40_1) y185 (y185.length : Int) x40_1 y189 (y189.length : Int) (wrap64 (x50_2 + 1)) a1_0 a1_1 t179 t180) else (ephemerislaw2_IntervalMuls.l1 k2 t181 true (t218 == 0) (rd y185 x40_1) y185 (y185.length : Int) x40_1 y189 (y189.length : Int) (wrap64 (x50_2 + 1)) a1_0 a1_1 t179 t180)) else (if x9_2 = true then (ephemerislaw2_IntervalMuls.l1 k2 t181 (t210 == 0) true (rd y185 x40_1) y185 (y185.length : Int) x40_1 y189 (y189.length : Int) (wrap64 (x50_2 + 1)) a1_0 a1_1 t179 t180) else (ephemerislaw2_IntervalMuls.l1 k2 t181 (t210 == 0) (t218 == 0) (rd y185 x40_1) y185 (y185.length : Int) x40_1 y189 (y189.length : Int) (wrap64 (x50_2 + 1)) a1_0 a1_1 t179 t180))))) else (if x8_2 = true then (if x9_2 = true then (ephemerislaw2_IntervalMuls.l1 k2 t181 true true (rd y185 x40_1) y185 (y185.length : Int) x40_1 y189 (y189.length : Int) (wrap64 (x50_2 + 1)) a1_0 a1_1 t179 t180) else (ephemerislaw2_IntervalMuls.l1 k2 t181 true (t218 == 0) (rd y185 x40_1) y185 (y185.length : Int) x40_1 y189 (y189.length : Int) (wrap64 (x50_2 + 1)) a1_0 a1_1 t179 t180)) else (if x9_2 = true then (ephemerislaw2_IntervalMuls.l1 k2 t181 (t210 == 0) true (rd y185 x40_1) y185 (y185.length : Int) x40_1 y189 (y189.length : Int) (wrap64 (x50_2 + 1)) a1_0 a1_1 t179 t180) else (ephemerislaw2_IntervalMuls.l1 k2 t181 (t210 == 0) (t218 == 0) (rd y185 x40_1) y185 (y185.length : Int) x40_1 y189 (y189.length : Int) (wrap64 (x50_2 + 1)) a1_0 a1_1 t179 t180)))))) = some r := H
              have A45 := Aside0.mk A450
              clear A450
              replace H := Option.bind_eq_some_iff.mp H
              obtain ⟨⟨t211, t212, t213, t214, t215, t216, t217⟩, A460, H⟩ := H
              replace H : ((ephemerisref2_Compare.f k2 t193 t194 t195 t196 t197 t198 t199 t211 t212 t213 t214 t215 t216 t217).bind fun t218 => (if t181 = 0 then (if t210 > 0 then (some false) else (if t218 > 0 then (some false) else (if x8_2 = true then (if x9_2 = true then (ephemerislaw2_IntervalMuls.l1 k2 t181 true true (rd y185 x40_1) y185 (y185.length : Int) x40_1 y189 (y189.length : Int) (wrap64 (x50_2 + 1)) a1_0 a1_1 t179 t180) else (ephemerislaw2_IntervalMuls.l1 k2 t181 true (t218 == 0) (rd y185 x40_1) y185 (y185.length : Int) x40_1 y189 (y189.length : Int) (wrap64 (x50_2 + 1)) a1_0 a1_1 t179 t180)) else (if x9_2 = true then (ephemerislaw2_IntervalMuls.l1 k2 t181 (t210 == 0) true (rd y185 x40_1) y185 (y185.length : Int) x40_1 y189 (y189.length : Int) (wrap64 (x50_2 + 1)) a1_0 a1_1 t179 t180) else (ephemerislaw2_IntervalMuls.l1 k2 t181 (t210 == 0) (t218 == 0) (rd y185 x40_1) y185 (y185.length : Int) x40_1 y189 (y189.length : Int) (wrap64 (x50_2 + 1)) a1_0 a1_1 t179 t180))))) else (if x8_2 = true then (if x9_2 = true then (ephemerislaw2_IntervalMuls.l1 k2 t181 true true (rd y185 x40_1) y185 (y185.length : Int) x40_1 y189 (y189.length : Int) (wrap64 (x50_2 + 1)) a1_0 a1_1 t179 t180) else (ephemerislaw2_IntervalMuls.l1 k2 t181 true (t218 == 0) (rd y185 x40_1) y185 (y185.length : Int) x40_1 y189 (y189.length : Int) (wrap64 (x50_2 + 1)) a1_0 a1_1 t179 t180)) else (if x9_2 = true then (ephemerislaw2_IntervalMuls.l1 k2 t181 (t210 == 0) true (rd y185 x40_1) y185 (y185.length : Int) x40_1 y189 (y189.length : Int) (wrap64 (x50_2 + 1)) a1_0 a1_1 t179 t180) else (ephemerislaw2_IntervalMuls.l1 k2 t181 (t210 == 0) (t218 == 0) (rd y185 x40_1) y185 (y185.length : Int) x40_1 y189 (y189.length : Int) (wrap64 (x50_2 + 1)) a1_0 a1_1 t179 t180))))) = some r := H
              have A46 := Aside0.mk A460
              clear A460
              replace H := Option.bind_eq_some_iff.mp H
              obtain ⟨t218, A470, H⟩ := H
              replace H : (if t181 = 0 then (if t210 > 0 then (some false) else (if t218 > 0 then (some false) else (if x8_2 = true then (if x9_2 = true then (ephemerislaw2_IntervalMuls.l1 k2 t181 true true (rd y185 x40_1) y185 (y185.length : Int) x40_1 y189 (y189.length : Int) (wrap64 (x50_2 + 1)) a1_0 a1_1 t179 t180) else (ephemerislaw2_IntervalMuls.l1 k2 t181 true (t218 == 0) (rd y185 x40_1) y185 (y185.length : Int) x40_1 y189 (y189.length : Int) (wrap64 (x50_2 + 1)) a1_0 a1_1 t179 t180)) else (if x9_2 = true then (ephemerislaw2_IntervalMuls.l1 k2 t181 (t210 == 0) true (rd y185 x40_1) y185 (y185.length : Int) x40_1 y189 (y189.length : Int) (wrap64 (x50_2 + 1)) a1_0 a1_1 t179 t180) else (ephemerislaw2_IntervalMuls.l1 k2 t181 (t210 == 0) (t218 == 0) (rd y185 x40_1) y185 (y185.length : Int) x40_1 y189 (y189.length : Int) (wrap64 (x50_2 + 1)) a1_0 a1_1 t179 t180))))) else (if x8_2 = true then (if x9_2 = true then (ephemerislaw2_IntervalMuls.l1 k2 t181 true true (rd y185 x40_1) y185 (y185.length : Int) x40_1 y189 (y189.length : Int) (wrap64 (x50_2 + 1)) a1_0 a1_1 t179 t180) else (ephemerislaw2_IntervalMuls.l1 k2 t181 true (t218 == 0) (rd y185 x40_1) y185 (y185.length : Int) x40_1 y189 (y189.length : Int) (wrap64 (x50_2 + 1)) a1_0 a1_1 t179 t180)) else (if x9_2 = true then (ephemerislaw2_IntervalMuls.l1 k2 t181 (t210 == 0) true (rd y185 x40_1) y185 (y185.length : Int) x40_1 y189 (y189.length : Int) (wrap64 (x50_2 + 1)) a1_0 a1_1 t179 t180) else (ephemerislaw2_IntervalMuls.l1 k2 t181 (t210 == 0) (t218 == 0) (rd y185 x40_1) y185 (y185.length : Int) x40_1 y189 (y189.length : Int) (wrap64 (x50_2 + 1)) a1_0 a1_1 t179 t180)))) = some r := H
              have A47 := Aside0.mk A470
              clear A470
              by_cases c48 : t181 = 0
              ·rw [if_pos c48] at H
               have c48b0 : (t181 == 0) = true := beq_iff_eq.mpr c48
               have c48b1 : (t181 != 0) = false := bne_eq_false_iff_eq.mpr c48
               clear c48
               by_cases c49 : t210 > 0
               ·rw [if_pos c49] at H
                have c49b0 : decide (0 < t210) = true := decide_eq_true c49
                clear c49
                obtain rfl := Option.some.inj H
                exact absurd hT (by decide)
               ·rw [if_neg c49] at H
                have c49b0 : decide (0 < t210) = false := decide_eq_false c49
                clear c49
                by_cases c50 : t218 > 0
                ·rw [if_pos c50] at H
                 have c50b0 : decide (0 < t218) = true := decide_eq_true c50
                 clear c50
                 obtain rfl := Option.some.inj H
                 exact absurd hT (by decide)
                ·rw [if_neg c50] at H
                 have c50b0 : decide (0 < t218) = false := decide_eq_false c50
                 clear c50
                 by_cases c51 : x8_2 = true
                 ·subst c51
                  have H1 : (if x9_2 = true then (ephemerislaw2_IntervalMuls.l1 k2 t181 true true (rd y185 x40_1) y185 (y185.length : Int) x40_1 y189 (y189.length : Int) (wrap64 (x50_2 + 1)) a1_0 a1_1 t179 t180) else (ephemerislaw2_IntervalMuls.l1 k2 t181 true (t218 == 0) (rd y185 x40_1) y185 (y185.length : Int) x40_1 y189 (y189.length : Int) (wrap64 (x50_2 + 1)) a1_0 a1_1 t179 t180)) = some r := by rw [if_pos rfl] at H; exact H
                  clear H
                  have H := H1
                  clear H1
                  by_cases c52 : x9_2 = true
                  ·subst c52
                   have H1 : (ephemerislaw2_IntervalMuls.l1 k2 t181 true true (rd y185 x40_1) y185 (y185.length : Int) x40_1 y189 (y189.length : Int) (wrap64 (x50_2 + 1)) a1_0 a1_1 t179 t180) = some r := by rw [if_pos rfl] at H; exact H
                   clear H
                   have H := H1
                   clear H1
                   have H' := Aside0.mk H
                   clear H
                   have p192 : 0 ≤ (x50_2 : Int) := of_decide_eq_true (by first | (with_reducible assumption) | assumption)
                   have q192 : x50_2 < (y189.length : Int) := of_decide_eq_true (by first | (with_reducible assumption) | assumption)
                   obtain ⟨ad192, e192, hx192_0⟩ := Kd.at_int (Kd.R_reads' HO_48.out).2.2 x50_2 p192 q192
                   cases e192
                   replace p192 := eq_true p192
                   replace q192 := eq_true q192
                   try go_wp2_with (first | ((with_reducible refine gate_callee (f := 28) rfl ?_); refine goesL_ (some 56) rfl rfl Try.func28 (by kernel_rfl) rfl #[.int .i64 (rd y185 x40_1), .int .i64 (rd y189 x50_2)] rfl (by (try simp only [List.map_toArray, List.map_cons, List.map_nil]); first | done | rfl | (simp only [List.length_drop, List.length_take]; rfl)) ?_; (with_reducible refine (ephemerisref2_Product.calls k2 (rd y185 x40_1) (rd y189 x50_2) t193 t194 t195 t196 t197 t198 t199 _ A41.out).mono ?_); rintro e w53 ⟨rfl, hb⟩; refine ⟨_, rfl, ?_⟩; have n0_ := Aside0.mk (Kd.R_below (by (with_reducible repeat (first | apply Kd.R_alloc | apply Kd.R_drewN | apply Kd.R_drew)); exact HO_38.out) hb); have n1_ := Aside0.mk (Kd.R_below (by (with_reducible repeat (first | apply Kd.R_alloc | apply Kd.R_drewN | apply Kd.R_drew)); exact HO_48.out) hb); have n2_ := kb_ BK176 hb; have n3_ := kb_ BK177 hb; have n4_ := kb_ BK182 hb; have n5_ := bs_ HB hb; clear HO_38; clear HO_48; clear BK176; clear BK177; clear BK182; clear HB; have HO_38 := n0_; have HO_48 := n1_; have BK176 := n2_; have BK177 := n3_; have BK182 := n4_; have HB := n5_; clear n0_ n1_ n2_ n3_ n4_ n5_; (try clear hb); (try clear hb2); (try clear hk); (try clear hi)) | ((with_reducible refine gate_dst (N := 14) rfl ?_); refine box_event ?hg (N := 14) ?hd (cs := #[.bool false, .int .i64 0, .int .i64 0, .int .i64 0, .int .i64 0, .int .i64 0, .int .i64 0]) (t := 46) ?hr ?_; (case hd => rfl); (case hg => rfl); (case hr => first | (go_simp; done) | (go_simp; rfl)); intro gb200 hg w54 hbox hb; have n0_ := Aside0.mk (Kd.R_below (by (with_reducible repeat (first | apply Kd.R_alloc | apply Kd.R_drewN | apply Kd.R_drew)); exact HO_38.out) hb); have n1_ := Aside0.mk (Kd.R_below (by (with_reducible repeat (first | apply Kd.R_alloc | apply Kd.R_drewN | apply Kd.R_drew)); exact HO_48.out) hb); have n2_ := kb_ BK176 hb; have n3_ := kb_ BK177 hb; have n4_ := kb_ BK182 hb; have n5_ := bs_ HB hb; have n6_ := Aside0.mk (hbox); have n7_ := ge_ hg HB; have n8_ := ge_ hg HB; have n9_ := nl_ hg BK176; have n10_ := ng_ hg BK176; have n11_ := nl_ hg BK177; have n12_ := ng_ hg BK177; have n13_ := nl_ hg BK182; have n14_ := ng_ hg BK182; clear HO_38; clear HO_48; clear BK176; clear BK177; clear BK182; clear HB; have HO_38 := n0_; have HO_48 := n1_; have BK176 := n2_; have BK177 := n3_; have BK182 := n4_; have HB := n5_; have BK200 := n6_; have GW200 := n7_; have GE200 := n8_; have NB176_200 := n9_; have NB200_176 := n10_; have NB177_200 := n11_; have NB200_177 := n12_; have NB182_200 := n13_; have NB200_182 := n14_; clear n0_ n1_ n2_ n3_ n4_ n5_ n6_ n7_ n8_ n9_ n10_ n11_ n12_ n13_ n14_; clear hb hbox hg; have hnb55 := NB200_176.out; have hnc55 := NB176_200.out; have hnb56 := NB200_177.out; have hnc56 := NB177_200.out; have hnb57 := NB200_182.out; have hnc57 := NB182_200.out; have hcz58_0 : w54.cell? ⟨gb200, 0, none⟩ = some (.bool false) := (blk_cell BK200.out 0).trans rfl; have hcz58_1 : w54.cell? ⟨gb200, 1, none⟩ = some (.int .i64 0) := (blk_cell BK200.out 1).trans rfl; have hcz58_2 : w54.cell? ⟨gb200, 2, none⟩ = some (.int .i64 0) := (blk_cell BK200.out 2).trans rfl; have hcz58_3 : w54.cell? ⟨gb200, 3, none⟩ = some (.int .i64 0) := (blk_cell BK200.out 3).trans rfl; have hcz58_4 : w54.cell? ⟨gb200, 4, none⟩ = some (.int .i64 0) := (blk_cell BK200.out 4).trans rfl; have hcz58_5 : w54.cell? ⟨gb200, 5, none⟩ = some (.int .i64 0) := (blk_cell BK200.out 5).trans rfl; have hcz58_6 : w54.cell? ⟨gb200, 6, none⟩ = some (.int .i64 0) := (blk_cell BK200.out 6).trans rfl; have hfz58_0 := blk_frozen BK200.out 0; have hfz58_1 := blk_frozen BK200.out 1; have hfz58_2 := blk_frozen BK200.out 2; have hfz58_3 := blk_frozen BK200.out 3; have hfz58_4 := blk_frozen BK200.out 4; have hfz58_5 := blk_frozen BK200.out 5; have hfz58_6 := blk_frozen BK200.out 6) | ((with_reducible refine gate_callee (f := 29) rfl ?_); refine goesL_ (some 58) rfl rfl Try.func29 (by kernel_rfl) rfl #[.agg #[.bool t193, .int .i64 t194, .int .i64 t195, .int .i64 t196, .int .i64 t197, .int .i64 t198, .int .i64 t199]] rfl (by (try simp only [List.map_toArray, List.map_cons, List.map_nil]); first | done | rfl | (simp only [List.length_drop, List.length_take]; rfl)) ?_; (with_reducible refine (ephemerisref2_Fine.calls k2 t193 t194 t195 t196 t197 t198 t199 true _ A42.out).mono ?_); rintro e w59 ⟨rfl, hb⟩; refine ⟨_, rfl, ?_⟩; have n0_ := Aside0.mk (Kd.R_below (by (with_reducible repeat (first | apply Kd.R_alloc | apply Kd.R_drewN | apply Kd.R_drew)); exact (Kd.R_mono (Kd.R_far (p := ⟨gb200, 6, none⟩) (Kd.R_far (p := ⟨gb200, 5, none⟩) (Kd.R_far (p := ⟨gb200, 4, none⟩) (Kd.R_far (p := ⟨gb200, 3, none⟩) (Kd.R_far (p := ⟨gb200, 2, none⟩) (Kd.R_far (p := ⟨gb200, 1, none⟩) (Kd.R_far (p := ⟨gb200, 0, none⟩) (Kd.R_types HO_38.out BK200.out (by decide)) (fun _ hk => hk.2) (.bool t193)) (fun _ hk => hk.2) (.int .i64 t194)) (fun _ hk => hk.2) (.int .i64 t195)) (fun _ hk => hk.2) (.int .i64 t196)) (fun _ hk => hk.2) (.int .i64 t197)) (fun _ hk => hk.2) (.int .i64 t198)) (fun _ hk => hk.2) (.int .i64 t199)) (fun _ h_ => h_.1))) hb); have n1_ := Aside0.mk (Kd.R_below (by (with_reducible repeat (first | apply Kd.R_alloc | apply Kd.R_drewN | apply Kd.R_drew)); exact (Kd.R_mono (Kd.R_far (p := ⟨gb200, 6, none⟩) (Kd.R_far (p := ⟨gb200, 5, none⟩) (Kd.R_far (p := ⟨gb200, 4, none⟩) (Kd.R_far (p := ⟨gb200, 3, none⟩) (Kd.R_far (p := ⟨gb200, 2, none⟩) (Kd.R_far (p := ⟨gb200, 1, none⟩) (Kd.R_far (p := ⟨gb200, 0, none⟩) (Kd.R_types HO_48.out BK200.out (by decide)) (fun _ hk => hk.2) (.bool t193)) (fun _ hk => hk.2) (.int .i64 t194)) (fun _ hk => hk.2) (.int .i64 t195)) (fun _ hk => hk.2) (.int .i64 t196)) (fun _ hk => hk.2) (.int .i64 t197)) (fun _ hk => hk.2) (.int .i64 t198)) (fun _ hk => hk.2) (.int .i64 t199)) (fun _ h_ => h_.1))) hb); have n2_ := kb_ BK176 hb; have n3_ := kb_ BK177 hb; have n4_ := kb_ BK182 hb; have n5_ := Aside0.mk (blk_below (g := gb200) (o := .cells #[.bool t193, .int .i64 t194, .int .i64 t195, .int .i64 t196, .int .i64 t197, .int .i64 t198, .int .i64 t199] 46 (0, 0)) (by (with_reducible repeat (first | refine blk_drewN ?_ _ | refine blk_drew ?_ | refine blk_alloc ?_ _)); refine blk_put (cs := #[.bool t193, .int .i64 t194, .int .i64 t195, .int .i64 t196, .int .i64 t197, .int .i64 t198, .int .i64 0]) ?_ 6 _ rfl; (with_reducible repeat (first | refine blk_drewN ?_ _ | refine blk_drew ?_ | refine blk_alloc ?_ _)); refine blk_put (cs := #[.bool t193, .int .i64 t194, .int .i64 t195, .int .i64 t196, .int .i64 t197, .int .i64 0, .int .i64 0]) ?_ 5 _ rfl; (with_reducible repeat (first | refine blk_drewN ?_ _ | refine blk_drew ?_ | refine blk_alloc ?_ _)); refine blk_put (cs := #[.bool t193, .int .i64 t194, .int .i64 t195, .int .i64 t196, .int .i64 0, .int .i64 0, .int .i64 0]) ?_ 4 _ rfl; (with_reducible repeat (first | refine blk_drewN ?_ _ | refine blk_drew ?_ | refine blk_alloc ?_ _)); refine blk_put (cs := #[.bool t193, .int .i64 t194, .int .i64 t195, .int .i64 0, .int .i64 0, .int .i64 0, .int .i64 0]) ?_ 3 _ rfl; (with_reducible repeat (first | refine blk_drewN ?_ _ | refine blk_drew ?_ | refine blk_alloc ?_ _)); refine blk_put (cs := #[.bool t193, .int .i64 t194, .int .i64 0, .int .i64 0, .int .i64 0, .int .i64 0, .int .i64 0]) ?_ 2 _ rfl; (with_reducible repeat (first | refine blk_drewN ?_ _ | refine blk_drew ?_ | refine blk_alloc ?_ _)); refine blk_put (cs := #[.bool t193, .int .i64 0, .int .i64 0, .int .i64 0, .int .i64 0, .int .i64 0, .int .i64 0]) ?_ 1 _ rfl; (with_reducible repeat (first | refine blk_drewN ?_ _ | refine blk_drew ?_ | refine blk_alloc ?_ _)); refine blk_put (cs := #[.bool false, .int .i64 0, .int .i64 0, .int .i64 0, .int .i64 0, .int .i64 0, .int .i64 0]) ?_ 0 _ rfl; (with_reducible repeat (first | refine blk_drewN ?_ _ | refine blk_drew ?_ | refine blk_alloc ?_ _)); exact BK200.out) hb); have n6_ := bs_ HB hb; clear HO_38; clear HO_48; clear BK176; clear BK177; clear BK182; clear BK200; clear HB; have HO_38 := n0_; have HO_48 := n1_; have BK176 := n2_; have BK177 := n3_; have BK182 := n4_; have BK200 := n5_; have HB := n6_; clear n0_ n1_ n2_ n3_ n4_ n5_ n6_; (try clear hb); (try clear hb2); (try clear hk); (try clear hi)))
                   replace HO_38 := Aside0.mk (Kd.R_drew HO_38.out)
                   replace HO_48 := Aside0.mk (Kd.R_drew HO_48.out)
                   replace BK176 := Aside0.mk (blk_drew BK176.out)
                   replace BK177 := Aside0.mk (blk_drew BK177.out)
                   replace BK182 := Aside0.mk (blk_drew BK182.out)
                   replace BK200 := Aside0.mk (blk_drew BK200.out)
                   replace HB := Aside0.mk (below_drew1 HB.out)
                   refine start_ (n := 12) (S := fun w' => w'.cell? ⟨gb182, 0, none⟩ = some (.int .i64 t179) ∧ w'.cell? ⟨gb182, 1, none⟩ = some (.int .i64 t180) ∧ w'.cell? ⟨gb200, 0, none⟩ = some (.bool t193) ∧ w'.cell? ⟨gb200, 1, none⟩ = some (.int .i64 t194) ∧ w'.cell? ⟨gb200, 2, none⟩ = some (.int .i64 t195) ∧ w'.cell? ⟨gb200, 3, none⟩ = some (.int .i64 t196) ∧ w'.cell? ⟨gb200, 4, none⟩ = some (.int .i64 t197) ∧ w'.cell? ⟨gb200, 5, none⟩ = some (.int .i64 t198) ∧ w'.cell? ⟨gb200, 6, none⟩ = some (.int .i64 t199)) (ds := []) #[false, false, false, false, false, false, false, false, false, false, false, false] (by kernel_rfl) rfl rfl ⟨(blk_cell BK182.out 0).trans rfl, (blk_cell BK182.out 1).trans rfl, (blk_cell BK200.out 0).trans rfl, (blk_cell BK200.out 1).trans rfl, (blk_cell BK200.out 2).trans rfl, (blk_cell BK200.out 3).trans rfl, (blk_cell BK200.out 4).trans rfl, (blk_cell BK200.out 5).trans rfl, (blk_cell BK200.out 6).trans rfl⟩ (fun hHeld => ?_); refine with_tabW ephemerislaw2_IntervalMuls.tab17 ephemerislaw2_IntervalMuls.bits17 (fun HT_ HW_ => ?_)
                   generalize w59.drew = w60 at HO_38 HO_48 BK176 BK177 BK182 BK200 HB hHeld ⊢
                   refine pure_ (i := 0) (N := some 63) (v := ?_) (a' := ?_) #[true, false, false, false, false, false, false, false, false, false, false, false] rfl rfl (any_of HT_.out (by kernel_rfl)) (fun _ _ _ h => h) (Or.inl ⟨by rfl, ?_⟩) ?_ ?_
                   rotate_left
                   ·intro w'
                    go_simp
                    with_reducible rfl
                   rotate_left
                   ·simp only [Act.put, List.setIfInBounds_toArray, List.set_cons_zero, List.set_cons_succ, i64_w, i32_w]
                    rfl
                   refine pure_ (i := 6) (N := some 69) (v := ?_) (a' := ?_) #[true, false, false, false, false, false, true, false, false, false, false, false] rfl rfl (any_of HT_.out (by kernel_rfl)) (fun _ _ _ h => h) (Or.inl ⟨by rfl, ?_⟩) ?_ ?_
                   rotate_left
                   ·intro w'
                    go_simp
                    with_reducible rfl
                   rotate_left
                   ·simp only [Act.put, List.setIfInBounds_toArray, List.set_cons_zero, List.set_cons_succ, i64_w, i32_w]
                    rfl
                   refine take_ (i := 1) (N := some 64) (v := ?_) (a' := ?_) #[true, true, false, false, false, false, true, false, false, false, false, false] rfl rfl (take_ofW HT_.out HW_.out (by kernel_rfl)) (fun _ _ _ h => h) (Or.inl ⟨by rfl, ?_⟩) hHeld ?_ ?_
                   rotate_left
                   ·rintro w' ⟨s0, s1, s2, s3, s4, s5, s6, s7, s8⟩
                    go_simp
                    with_reducible rfl
                   rotate_left
                   ·simp only [Act.put, List.setIfInBounds_toArray, List.set_cons_zero, List.set_cons_succ, i64_w, i32_w]
                    rfl
                   refine take_ (i := 3) (N := some 66) (v := ?_) (a' := ?_) #[true, true, false, true, false, false, true, false, false, false, false, false] rfl rfl (take_ofW HT_.out HW_.out (by kernel_rfl)) (fun _ _ _ h => h) (Or.inl ⟨by rfl, ?_⟩) hHeld ?_ ?_
                   rotate_left
                   ·rintro w' ⟨s0, s1, s2, s3, s4, s5, s6, s7, s8⟩
                    go_simp
                    with_reducible rfl
                   rotate_left
                   ·simp only [Act.put, List.setIfInBounds_toArray, List.set_cons_zero, List.set_cons_succ, i64_w, i32_w]
                    rfl
                   refine take_ (i := 5) (N := some 68) (v := ?_) (a' := ?_) #[true, true, false, true, false, true, true, false, false, false, false, false] rfl rfl (take_ofW HT_.out HW_.out (by kernel_rfl)) (fun _ _ _ h => h) (Or.inl ⟨by rfl, ?_⟩) hHeld ?_ ?_
                   rotate_left
                   ·rintro w' ⟨s0, s1, s2, s3, s4, s5, s6, s7, s8⟩
                    go_simp
                    with_reducible rfl
                   rotate_left
                   ·simp only [Act.put, List.setIfInBounds_toArray, List.set_cons_zero, List.set_cons_succ, i64_w, i32_w]
                    rfl
                   refine take_ (i := 7) (N := some 70) (v := ?_) (a' := ?_) #[true, true, false, true, false, true, true, true, false, false, false, false] rfl rfl (take_ofW HT_.out HW_.out (by kernel_rfl)) (fun _ _ _ h => h) (Or.inl ⟨by rfl, ?_⟩) hHeld ?_ ?_
                   rotate_left
                   ·rintro w' ⟨s0, s1, s2, s3, s4, s5, s6, s7, s8⟩
                    go_simp
                    with_reducible rfl
                   rotate_left
                   ·simp only [Act.put, List.setIfInBounds_toArray, List.set_cons_zero, List.set_cons_succ, i64_w, i32_w]
                    rfl
                   refine one_ (i := 2) (N := some 65) #[true, true, true, true, false, true, true, true, false, false, false, false] rfl rfl (one_of HT_.out (by kernel_rfl)) (by decide) (fun K hK => ?_)
                   refine goes_ Try.func31 (by kernel_rfl) rfl #[.int .i64 t179] (by rfl) rfl rfl (by (try simp only [List.map_toArray, List.map_cons, List.map_nil]); first | done | rfl | (simp only [List.length_drop, List.length_take]; rfl)) ?_
                   with_reducible refine (ephemerisref2_ToWide.calls k2 t179 t203 t204 t205 t206 t207 t208 t209 _ A44.out).mono ?_
                   rintro e w61 ⟨rfl, hb⟩
                   refine ⟨_, rfl, ?_⟩
                   have n0_ := Aside0.mk (Kd.R_below (by (with_reducible repeat (first | apply Kd.R_alloc | apply Kd.R_drewN | apply Kd.R_drew)); exact HO_38.out) hb)
                   have n1_ := Aside0.mk (Kd.R_below (by (with_reducible repeat (first | apply Kd.R_alloc | apply Kd.R_drewN | apply Kd.R_drew)); exact HO_48.out) hb)
                   have n2_ := kb_ BK176 hb
                   have n3_ := kb_ BK177 hb
                   have n4_ := kb_ BK182 hb
                   have n5_ := kb_ BK200 hb
                   have n6_ := bs_ HB hb
                   clear HO_38
                   clear HO_48
                   clear BK176
                   clear BK177
                   clear BK182
                   clear BK200
                   clear HB
                   have HO_38 := n0_
                   have HO_48 := n1_
                   have BK176 := n2_
                   have BK177 := n3_
                   have BK182 := n4_
                   have BK200 := n5_
                   have HB := n6_
                   clear n0_ n1_ n2_ n3_ n4_ n5_ n6_
                   (try clear hb)
                   (try clear hb2)
                   (try clear hk)
                   (try clear hi)
                   refine hK.out _ _ ⟨(blk_cell BK182.out 0).trans rfl, (blk_cell BK182.out 1).trans rfl, (blk_cell BK200.out 0).trans rfl, (blk_cell BK200.out 1).trans rfl, (blk_cell BK200.out 2).trans rfl, (blk_cell BK200.out 3).trans rfl, (blk_cell BK200.out 4).trans rfl, (blk_cell BK200.out 5).trans rfl, (blk_cell BK200.out 6).trans rfl⟩ (fun hHeld => ?_)
                   clear hK K
                   refine norm_ (a' := ?_) ?_ ?_
                   rotate_left
                   ·show Act.put _ (some 65) _ = _
                    simp only [Act.put, List.setIfInBounds_toArray, List.set_cons_zero, List.set_cons_succ, i64_w, i32_w]
                    rfl
                   refine one_ (i := 4) (N := some 67) #[true, true, true, true, true, true, true, true, false, false, false, false] rfl rfl (one_of HT_.out (by kernel_rfl)) (by decide) (fun K hK => ?_)
                   refine goes_ Try.func30 (by kernel_rfl) rfl #[.agg #[.bool t203, .int .i64 t204, .int .i64 t205, .int .i64 t206, .int .i64 t207, .int .i64 t208, .int .i64 t209], .agg #[.bool t193, .int .i64 t194, .int .i64 t195, .int .i64 t196, .int .i64 t197, .int .i64 t198, .int .i64 t199]] (by rfl) rfl rfl (by (try simp only [List.map_toArray, List.map_cons, List.map_nil]); first | done | rfl | (simp only [List.length_drop, List.length_take]; rfl)) ?_
                   with_reducible refine (ephemerisref2_Compare.calls k2 t203 t204 t205 t206 t207 t208 t209 t193 t194 t195 t196 t197 t198 t199 t210 _ A45.out).mono ?_
                   rintro e w62 ⟨rfl, hb⟩
                   refine ⟨_, rfl, ?_⟩
                   have n0_ := Aside0.mk (Kd.R_below (by (with_reducible repeat (first | apply Kd.R_alloc | apply Kd.R_drewN | apply Kd.R_drew)); exact HO_38.out) hb)
                   have n1_ := Aside0.mk (Kd.R_below (by (with_reducible repeat (first | apply Kd.R_alloc | apply Kd.R_drewN | apply Kd.R_drew)); exact HO_48.out) hb)
                   have n2_ := kb_ BK176 hb
                   have n3_ := kb_ BK177 hb
                   have n4_ := kb_ BK182 hb
                   have n5_ := kb_ BK200 hb
                   have n6_ := bs_ HB hb
                   clear HO_38
                   clear HO_48
                   clear BK176
                   clear BK177
                   clear BK182
                   clear BK200
                   clear HB
                   have HO_38 := n0_
                   have HO_48 := n1_
                   have BK176 := n2_
                   have BK177 := n3_
                   have BK182 := n4_
                   have BK200 := n5_
                   have HB := n6_
                   clear n0_ n1_ n2_ n3_ n4_ n5_ n6_
                   (try clear hb)
                   (try clear hb2)
                   (try clear hk)
                   (try clear hi)
                   refine hK.out _ _ ⟨(blk_cell BK182.out 0).trans rfl, (blk_cell BK182.out 1).trans rfl, (blk_cell BK200.out 0).trans rfl, (blk_cell BK200.out 1).trans rfl, (blk_cell BK200.out 2).trans rfl, (blk_cell BK200.out 3).trans rfl, (blk_cell BK200.out 4).trans rfl, (blk_cell BK200.out 5).trans rfl, (blk_cell BK200.out 6).trans rfl⟩ (fun hHeld => ?_)
                   clear hK K
                   refine norm_ (a' := ?_) ?_ ?_
                   rotate_left
                   ·show Act.put _ (some 67) _ = _
                    simp only [Act.put, List.setIfInBounds_toArray, List.set_cons_zero, List.set_cons_succ, i64_w, i32_w]
                    rfl
                   refine one_ (i := 8) (N := some 71) #[true, true, true, true, true, true, true, true, true, false, false, false] rfl rfl (one_of HT_.out (by kernel_rfl)) (by decide) (fun K hK => ?_)
                   refine goes_ Try.func31 (by kernel_rfl) rfl #[.int .i64 t180] (by rfl) rfl rfl (by (try simp only [List.map_toArray, List.map_cons, List.map_nil]); first | done | rfl | (simp only [List.length_drop, List.length_take]; rfl)) ?_
                   with_reducible refine (ephemerisref2_ToWide.calls k2 t180 t211 t212 t213 t214 t215 t216 t217 _ A46.out).mono ?_
                   rintro e w63 ⟨rfl, hb⟩
                   refine ⟨_, rfl, ?_⟩
                   have n0_ := Aside0.mk (Kd.R_below (by (with_reducible repeat (first | apply Kd.R_alloc | apply Kd.R_drewN | apply Kd.R_drew)); exact HO_38.out) hb)
                   have n1_ := Aside0.mk (Kd.R_below (by (with_reducible repeat (first | apply Kd.R_alloc | apply Kd.R_drewN | apply Kd.R_drew)); exact HO_48.out) hb)
                   have n2_ := kb_ BK176 hb
                   have n3_ := kb_ BK177 hb
                   have n4_ := kb_ BK182 hb
                   have n5_ := kb_ BK200 hb
                   have n6_ := bs_ HB hb
                   clear HO_38
                   clear HO_48
                   clear BK176
                   clear BK177
                   clear BK182
                   clear BK200
                   clear HB
                   have HO_38 := n0_
                   have HO_48 := n1_
                   have BK176 := n2_
                   have BK177 := n3_
                   have BK182 := n4_
                   have BK200 := n5_
                   have HB := n6_
                   clear n0_ n1_ n2_ n3_ n4_ n5_ n6_
                   (try clear hb)
                   (try clear hb2)
                   (try clear hk)
                   (try clear hi)
                   refine hK.out _ _ ⟨(blk_cell BK182.out 0).trans rfl, (blk_cell BK182.out 1).trans rfl, (blk_cell BK200.out 0).trans rfl, (blk_cell BK200.out 1).trans rfl, (blk_cell BK200.out 2).trans rfl, (blk_cell BK200.out 3).trans rfl, (blk_cell BK200.out 4).trans rfl, (blk_cell BK200.out 5).trans rfl, (blk_cell BK200.out 6).trans rfl⟩ (fun hHeld => ?_)
                   clear hK K
                   refine norm_ (a' := ?_) ?_ ?_
                   rotate_left
                   ·show Act.put _ (some 71) _ = _
                    simp only [Act.put, List.setIfInBounds_toArray, List.set_cons_zero, List.set_cons_succ, i64_w, i32_w]
                    rfl
                   refine one_ (i := 9) (N := some 72) #[true, true, true, true, true, true, true, true, true, true, false, false] rfl rfl (one_of HT_.out (by kernel_rfl)) (by decide) (fun K hK => ?_)
                   refine goes_ Try.func30 (by kernel_rfl) rfl #[.agg #[.bool t193, .int .i64 t194, .int .i64 t195, .int .i64 t196, .int .i64 t197, .int .i64 t198, .int .i64 t199], .agg #[.bool t211, .int .i64 t212, .int .i64 t213, .int .i64 t214, .int .i64 t215, .int .i64 t216, .int .i64 t217]] (by rfl) rfl rfl (by (try simp only [List.map_toArray, List.map_cons, List.map_nil]); first | done | rfl | (simp only [List.length_drop, List.length_take]; rfl)) ?_
                   with_reducible refine (ephemerisref2_Compare.calls k2 t193 t194 t195 t196 t197 t198 t199 t211 t212 t213 t214 t215 t216 t217 t218 _ A47.out).mono ?_
                   rintro e w64 ⟨rfl, hb⟩
                   refine ⟨_, rfl, ?_⟩
                   have n0_ := Aside0.mk (Kd.R_below (by (with_reducible repeat (first | apply Kd.R_alloc | apply Kd.R_drewN | apply Kd.R_drew)); exact HO_38.out) hb)
                   have n1_ := Aside0.mk (Kd.R_below (by (with_reducible repeat (first | apply Kd.R_alloc | apply Kd.R_drewN | apply Kd.R_drew)); exact HO_48.out) hb)
                   have n2_ := kb_ BK176 hb
                   have n3_ := kb_ BK177 hb
                   have n4_ := kb_ BK182 hb
                   have n5_ := kb_ BK200 hb
                   have n6_ := bs_ HB hb
                   clear HO_38
                   clear HO_48
                   clear BK176
                   clear BK177
                   clear BK182
                   clear BK200
                   clear HB
                   have HO_38 := n0_
                   have HO_48 := n1_
                   have BK176 := n2_
                   have BK177 := n3_
                   have BK182 := n4_
                   have BK200 := n5_
                   have HB := n6_
                   clear n0_ n1_ n2_ n3_ n4_ n5_ n6_
                   (try clear hb)
                   (try clear hb2)
                   (try clear hk)
                   (try clear hi)
                   refine hK.out _ _ ⟨(blk_cell BK182.out 0).trans rfl, (blk_cell BK182.out 1).trans rfl, (blk_cell BK200.out 0).trans rfl, (blk_cell BK200.out 1).trans rfl, (blk_cell BK200.out 2).trans rfl, (blk_cell BK200.out 3).trans rfl, (blk_cell BK200.out 4).trans rfl, (blk_cell BK200.out 5).trans rfl, (blk_cell BK200.out 6).trans rfl⟩ (fun hHeld => ?_)
                   clear hK K
                   refine norm_ (a' := ?_) ?_ ?_
                   rotate_left
                   ·show Act.put _ (some 72) _ = _
                    simp only [Act.put, List.setIfInBounds_toArray, List.set_cons_zero, List.set_cons_succ, i64_w, i32_w]
                    rfl
                   refine pure_ (i := 10) (N := some 15) (v := ?_) (a' := ?_) #[true, true, true, true, true, true, true, true, true, true, true, false] rfl rfl (any_of HT_.out (by kernel_rfl)) (fun _ _ _ h => h) (Or.inl ⟨by rfl, ?_⟩) ?_ ?_
                   rotate_left
                   ·intro w'
                    go_simp
                    with_reducible rfl
                   rotate_left
                   ·simp only [Act.put, List.setIfInBounds_toArray, List.set_cons_zero, List.set_cons_succ, i64_w, i32_w]
                    rfl
                   refine pure_ (i := 11) (N := some 16) (v := ?_) (a' := ?_) #[true, true, true, true, true, true, true, true, true, true, true, true] rfl rfl (any_of HT_.out (by kernel_rfl)) (fun _ _ _ h => h) (Or.inl ⟨by rfl, ?_⟩) ?_ ?_
                   rotate_left
                   ·intro w'
                    go_simp
                    with_reducible rfl
                   rotate_left
                   ·simp only [Act.put, List.setIfInBounds_toArray, List.set_cons_zero, List.set_cons_succ, i64_w, i32_w]
                    rfl
                   refine done_ (done_of HT_.out (by kernel_rfl)) ?_
                   try go_wp2
                   go_roundg k2
                   case measure => have := HK1.out; have := HK2.out; omega
                   case rel => exact ⟨(true), (true), (wrap64 (x50_2 + 1)), (by first | rfl | (simp; done) | (simp [*]; done)), (by first | rfl | (simp; done) | (simp [*]; done)), (by first | rfl | (simp; done) | (simp [*]; done)), H', ⟨by have := HK1.out; have := HK2.out; omega⟩, ⟨by (with_reducible repeat (first | apply Kd.R_alloc | apply Kd.R_drewN | apply Kd.R_drew)); exact HO_38.out⟩, ⟨by (with_reducible repeat (first | apply Kd.R_alloc | apply Kd.R_drewN | apply Kd.R_drew)); exact HO_48.out⟩, ⟨kk_ BK176⟩, ⟨kk_ BK177⟩, ⟨kk_ BK182⟩, (be_ HB)⟩
                  ·replace c52 := Bool.eq_false_iff.mpr c52
                   subst c52
                   have H1 : (ephemerislaw2_IntervalMuls.l1 k2 t181 true (t218 == 0) (rd y185 x40_1) y185 (y185.length : Int) x40_1 y189 (y189.length : Int) (wrap64 (x50_2 + 1)) a1_0 a1_1 t179 t180) = some r := by rw [if_neg (show ¬ (false = true) by decide)] at H; exact H
                   clear H
                   have H := H1
                   clear H1
                   have H' := Aside0.mk H
                   clear H
                   have p192 : 0 ≤ (x50_2 : Int) := of_decide_eq_true (by first | (with_reducible assumption) | assumption)
                   have q192 : x50_2 < (y189.length : Int) := of_decide_eq_true (by first | (with_reducible assumption) | assumption)
                   obtain ⟨ad192, e192, hx192_0⟩ := Kd.at_int (Kd.R_reads' HO_48.out).2.2 x50_2 p192 q192
                   cases e192
                   replace p192 := eq_true p192
                   replace q192 := eq_true q192
                   try go_wp2_with (first | ((with_reducible refine gate_callee (f := 28) rfl ?_); refine goesL_ (some 56) rfl rfl Try.func28 (by kernel_rfl) rfl #[.int .i64 (rd y185 x40_1), .int .i64 (rd y189 x50_2)] rfl (by (try simp only [List.map_toArray, List.map_cons, List.map_nil]); first | done | rfl | (simp only [List.length_drop, List.length_take]; rfl)) ?_; (with_reducible refine (ephemerisref2_Product.calls k2 (rd y185 x40_1) (rd y189 x50_2) t193 t194 t195 t196 t197 t198 t199 _ A41.out).mono ?_); rintro e w65 ⟨rfl, hb⟩; refine ⟨_, rfl, ?_⟩; have n0_ := Aside0.mk (Kd.R_below (by (with_reducible repeat (first | apply Kd.R_alloc | apply Kd.R_drewN | apply Kd.R_drew)); exact HO_38.out) hb); have n1_ := Aside0.mk (Kd.R_below (by (with_reducible repeat (first | apply Kd.R_alloc | apply Kd.R_drewN | apply Kd.R_drew)); exact HO_48.out) hb); have n2_ := kb_ BK176 hb; have n3_ := kb_ BK177 hb; have n4_ := kb_ BK182 hb; have n5_ := bs_ HB hb; clear HO_38; clear HO_48; clear BK176; clear BK177; clear BK182; clear HB; have HO_38 := n0_; have HO_48 := n1_; have BK176 := n2_; have BK177 := n3_; have BK182 := n4_; have HB := n5_; clear n0_ n1_ n2_ n3_ n4_ n5_; (try clear hb); (try clear hb2); (try clear hk); (try clear hi)) | ((with_reducible refine gate_dst (N := 14) rfl ?_); refine box_event ?hg (N := 14) ?hd (cs := #[.bool false, .int .i64 0, .int .i64 0, .int .i64 0, .int .i64 0, .int .i64 0, .int .i64 0]) (t := 46) ?hr ?_; (case hd => rfl); (case hg => rfl); (case hr => first | (go_simp; done) | (go_simp; rfl)); intro gb200 hg w66 hbox hb; have n0_ := Aside0.mk (Kd.R_below (by (with_reducible repeat (first | apply Kd.R_alloc | apply Kd.R_drewN | apply Kd.R_drew)); exact HO_38.out) hb); have n1_ := Aside0.mk (Kd.R_below (by (with_reducible repeat (first | apply Kd.R_alloc | apply Kd.R_drewN | apply Kd.R_drew)); exact HO_48.out) hb); have n2_ := kb_ BK176 hb; have n3_ := kb_ BK177 hb; have n4_ := kb_ BK182 hb; have n5_ := bs_ HB hb; have n6_ := Aside0.mk (hbox); have n7_ := ge_ hg HB; have n8_ := ge_ hg HB; have n9_ := nl_ hg BK176; have n10_ := ng_ hg BK176; have n11_ := nl_ hg BK177; have n12_ := ng_ hg BK177; have n13_ := nl_ hg BK182; have n14_ := ng_ hg BK182; clear HO_38; clear HO_48; clear BK176; clear BK177; clear BK182; clear HB; have HO_38 := n0_; have HO_48 := n1_; have BK176 := n2_; have BK177 := n3_; have BK182 := n4_; have HB := n5_; have BK200 := n6_; have GW200 := n7_; have GE200 := n8_; have NB176_200 := n9_; have NB200_176 := n10_; have NB177_200 := n11_; have NB200_177 := n12_; have NB182_200 := n13_; have NB200_182 := n14_; clear n0_ n1_ n2_ n3_ n4_ n5_ n6_ n7_ n8_ n9_ n10_ n11_ n12_ n13_ n14_; clear hb hbox hg; have hnb67 := NB200_176.out; have hnc67 := NB176_200.out; have hnb68 := NB200_177.out; have hnc68 := NB177_200.out; have hnb69 := NB200_182.out; have hnc69 := NB182_200.out; have hcz70_0 : w66.cell? ⟨gb200, 0, none⟩ = some (.bool false) := (blk_cell BK200.out 0).trans rfl; have hcz70_1 : w66.cell? ⟨gb200, 1, none⟩ = some (.int .i64 0) := (blk_cell BK200.out 1).trans rfl; have hcz70_2 : w66.cell? ⟨gb200, 2, none⟩ = some (.int .i64 0) := (blk_cell BK200.out 2).trans rfl; have hcz70_3 : w66.cell? ⟨gb200, 3, none⟩ = some (.int .i64 0) := (blk_cell BK200.out 3).trans rfl; have hcz70_4 : w66.cell? ⟨gb200, 4, none⟩ = some (.int .i64 0) := (blk_cell BK200.out 4).trans rfl; have hcz70_5 : w66.cell? ⟨gb200, 5, none⟩ = some (.int .i64 0) := (blk_cell BK200.out 5).trans rfl; have hcz70_6 : w66.cell? ⟨gb200, 6, none⟩ = some (.int .i64 0) := (blk_cell BK200.out 6).trans rfl; have hfz70_0 := blk_frozen BK200.out 0; have hfz70_1 := blk_frozen BK200.out 1; have hfz70_2 := blk_frozen BK200.out 2; have hfz70_3 := blk_frozen BK200.out 3; have hfz70_4 := blk_frozen BK200.out 4; have hfz70_5 := blk_frozen BK200.out 5; have hfz70_6 := blk_frozen BK200.out 6) | ((with_reducible refine gate_callee (f := 29) rfl ?_); refine goesL_ (some 58) rfl rfl Try.func29 (by kernel_rfl) rfl #[.agg #[.bool t193, .int .i64 t194, .int .i64 t195, .int .i64 t196, .int .i64 t197, .int .i64 t198, .int .i64 t199]] rfl (by (try simp only [List.map_toArray, List.map_cons, List.map_nil]); first | done | rfl | (simp only [List.length_drop, List.length_take]; rfl)) ?_; (with_reducible refine (ephemerisref2_Fine.calls k2 t193 t194 t195 t196 t197 t198 t199 true _ A42.out).mono ?_); rintro e w71 ⟨rfl, hb⟩; refine ⟨_, rfl, ?_⟩; have n0_ := Aside0.mk (Kd.R_below (by (with_reducible repeat (first | apply Kd.R_alloc | apply Kd.R_drewN | apply Kd.R_drew)); exact (Kd.R_mono (Kd.R_far (p := ⟨gb200, 6, none⟩) (Kd.R_far (p := ⟨gb200, 5, none⟩) (Kd.R_far (p := ⟨gb200, 4, none⟩) (Kd.R_far (p := ⟨gb200, 3, none⟩) (Kd.R_far (p := ⟨gb200, 2, none⟩) (Kd.R_far (p := ⟨gb200, 1, none⟩) (Kd.R_far (p := ⟨gb200, 0, none⟩) (Kd.R_types HO_38.out BK200.out (by decide)) (fun _ hk => hk.2) (.bool t193)) (fun _ hk => hk.2) (.int .i64 t194)) (fun _ hk => hk.2) (.int .i64 t195)) (fun _ hk => hk.2) (.int .i64 t196)) (fun _ hk => hk.2) (.int .i64 t197)) (fun _ hk => hk.2) (.int .i64 t198)) (fun _ hk => hk.2) (.int .i64 t199)) (fun _ h_ => h_.1))) hb); have n1_ := Aside0.mk (Kd.R_below (by (with_reducible repeat (first | apply Kd.R_alloc | apply Kd.R_drewN | apply Kd.R_drew)); exact (Kd.R_mono (Kd.R_far (p := ⟨gb200, 6, none⟩) (Kd.R_far (p := ⟨gb200, 5, none⟩) (Kd.R_far (p := ⟨gb200, 4, none⟩) (Kd.R_far (p := ⟨gb200, 3, none⟩) (Kd.R_far (p := ⟨gb200, 2, none⟩) (Kd.R_far (p := ⟨gb200, 1, none⟩) (Kd.R_far (p := ⟨gb200, 0, none⟩) (Kd.R_types HO_48.out BK200.out (by decide)) (fun _ hk => hk.2) (.bool t193)) (fun _ hk => hk.2) (.int .i64 t194)) (fun _ hk => hk.2) (.int .i64 t195)) (fun _ hk => hk.2) (.int .i64 t196)) (fun _ hk => hk.2) (.int .i64 t197)) (fun _ hk => hk.2) (.int .i64 t198)) (fun _ hk => hk.2) (.int .i64 t199)) (fun _ h_ => h_.1))) hb); have n2_ := kb_ BK176 hb; have n3_ := kb_ BK177 hb; have n4_ := kb_ BK182 hb; have n5_ := Aside0.mk (blk_below (g := gb200) (o := .cells #[.bool t193, .int .i64 t194, .int .i64 t195, .int .i64 t196, .int .i64 t197, .int .i64 t198, .int .i64 t199] 46 (0, 0)) (by (with_reducible repeat (first | refine blk_drewN ?_ _ | refine blk_drew ?_ | refine blk_alloc ?_ _)); refine blk_put (cs := #[.bool t193, .int .i64 t194, .int .i64 t195, .int .i64 t196, .int .i64 t197, .int .i64 t198, .int .i64 0]) ?_ 6 _ rfl; (with_reducible repeat (first | refine blk_drewN ?_ _ | refine blk_drew ?_ | refine blk_alloc ?_ _)); refine blk_put (cs := #[.bool t193, .int .i64 t194, .int .i64 t195, .int .i64 t196, .int .i64 t197, .int .i64 0, .int .i64 0]) ?_ 5 _ rfl; (with_reducible repeat (first | refine blk_drewN ?_ _ | refine blk_drew ?_ | refine blk_alloc ?_ _)); refine blk_put (cs := #[.bool t193, .int .i64 t194, .int .i64 t195, .int .i64 t196, .int .i64 0, .int .i64 0, .int .i64 0]) ?_ 4 _ rfl; (with_reducible repeat (first | refine blk_drewN ?_ _ | refine blk_drew ?_ | refine blk_alloc ?_ _)); refine blk_put (cs := #[.bool t193, .int .i64 t194, .int .i64 t195, .int .i64 0, .int .i64 0, .int .i64 0, .int .i64 0]) ?_ 3 _ rfl; (with_reducible repeat (first | refine blk_drewN ?_ _ | refine blk_drew ?_ | refine blk_alloc ?_ _)); refine blk_put (cs := #[.bool t193, .int .i64 t194, .int .i64 0, .int .i64 0, .int .i64 0, .int .i64 0, .int .i64 0]) ?_ 2 _ rfl; (with_reducible repeat (first | refine blk_drewN ?_ _ | refine blk_drew ?_ | refine blk_alloc ?_ _)); refine blk_put (cs := #[.bool t193, .int .i64 0, .int .i64 0, .int .i64 0, .int .i64 0, .int .i64 0, .int .i64 0]) ?_ 1 _ rfl; (with_reducible repeat (first | refine blk_drewN ?_ _ | refine blk_drew ?_ | refine blk_alloc ?_ _)); refine blk_put (cs := #[.bool false, .int .i64 0, .int .i64 0, .int .i64 0, .int .i64 0, .int .i64 0, .int .i64 0]) ?_ 0 _ rfl; (with_reducible repeat (first | refine blk_drewN ?_ _ | refine blk_drew ?_ | refine blk_alloc ?_ _)); exact BK200.out) hb); have n6_ := bs_ HB hb; clear HO_38; clear HO_48; clear BK176; clear BK177; clear BK182; clear BK200; clear HB; have HO_38 := n0_; have HO_48 := n1_; have BK176 := n2_; have BK177 := n3_; have BK182 := n4_; have BK200 := n5_; have HB := n6_; clear n0_ n1_ n2_ n3_ n4_ n5_ n6_; (try clear hb); (try clear hb2); (try clear hk); (try clear hi)))
                   replace HO_38 := Aside0.mk (Kd.R_drew HO_38.out)
                   replace HO_48 := Aside0.mk (Kd.R_drew HO_48.out)
                   replace BK176 := Aside0.mk (blk_drew BK176.out)
                   replace BK177 := Aside0.mk (blk_drew BK177.out)
                   replace BK182 := Aside0.mk (blk_drew BK182.out)
                   replace BK200 := Aside0.mk (blk_drew BK200.out)
                   replace HB := Aside0.mk (below_drew1 HB.out)
                   refine start_ (n := 12) (S := fun w' => w'.cell? ⟨gb182, 0, none⟩ = some (.int .i64 t179) ∧ w'.cell? ⟨gb182, 1, none⟩ = some (.int .i64 t180) ∧ w'.cell? ⟨gb200, 0, none⟩ = some (.bool t193) ∧ w'.cell? ⟨gb200, 1, none⟩ = some (.int .i64 t194) ∧ w'.cell? ⟨gb200, 2, none⟩ = some (.int .i64 t195) ∧ w'.cell? ⟨gb200, 3, none⟩ = some (.int .i64 t196) ∧ w'.cell? ⟨gb200, 4, none⟩ = some (.int .i64 t197) ∧ w'.cell? ⟨gb200, 5, none⟩ = some (.int .i64 t198) ∧ w'.cell? ⟨gb200, 6, none⟩ = some (.int .i64 t199)) (ds := []) #[false, false, false, false, false, false, false, false, false, false, false, false] (by kernel_rfl) rfl rfl ⟨(blk_cell BK182.out 0).trans rfl, (blk_cell BK182.out 1).trans rfl, (blk_cell BK200.out 0).trans rfl, (blk_cell BK200.out 1).trans rfl, (blk_cell BK200.out 2).trans rfl, (blk_cell BK200.out 3).trans rfl, (blk_cell BK200.out 4).trans rfl, (blk_cell BK200.out 5).trans rfl, (blk_cell BK200.out 6).trans rfl⟩ (fun hHeld => ?_); refine with_tabW ephemerislaw2_IntervalMuls.tab17 ephemerislaw2_IntervalMuls.bits17 (fun HT_ HW_ => ?_)
                   generalize w71.drew = w72 at HO_38 HO_48 BK176 BK177 BK182 BK200 HB hHeld ⊢
                   refine pure_ (i := 0) (N := some 63) (v := ?_) (a' := ?_) #[true, false, false, false, false, false, false, false, false, false, false, false] rfl rfl (any_of HT_.out (by kernel_rfl)) (fun _ _ _ h => h) (Or.inl ⟨by rfl, ?_⟩) ?_ ?_
                   rotate_left
                   ·intro w'
                    go_simp
                    with_reducible rfl
                   rotate_left
                   ·simp only [Act.put, List.setIfInBounds_toArray, List.set_cons_zero, List.set_cons_succ, i64_w, i32_w]
                    rfl
                   refine pure_ (i := 6) (N := some 69) (v := ?_) (a' := ?_) #[true, false, false, false, false, false, true, false, false, false, false, false] rfl rfl (any_of HT_.out (by kernel_rfl)) (fun _ _ _ h => h) (Or.inl ⟨by rfl, ?_⟩) ?_ ?_
                   rotate_left
                   ·intro w'
                    go_simp
                    with_reducible rfl
                   rotate_left
                   ·simp only [Act.put, List.setIfInBounds_toArray, List.set_cons_zero, List.set_cons_succ, i64_w, i32_w]
                    rfl
                   refine take_ (i := 1) (N := some 64) (v := ?_) (a' := ?_) #[true, true, false, false, false, false, true, false, false, false, false, false] rfl rfl (take_ofW HT_.out HW_.out (by kernel_rfl)) (fun _ _ _ h => h) (Or.inl ⟨by rfl, ?_⟩) hHeld ?_ ?_
                   rotate_left
                   ·rintro w' ⟨s0, s1, s2, s3, s4, s5, s6, s7, s8⟩
                    go_simp
                    with_reducible rfl
                   rotate_left
                   ·simp only [Act.put, List.setIfInBounds_toArray, List.set_cons_zero, List.set_cons_succ, i64_w, i32_w]
                    rfl
                   refine take_ (i := 3) (N := some 66) (v := ?_) (a' := ?_) #[true, true, false, true, false, false, true, false, false, false, false, false] rfl rfl (take_ofW HT_.out HW_.out (by kernel_rfl)) (fun _ _ _ h => h) (Or.inl ⟨by rfl, ?_⟩) hHeld ?_ ?_
                   rotate_left
                   ·rintro w' ⟨s0, s1, s2, s3, s4, s5, s6, s7, s8⟩
                    go_simp
                    with_reducible rfl
                   rotate_left
                   ·simp only [Act.put, List.setIfInBounds_toArray, List.set_cons_zero, List.set_cons_succ, i64_w, i32_w]
                    rfl
                   refine take_ (i := 5) (N := some 68) (v := ?_) (a' := ?_) #[true, true, false, true, false, true, true, false, false, false, false, false] rfl rfl (take_ofW HT_.out HW_.out (by kernel_rfl)) (fun _ _ _ h => h) (Or.inl ⟨by rfl, ?_⟩) hHeld ?_ ?_
                   rotate_left
                   ·rintro w' ⟨s0, s1, s2, s3, s4, s5, s6, s7, s8⟩
                    go_simp
                    with_reducible rfl
                   rotate_left
                   ·simp only [Act.put, List.setIfInBounds_toArray, List.set_cons_zero, List.set_cons_succ, i64_w, i32_w]
                    rfl
                   refine take_ (i := 7) (N := some 70) (v := ?_) (a' := ?_) #[true, true, false, true, false, true, true, true, false, false, false, false] rfl rfl (take_ofW HT_.out HW_.out (by kernel_rfl)) (fun _ _ _ h => h) (Or.inl ⟨by rfl, ?_⟩) hHeld ?_ ?_
                   rotate_left
                   ·rintro w' ⟨s0, s1, s2, s3, s4, s5, s6, s7, s8⟩
                    go_simp
                    with_reducible rfl
                   rotate_left
                   ·simp only [Act.put, List.setIfInBounds_toArray, List.set_cons_zero, List.set_cons_succ, i64_w, i32_w]
                    rfl
                   refine one_ (i := 2) (N := some 65) #[true, true, true, true, false, true, true, true, false, false, false, false] rfl rfl (one_of HT_.out (by kernel_rfl)) (by decide) (fun K hK => ?_)
                   refine goes_ Try.func31 (by kernel_rfl) rfl #[.int .i64 t179] (by rfl) rfl rfl (by (try simp only [List.map_toArray, List.map_cons, List.map_nil]); first | done | rfl | (simp only [List.length_drop, List.length_take]; rfl)) ?_
                   with_reducible refine (ephemerisref2_ToWide.calls k2 t179 t203 t204 t205 t206 t207 t208 t209 _ A44.out).mono ?_
                   rintro e w73 ⟨rfl, hb⟩
                   refine ⟨_, rfl, ?_⟩
                   have n0_ := Aside0.mk (Kd.R_below (by (with_reducible repeat (first | apply Kd.R_alloc | apply Kd.R_drewN | apply Kd.R_drew)); exact HO_38.out) hb)
                   have n1_ := Aside0.mk (Kd.R_below (by (with_reducible repeat (first | apply Kd.R_alloc | apply Kd.R_drewN | apply Kd.R_drew)); exact HO_48.out) hb)
                   have n2_ := kb_ BK176 hb
                   have n3_ := kb_ BK177 hb
                   have n4_ := kb_ BK182 hb
                   have n5_ := kb_ BK200 hb
                   have n6_ := bs_ HB hb
                   clear HO_38
                   clear HO_48
                   clear BK176
                   clear BK177
                   clear BK182
                   clear BK200
                   clear HB
                   have HO_38 := n0_
                   have HO_48 := n1_
                   have BK176 := n2_
                   have BK177 := n3_
                   have BK182 := n4_
                   have BK200 := n5_
                   have HB := n6_
                   clear n0_ n1_ n2_ n3_ n4_ n5_ n6_
                   (try clear hb)
                   (try clear hb2)
                   (try clear hk)
                   (try clear hi)
                   refine hK.out _ _ ⟨(blk_cell BK182.out 0).trans rfl, (blk_cell BK182.out 1).trans rfl, (blk_cell BK200.out 0).trans rfl, (blk_cell BK200.out 1).trans rfl, (blk_cell BK200.out 2).trans rfl, (blk_cell BK200.out 3).trans rfl, (blk_cell BK200.out 4).trans rfl, (blk_cell BK200.out 5).trans rfl, (blk_cell BK200.out 6).trans rfl⟩ (fun hHeld => ?_)
                   clear hK K
                   refine norm_ (a' := ?_) ?_ ?_
                   rotate_left
                   ·show Act.put _ (some 65) _ = _
                    simp only [Act.put, List.setIfInBounds_toArray, List.set_cons_zero, List.set_cons_succ, i64_w, i32_w]
                    rfl
                   refine one_ (i := 4) (N := some 67) #[true, true, true, true, true, true, true, true, false, false, false, false] rfl rfl (one_of HT_.out (by kernel_rfl)) (by decide) (fun K hK => ?_)
                   refine goes_ Try.func30 (by kernel_rfl) rfl #[.agg #[.bool t203, .int .i64 t204, .int .i64 t205, .int .i64 t206, .int .i64 t207, .int .i64 t208, .int .i64 t209], .agg #[.bool t193, .int .i64 t194, .int .i64 t195, .int .i64 t196, .int .i64 t197, .int .i64 t198, .int .i64 t199]] (by rfl) rfl rfl (by (try simp only [List.map_toArray, List.map_cons, List.map_nil]); first | done | rfl | (simp only [List.length_drop, List.length_take]; rfl)) ?_
                   with_reducible refine (ephemerisref2_Compare.calls k2 t203 t204 t205 t206 t207 t208 t209 t193 t194 t195 t196 t197 t198 t199 t210 _ A45.out).mono ?_
                   rintro e w74 ⟨rfl, hb⟩
                   refine ⟨_, rfl, ?_⟩
                   have n0_ := Aside0.mk (Kd.R_below (by (with_reducible repeat (first | apply Kd.R_alloc | apply Kd.R_drewN | apply Kd.R_drew)); exact HO_38.out) hb)
                   have n1_ := Aside0.mk (Kd.R_below (by (with_reducible repeat (first | apply Kd.R_alloc | apply Kd.R_drewN | apply Kd.R_drew)); exact HO_48.out) hb)
                   have n2_ := kb_ BK176 hb
                   have n3_ := kb_ BK177 hb
                   have n4_ := kb_ BK182 hb
                   have n5_ := kb_ BK200 hb
                   have n6_ := bs_ HB hb
                   clear HO_38
                   clear HO_48
                   clear BK176
                   clear BK177
                   clear BK182
                   clear BK200
                   clear HB
                   have HO_38 := n0_
                   have HO_48 := n1_
                   have BK176 := n2_
                   have BK177 := n3_
                   have BK182 := n4_
                   have BK200 := n5_
                   have HB := n6_
                   clear n0_ n1_ n2_ n3_ n4_ n5_ n6_
                   (try clear hb)
                   (try clear hb2)
                   (try clear hk)
                   (try clear hi)
                   refine hK.out _ _ ⟨(blk_cell BK182.out 0).trans rfl, (blk_cell BK182.out 1).trans rfl, (blk_cell BK200.out 0).trans rfl, (blk_cell BK200.out 1).trans rfl, (blk_cell BK200.out 2).trans rfl, (blk_cell BK200.out 3).trans rfl, (blk_cell BK200.out 4).trans rfl, (blk_cell BK200.out 5).trans rfl, (blk_cell BK200.out 6).trans rfl⟩ (fun hHeld => ?_)
                   clear hK K
                   refine norm_ (a' := ?_) ?_ ?_
                   rotate_left
                   ·show Act.put _ (some 67) _ = _
                    simp only [Act.put, List.setIfInBounds_toArray, List.set_cons_zero, List.set_cons_succ, i64_w, i32_w]
                    rfl
                   refine one_ (i := 8) (N := some 71) #[true, true, true, true, true, true, true, true, true, false, false, false] rfl rfl (one_of HT_.out (by kernel_rfl)) (by decide) (fun K hK => ?_)
                   refine goes_ Try.func31 (by kernel_rfl) rfl #[.int .i64 t180] (by rfl) rfl rfl (by (try simp only [List.map_toArray, List.map_cons, List.map_nil]); first | done | rfl | (simp only [List.length_drop, List.length_take]; rfl)) ?_
                   with_reducible refine (ephemerisref2_ToWide.calls k2 t180 t211 t212 t213 t214 t215 t216 t217 _ A46.out).mono ?_
                   rintro e w75 ⟨rfl, hb⟩
                   refine ⟨_, rfl, ?_⟩
                   have n0_ := Aside0.mk (Kd.R_below (by (with_reducible repeat (first | apply Kd.R_alloc | apply Kd.R_drewN | apply Kd.R_drew)); exact HO_38.out) hb)
                   have n1_ := Aside0.mk (Kd.R_below (by (with_reducible repeat (first | apply Kd.R_alloc | apply Kd.R_drewN | apply Kd.R_drew)); exact HO_48.out) hb)
                   have n2_ := kb_ BK176 hb
                   have n3_ := kb_ BK177 hb
                   have n4_ := kb_ BK182 hb
                   have n5_ := kb_ BK200 hb
                   have n6_ := bs_ HB hb
                   clear HO_38
                   clear HO_48
                   clear BK176
                   clear BK177
                   clear BK182
                   clear BK200
                   clear HB
                   have HO_38 := n0_
                   have HO_48 := n1_
                   have BK176 := n2_
                   have BK177 := n3_
                   have BK182 := n4_
                   have BK200 := n5_
                   have HB := n6_
                   clear n0_ n1_ n2_ n3_ n4_ n5_ n6_
                   (try clear hb)
                   (try clear hb2)
                   (try clear hk)
                   (try clear hi)
                   refine hK.out _ _ ⟨(blk_cell BK182.out 0).trans rfl, (blk_cell BK182.out 1).trans rfl, (blk_cell BK200.out 0).trans rfl, (blk_cell BK200.out 1).trans rfl, (blk_cell BK200.out 2).trans rfl, (blk_cell BK200.out 3).trans rfl, (blk_cell BK200.out 4).trans rfl, (blk_cell BK200.out 5).trans rfl, (blk_cell BK200.out 6).trans rfl⟩ (fun hHeld => ?_)
                   clear hK K
                   refine norm_ (a' := ?_) ?_ ?_
                   rotate_left
                   ·show Act.put _ (some 71) _ = _
                    simp only [Act.put, List.setIfInBounds_toArray, List.set_cons_zero, List.set_cons_succ, i64_w, i32_w]
                    rfl
                   refine one_ (i := 9) (N := some 72) #[true, true, true, true, true, true, true, true, true, true, false, false] rfl rfl (one_of HT_.out (by kernel_rfl)) (by decide) (fun K hK => ?_)
                   refine goes_ Try.func30 (by kernel_rfl) rfl #[.agg #[.bool t193, .int .i64 t194, .int .i64 t195, .int .i64 t196, .int .i64 t197, .int .i64 t198, .int .i64 t199], .agg #[.bool t211, .int .i64 t212, .int .i64 t213, .int .i64 t214, .int .i64 t215, .int .i64 t216, .int .i64 t217]] (by rfl) rfl rfl (by (try simp only [List.map_toArray, List.map_cons, List.map_nil]); first | done | rfl | (simp only [List.length_drop, List.length_take]; rfl)) ?_
                   with_reducible refine (ephemerisref2_Compare.calls k2 t193 t194 t195 t196 t197 t198 t199 t211 t212 t213 t214 t215 t216 t217 t218 _ A47.out).mono ?_
                   rintro e w76 ⟨rfl, hb⟩
                   refine ⟨_, rfl, ?_⟩
                   have n0_ := Aside0.mk (Kd.R_below (by (with_reducible repeat (first | apply Kd.R_alloc | apply Kd.R_drewN | apply Kd.R_drew)); exact HO_38.out) hb)
                   have n1_ := Aside0.mk (Kd.R_below (by (with_reducible repeat (first | apply Kd.R_alloc | apply Kd.R_drewN | apply Kd.R_drew)); exact HO_48.out) hb)
                   have n2_ := kb_ BK176 hb
                   have n3_ := kb_ BK177 hb
                   have n4_ := kb_ BK182 hb
                   have n5_ := kb_ BK200 hb
                   have n6_ := bs_ HB hb
                   clear HO_38
                   clear HO_48
                   clear BK176
                   clear BK177
                   clear BK182
                   clear BK200
                   clear HB
                   have HO_38 := n0_
                   have HO_48 := n1_
                   have BK176 := n2_
                   have BK177 := n3_
                   have BK182 := n4_
                   have BK200 := n5_
                   have HB := n6_
                   clear n0_ n1_ n2_ n3_ n4_ n5_ n6_
                   (try clear hb)
                   (try clear hb2)
                   (try clear hk)
                   (try clear hi)
                   refine hK.out _ _ ⟨(blk_cell BK182.out 0).trans rfl, (blk_cell BK182.out 1).trans rfl, (blk_cell BK200.out 0).trans rfl, (blk_cell BK200.out 1).trans rfl, (blk_cell BK200.out 2).trans rfl, (blk_cell BK200.out 3).trans rfl, (blk_cell BK200.out 4).trans rfl, (blk_cell BK200.out 5).trans rfl, (blk_cell BK200.out 6).trans rfl⟩ (fun hHeld => ?_)
                   clear hK K
                   refine norm_ (a' := ?_) ?_ ?_
                   rotate_left
                   ·show Act.put _ (some 72) _ = _
                    simp only [Act.put, List.setIfInBounds_toArray, List.set_cons_zero, List.set_cons_succ, i64_w, i32_w]
                    rfl
                   refine pure_ (i := 10) (N := some 15) (v := ?_) (a' := ?_) #[true, true, true, true, true, true, true, true, true, true, true, false] rfl rfl (any_of HT_.out (by kernel_rfl)) (fun _ _ _ h => h) (Or.inl ⟨by rfl, ?_⟩) ?_ ?_
                   rotate_left
                   ·intro w'
                    go_simp
                    with_reducible rfl
                   rotate_left
                   ·simp only [Act.put, List.setIfInBounds_toArray, List.set_cons_zero, List.set_cons_succ, i64_w, i32_w]
                    rfl
                   refine pure_ (i := 11) (N := some 16) (v := ?_) (a' := ?_) #[true, true, true, true, true, true, true, true, true, true, true, true] rfl rfl (any_of HT_.out (by kernel_rfl)) (fun _ _ _ h => h) (Or.inl ⟨by rfl, ?_⟩) ?_ ?_
                   rotate_left
                   ·intro w'
                    go_simp
                    with_reducible rfl
                   rotate_left
                   ·simp only [Act.put, List.setIfInBounds_toArray, List.set_cons_zero, List.set_cons_succ, i64_w, i32_w]
                    rfl
                   refine done_ (done_of HT_.out (by kernel_rfl)) ?_
                   try go_wp2
                   go_roundg k2
                   case measure => have := HK1.out; have := HK2.out; omega
                   case rel => exact ⟨(true), ((t218 == 0)), (wrap64 (x50_2 + 1)), (by first | rfl | (simp; done) | (simp [*]; done)), (by first | rfl | (simp; done) | (simp [*]; done)), (by first | rfl | (simp; done) | (simp [*]; done)), H', ⟨by have := HK1.out; have := HK2.out; omega⟩, ⟨by (with_reducible repeat (first | apply Kd.R_alloc | apply Kd.R_drewN | apply Kd.R_drew)); exact HO_38.out⟩, ⟨by (with_reducible repeat (first | apply Kd.R_alloc | apply Kd.R_drewN | apply Kd.R_drew)); exact HO_48.out⟩, ⟨kk_ BK176⟩, ⟨kk_ BK177⟩, ⟨kk_ BK182⟩, (be_ HB)⟩
                 ·replace c51 := Bool.eq_false_iff.mpr c51
                  subst c51
                  have H1 : (if x9_2 = true then (ephemerislaw2_IntervalMuls.l1 k2 t181 (t210 == 0) true (rd y185 x40_1) y185 (y185.length : Int) x40_1 y189 (y189.length : Int) (wrap64 (x50_2 + 1)) a1_0 a1_1 t179 t180) else (ephemerislaw2_IntervalMuls.l1 k2 t181 (t210 == 0) (t218 == 0) (rd y185 x40_1) y185 (y185.length : Int) x40_1 y189 (y189.length : Int) (wrap64 (x50_2 + 1)) a1_0 a1_1 t179 t180)) = some r := by rw [if_neg (show ¬ (false = true) by decide)] at H; exact H
                  clear H
                  have H := H1
                  clear H1
                  by_cases c77 : x9_2 = true
                  ·subst c77
                   have H1 : (ephemerislaw2_IntervalMuls.l1 k2 t181 (t210 == 0) true (rd y185 x40_1) y185 (y185.length : Int) x40_1 y189 (y189.length : Int) (wrap64 (x50_2 + 1)) a1_0 a1_1 t179 t180) = some r := by rw [if_pos rfl] at H; exact H
                   clear H
                   have H := H1
                   clear H1
                   have H' := Aside0.mk H
                   clear H
                   have p192 : 0 ≤ (x50_2 : Int) := of_decide_eq_true (by first | (with_reducible assumption) | assumption)
                   have q192 : x50_2 < (y189.length : Int) := of_decide_eq_true (by first | (with_reducible assumption) | assumption)
                   obtain ⟨ad192, e192, hx192_0⟩ := Kd.at_int (Kd.R_reads' HO_48.out).2.2 x50_2 p192 q192
                   cases e192
                   replace p192 := eq_true p192
                   replace q192 := eq_true q192
                   try go_wp2_with (first | ((with_reducible refine gate_callee (f := 28) rfl ?_); refine goesL_ (some 56) rfl rfl Try.func28 (by kernel_rfl) rfl #[.int .i64 (rd y185 x40_1), .int .i64 (rd y189 x50_2)] rfl (by (try simp only [List.map_toArray, List.map_cons, List.map_nil]); first | done | rfl | (simp only [List.length_drop, List.length_take]; rfl)) ?_; (with_reducible refine (ephemerisref2_Product.calls k2 (rd y185 x40_1) (rd y189 x50_2) t193 t194 t195 t196 t197 t198 t199 _ A41.out).mono ?_); rintro e w78 ⟨rfl, hb⟩; refine ⟨_, rfl, ?_⟩; have n0_ := Aside0.mk (Kd.R_below (by (with_reducible repeat (first | apply Kd.R_alloc | apply Kd.R_drewN | apply Kd.R_drew)); exact HO_38.out) hb); have n1_ := Aside0.mk (Kd.R_below (by (with_reducible repeat (first | apply Kd.R_alloc | apply Kd.R_drewN | apply Kd.R_drew)); exact HO_48.out) hb); have n2_ := kb_ BK176 hb; have n3_ := kb_ BK177 hb; have n4_ := kb_ BK182 hb; have n5_ := bs_ HB hb; clear HO_38; clear HO_48; clear BK176; clear BK177; clear BK182; clear HB; have HO_38 := n0_; have HO_48 := n1_; have BK176 := n2_; have BK177 := n3_; have BK182 := n4_; have HB := n5_; clear n0_ n1_ n2_ n3_ n4_ n5_; (try clear hb); (try clear hb2); (try clear hk); (try clear hi)) | ((with_reducible refine gate_dst (N := 14) rfl ?_); refine box_event ?hg (N := 14) ?hd (cs := #[.bool false, .int .i64 0, .int .i64 0, .int .i64 0, .int .i64 0, .int .i64 0, .int .i64 0]) (t := 46) ?hr ?_; (case hd => rfl); (case hg => rfl); (case hr => first | (go_simp; done) | (go_simp; rfl)); intro gb200 hg w79 hbox hb; have n0_ := Aside0.mk (Kd.R_below (by (with_reducible repeat (first | apply Kd.R_alloc | apply Kd.R_drewN | apply Kd.R_drew)); exact HO_38.out) hb); have n1_ := Aside0.mk (Kd.R_below (by (with_reducible repeat (first | apply Kd.R_alloc | apply Kd.R_drewN | apply Kd.R_drew)); exact HO_48.out) hb); have n2_ := kb_ BK176 hb; have n3_ := kb_ BK177 hb; have n4_ := kb_ BK182 hb; have n5_ := bs_ HB hb; have n6_ := Aside0.mk (hbox); have n7_ := ge_ hg HB; have n8_ := ge_ hg HB; have n9_ := nl_ hg BK176; have n10_ := ng_ hg BK176; have n11_ := nl_ hg BK177; have n12_ := ng_ hg BK177; have n13_ := nl_ hg BK182; have n14_ := ng_ hg BK182; clear HO_38; clear HO_48; clear BK176; clear BK177; clear BK182; clear HB; have HO_38 := n0_; have HO_48 := n1_; have BK176 := n2_; have BK177 := n3_; have BK182 := n4_; have HB := n5_; have BK200 := n6_; have GW200 := n7_; have GE200 := n8_; have NB176_200 := n9_; have NB200_176 := n10_; have NB177_200 := n11_; have NB200_177 := n12_; have NB182_200 := n13_; have NB200_182 := n14_; clear n0_ n1_ n2_ n3_ n4_ n5_ n6_ n7_ n8_ n9_ n10_ n11_ n12_ n13_ n14_; clear hb hbox hg; have hnb80 := NB200_176.out; have hnc80 := NB176_200.out; have hnb81 := NB200_177.out; have hnc81 := NB177_200.out; have hnb82 := NB200_182.out; have hnc82 := NB182_200.out; have hcz83_0 : w79.cell? ⟨gb200, 0, none⟩ = some (.bool false) := (blk_cell BK200.out 0).trans rfl; have hcz83_1 : w79.cell? ⟨gb200, 1, none⟩ = some (.int .i64 0) := (blk_cell BK200.out 1).trans rfl; have hcz83_2 : w79.cell? ⟨gb200, 2, none⟩ = some (.int .i64 0) := (blk_cell BK200.out 2).trans rfl; have hcz83_3 : w79.cell? ⟨gb200, 3, none⟩ = some (.int .i64 0) := (blk_cell BK200.out 3).trans rfl; have hcz83_4 : w79.cell? ⟨gb200, 4, none⟩ = some (.int .i64 0) := (blk_cell BK200.out 4).trans rfl; have hcz83_5 : w79.cell? ⟨gb200, 5, none⟩ = some (.int .i64 0) := (blk_cell BK200.out 5).trans rfl; have hcz83_6 : w79.cell? ⟨gb200, 6, none⟩ = some (.int .i64 0) := (blk_cell BK200.out 6).trans rfl; have hfz83_0 := blk_frozen BK200.out 0; have hfz83_1 := blk_frozen BK200.out 1; have hfz83_2 := blk_frozen BK200.out 2; have hfz83_3 := blk_frozen BK200.out 3; have hfz83_4 := blk_frozen BK200.out 4; have hfz83_5 := blk_frozen BK200.out 5; have hfz83_6 := blk_frozen BK200.out 6) | ((with_reducible refine gate_callee (f := 29) rfl ?_); refine goesL_ (some 58) rfl rfl Try.func29 (by kernel_rfl) rfl #[.agg #[.bool t193, .int .i64 t194, .int .i64 t195, .int .i64 t196, .int .i64 t197, .int .i64 t198, .int .i64 t199]] rfl (by (try simp only [List.map_toArray, List.map_cons, List.map_nil]); first | done | rfl | (simp only [List.length_drop, List.length_take]; rfl)) ?_; (with_reducible refine (ephemerisref2_Fine.calls k2 t193 t194 t195 t196 t197 t198 t199 true _ A42.out).mono ?_); rintro e w84 ⟨rfl, hb⟩; refine ⟨_, rfl, ?_⟩; have n0_ := Aside0.mk (Kd.R_below (by (with_reducible repeat (first | apply Kd.R_alloc | apply Kd.R_drewN | apply Kd.R_drew)); exact (Kd.R_mono (Kd.R_far (p := ⟨gb200, 6, none⟩) (Kd.R_far (p := ⟨gb200, 5, none⟩) (Kd.R_far (p := ⟨gb200, 4, none⟩) (Kd.R_far (p := ⟨gb200, 3, none⟩) (Kd.R_far (p := ⟨gb200, 2, none⟩) (Kd.R_far (p := ⟨gb200, 1, none⟩) (Kd.R_far (p := ⟨gb200, 0, none⟩) (Kd.R_types HO_38.out BK200.out (by decide)) (fun _ hk => hk.2) (.bool t193)) (fun _ hk => hk.2) (.int .i64 t194)) (fun _ hk => hk.2) (.int .i64 t195)) (fun _ hk => hk.2) (.int .i64 t196)) (fun _ hk => hk.2) (.int .i64 t197)) (fun _ hk => hk.2) (.int .i64 t198)) (fun _ hk => hk.2) (.int .i64 t199)) (fun _ h_ => h_.1))) hb); have n1_ := Aside0.mk (Kd.R_below (by (with_reducible repeat (first | apply Kd.R_alloc | apply Kd.R_drewN | apply Kd.R_drew)); exact (Kd.R_mono (Kd.R_far (p := ⟨gb200, 6, none⟩) (Kd.R_far (p := ⟨gb200, 5, none⟩) (Kd.R_far (p := ⟨gb200, 4, none⟩) (Kd.R_far (p := ⟨gb200, 3, none⟩) (Kd.R_far (p := ⟨gb200, 2, none⟩) (Kd.R_far (p := ⟨gb200, 1, none⟩) (Kd.R_far (p := ⟨gb200, 0, none⟩) (Kd.R_types HO_48.out BK200.out (by decide)) (fun _ hk => hk.2) (.bool t193)) (fun _ hk => hk.2) (.int .i64 t194)) (fun _ hk => hk.2) (.int .i64 t195)) (fun _ hk => hk.2) (.int .i64 t196)) (fun _ hk => hk.2) (.int .i64 t197)) (fun _ hk => hk.2) (.int .i64 t198)) (fun _ hk => hk.2) (.int .i64 t199)) (fun _ h_ => h_.1))) hb); have n2_ := kb_ BK176 hb; have n3_ := kb_ BK177 hb; have n4_ := kb_ BK182 hb; have n5_ := Aside0.mk (blk_below (g := gb200) (o := .cells #[.bool t193, .int .i64 t194, .int .i64 t195, .int .i64 t196, .int .i64 t197, .int .i64 t198, .int .i64 t199] 46 (0, 0)) (by (with_reducible repeat (first | refine blk_drewN ?_ _ | refine blk_drew ?_ | refine blk_alloc ?_ _)); refine blk_put (cs := #[.bool t193, .int .i64 t194, .int .i64 t195, .int .i64 t196, .int .i64 t197, .int .i64 t198, .int .i64 0]) ?_ 6 _ rfl; (with_reducible repeat (first | refine blk_drewN ?_ _ | refine blk_drew ?_ | refine blk_alloc ?_ _)); refine blk_put (cs := #[.bool t193, .int .i64 t194, .int .i64 t195, .int .i64 t196, .int .i64 t197, .int .i64 0, .int .i64 0]) ?_ 5 _ rfl; (with_reducible repeat (first | refine blk_drewN ?_ _ | refine blk_drew ?_ | refine blk_alloc ?_ _)); refine blk_put (cs := #[.bool t193, .int .i64 t194, .int .i64 t195, .int .i64 t196, .int .i64 0, .int .i64 0, .int .i64 0]) ?_ 4 _ rfl; (with_reducible repeat (first | refine blk_drewN ?_ _ | refine blk_drew ?_ | refine blk_alloc ?_ _)); refine blk_put (cs := #[.bool t193, .int .i64 t194, .int .i64 t195, .int .i64 0, .int .i64 0, .int .i64 0, .int .i64 0]) ?_ 3 _ rfl; (with_reducible repeat (first | refine blk_drewN ?_ _ | refine blk_drew ?_ | refine blk_alloc ?_ _)); refine blk_put (cs := #[.bool t193, .int .i64 t194, .int .i64 0, .int .i64 0, .int .i64 0, .int .i64 0, .int .i64 0]) ?_ 2 _ rfl; (with_reducible repeat (first | refine blk_drewN ?_ _ | refine blk_drew ?_ | refine blk_alloc ?_ _)); refine blk_put (cs := #[.bool t193, .int .i64 0, .int .i64 0, .int .i64 0, .int .i64 0, .int .i64 0, .int .i64 0]) ?_ 1 _ rfl; (with_reducible repeat (first | refine blk_drewN ?_ _ | refine blk_drew ?_ | refine blk_alloc ?_ _)); refine blk_put (cs := #[.bool false, .int .i64 0, .int .i64 0, .int .i64 0, .int .i64 0, .int .i64 0, .int .i64 0]) ?_ 0 _ rfl; (with_reducible repeat (first | refine blk_drewN ?_ _ | refine blk_drew ?_ | refine blk_alloc ?_ _)); exact BK200.out) hb); have n6_ := bs_ HB hb; clear HO_38; clear HO_48; clear BK176; clear BK177; clear BK182; clear BK200; clear HB; have HO_38 := n0_; have HO_48 := n1_; have BK176 := n2_; have BK177 := n3_; have BK182 := n4_; have BK200 := n5_; have HB := n6_; clear n0_ n1_ n2_ n3_ n4_ n5_ n6_; (try clear hb); (try clear hb2); (try clear hk); (try clear hi)))
                   replace HO_38 := Aside0.mk (Kd.R_drew HO_38.out)
                   replace HO_48 := Aside0.mk (Kd.R_drew HO_48.out)
                   replace BK176 := Aside0.mk (blk_drew BK176.out)
                   replace BK177 := Aside0.mk (blk_drew BK177.out)
                   replace BK182 := Aside0.mk (blk_drew BK182.out)
                   replace BK200 := Aside0.mk (blk_drew BK200.out)
                   replace HB := Aside0.mk (below_drew1 HB.out)
                   refine start_ (n := 12) (S := fun w' => w'.cell? ⟨gb182, 0, none⟩ = some (.int .i64 t179) ∧ w'.cell? ⟨gb182, 1, none⟩ = some (.int .i64 t180) ∧ w'.cell? ⟨gb200, 0, none⟩ = some (.bool t193) ∧ w'.cell? ⟨gb200, 1, none⟩ = some (.int .i64 t194) ∧ w'.cell? ⟨gb200, 2, none⟩ = some (.int .i64 t195) ∧ w'.cell? ⟨gb200, 3, none⟩ = some (.int .i64 t196) ∧ w'.cell? ⟨gb200, 4, none⟩ = some (.int .i64 t197) ∧ w'.cell? ⟨gb200, 5, none⟩ = some (.int .i64 t198) ∧ w'.cell? ⟨gb200, 6, none⟩ = some (.int .i64 t199)) (ds := []) #[false, false, false, false, false, false, false, false, false, false, false, false] (by kernel_rfl) rfl rfl ⟨(blk_cell BK182.out 0).trans rfl, (blk_cell BK182.out 1).trans rfl, (blk_cell BK200.out 0).trans rfl, (blk_cell BK200.out 1).trans rfl, (blk_cell BK200.out 2).trans rfl, (blk_cell BK200.out 3).trans rfl, (blk_cell BK200.out 4).trans rfl, (blk_cell BK200.out 5).trans rfl, (blk_cell BK200.out 6).trans rfl⟩ (fun hHeld => ?_); refine with_tabW ephemerislaw2_IntervalMuls.tab17 ephemerislaw2_IntervalMuls.bits17 (fun HT_ HW_ => ?_)
                   generalize w84.drew = w85 at HO_38 HO_48 BK176 BK177 BK182 BK200 HB hHeld ⊢
                   refine pure_ (i := 0) (N := some 63) (v := ?_) (a' := ?_) #[true, false, false, false, false, false, false, false, false, false, false, false] rfl rfl (any_of HT_.out (by kernel_rfl)) (fun _ _ _ h => h) (Or.inl ⟨by rfl, ?_⟩) ?_ ?_
                   rotate_left
                   ·intro w'
                    go_simp
                    with_reducible rfl
                   rotate_left
                   ·simp only [Act.put, List.setIfInBounds_toArray, List.set_cons_zero, List.set_cons_succ, i64_w, i32_w]
                    rfl
                   refine pure_ (i := 6) (N := some 69) (v := ?_) (a' := ?_) #[true, false, false, false, false, false, true, false, false, false, false, false] rfl rfl (any_of HT_.out (by kernel_rfl)) (fun _ _ _ h => h) (Or.inl ⟨by rfl, ?_⟩) ?_ ?_
                   rotate_left
                   ·intro w'
                    go_simp
                    with_reducible rfl
                   rotate_left
                   ·simp only [Act.put, List.setIfInBounds_toArray, List.set_cons_zero, List.set_cons_succ, i64_w, i32_w]
                    rfl
                   refine take_ (i := 1) (N := some 64) (v := ?_) (a' := ?_) #[true, true, false, false, false, false, true, false, false, false, false, false] rfl rfl (take_ofW HT_.out HW_.out (by kernel_rfl)) (fun _ _ _ h => h) (Or.inl ⟨by rfl, ?_⟩) hHeld ?_ ?_
                   rotate_left
                   ·rintro w' ⟨s0, s1, s2, s3, s4, s5, s6, s7, s8⟩
                    go_simp
                    with_reducible rfl
                   rotate_left
                   ·simp only [Act.put, List.setIfInBounds_toArray, List.set_cons_zero, List.set_cons_succ, i64_w, i32_w]
                    rfl
                   refine take_ (i := 3) (N := some 66) (v := ?_) (a' := ?_) #[true, true, false, true, false, false, true, false, false, false, false, false] rfl rfl (take_ofW HT_.out HW_.out (by kernel_rfl)) (fun _ _ _ h => h) (Or.inl ⟨by rfl, ?_⟩) hHeld ?_ ?_
                   rotate_left
                   ·rintro w' ⟨s0, s1, s2, s3, s4, s5, s6, s7, s8⟩
                    go_simp
                    with_reducible rfl
                   rotate_left
                   ·simp only [Act.put, List.setIfInBounds_toArray, List.set_cons_zero, List.set_cons_succ, i64_w, i32_w]
                    rfl
                   refine take_ (i := 5) (N := some 68) (v := ?_) (a' := ?_) #[true, true, false, true, false, true, true, false, false, false, false, false] rfl rfl (take_ofW HT_.out HW_.out (by kernel_rfl)) (fun _ _ _ h => h) (Or.inl ⟨by rfl, ?_⟩) hHeld ?_ ?_
                   rotate_left
                   ·rintro w' ⟨s0, s1, s2, s3, s4, s5, s6, s7, s8⟩
                    go_simp
                    with_reducible rfl
                   rotate_left
                   ·simp only [Act.put, List.setIfInBounds_toArray, List.set_cons_zero, List.set_cons_succ, i64_w, i32_w]
                    rfl
                   refine take_ (i := 7) (N := some 70) (v := ?_) (a' := ?_) #[true, true, false, true, false, true, true, true, false, false, false, false] rfl rfl (take_ofW HT_.out HW_.out (by kernel_rfl)) (fun _ _ _ h => h) (Or.inl ⟨by rfl, ?_⟩) hHeld ?_ ?_
                   rotate_left
                   ·rintro w' ⟨s0, s1, s2, s3, s4, s5, s6, s7, s8⟩
                    go_simp
                    with_reducible rfl
                   rotate_left
                   ·simp only [Act.put, List.setIfInBounds_toArray, List.set_cons_zero, List.set_cons_succ, i64_w, i32_w]
                    rfl
                   refine one_ (i := 2) (N := some 65) #[true, true, true, true, false, true, true, true, false, false, false, false] rfl rfl (one_of HT_.out (by kernel_rfl)) (by decide) (fun K hK => ?_)
                   refine goes_ Try.func31 (by kernel_rfl) rfl #[.int .i64 t179] (by rfl) rfl rfl (by (try simp only [List.map_toArray, List.map_cons, List.map_nil]); first | done | rfl | (simp only [List.length_drop, List.length_take]; rfl)) ?_
                   with_reducible refine (ephemerisref2_ToWide.calls k2 t179 t203 t204 t205 t206 t207 t208 t209 _ A44.out).mono ?_
                   rintro e w86 ⟨rfl, hb⟩
                   refine ⟨_, rfl, ?_⟩
                   have n0_ := Aside0.mk (Kd.R_below (by (with_reducible repeat (first | apply Kd.R_alloc | apply Kd.R_drewN | apply Kd.R_drew)); exact HO_38.out) hb)
                   have n1_ := Aside0.mk (Kd.R_below (by (with_reducible repeat (first | apply Kd.R_alloc | apply Kd.R_drewN | apply Kd.R_drew)); exact HO_48.out) hb)
                   have n2_ := kb_ BK176 hb
                   have n3_ := kb_ BK177 hb
                   have n4_ := kb_ BK182 hb
                   have n5_ := kb_ BK200 hb
                   have n6_ := bs_ HB hb
                   clear HO_38
                   clear HO_48
                   clear BK176
                   clear BK177
                   clear BK182
                   clear BK200
                   clear HB
                   have HO_38 := n0_
                   have HO_48 := n1_
                   have BK176 := n2_
                   have BK177 := n3_
                   have BK182 := n4_
                   have BK200 := n5_
                   have HB := n6_
                   clear n0_ n1_ n2_ n3_ n4_ n5_ n6_
                   (try clear hb)
                   (try clear hb2)
                   (try clear hk)
                   (try clear hi)
                   refine hK.out _ _ ⟨(blk_cell BK182.out 0).trans rfl, (blk_cell BK182.out 1).trans rfl, (blk_cell BK200.out 0).trans rfl, (blk_cell BK200.out 1).trans rfl, (blk_cell BK200.out 2).trans rfl, (blk_cell BK200.out 3).trans rfl, (blk_cell BK200.out 4).trans rfl, (blk_cell BK200.out 5).trans rfl, (blk_cell BK200.out 6).trans rfl⟩ (fun hHeld => ?_)
                   clear hK K
                   refine norm_ (a' := ?_) ?_ ?_
                   rotate_left
                   ·show Act.put _ (some 65) _ = _
                    simp only [Act.put, List.setIfInBounds_toArray, List.set_cons_zero, List.set_cons_succ, i64_w, i32_w]
                    rfl
                   refine one_ (i := 4) (N := some 67) #[true, true, true, true, true, true, true, true, false, false, false, false] rfl rfl (one_of HT_.out (by kernel_rfl)) (by decide) (fun K hK => ?_)
                   refine goes_ Try.func30 (by kernel_rfl) rfl #[.agg #[.bool t203, .int .i64 t204, .int .i64 t205, .int .i64 t206, .int .i64 t207, .int .i64 t208, .int .i64 t209], .agg #[.bool t193, .int .i64 t194, .int .i64 t195, .int .i64 t196, .int .i64 t197, .int .i64 t198, .int .i64 t199]] (by rfl) rfl rfl (by (try simp only [List.map_toArray, List.map_cons, List.map_nil]); first | done | rfl | (simp only [List.length_drop, List.length_take]; rfl)) ?_
                   with_reducible refine (ephemerisref2_Compare.calls k2 t203 t204 t205 t206 t207 t208 t209 t193 t194 t195 t196 t197 t198 t199 t210 _ A45.out).mono ?_
                   rintro e w87 ⟨rfl, hb⟩
                   refine ⟨_, rfl, ?_⟩
                   have n0_ := Aside0.mk (Kd.R_below (by (with_reducible repeat (first | apply Kd.R_alloc | apply Kd.R_drewN | apply Kd.R_drew)); exact HO_38.out) hb)
                   have n1_ := Aside0.mk (Kd.R_below (by (with_reducible repeat (first | apply Kd.R_alloc | apply Kd.R_drewN | apply Kd.R_drew)); exact HO_48.out) hb)
                   have n2_ := kb_ BK176 hb
                   have n3_ := kb_ BK177 hb
                   have n4_ := kb_ BK182 hb
                   have n5_ := kb_ BK200 hb
                   have n6_ := bs_ HB hb
                   clear HO_38
                   clear HO_48
                   clear BK176
                   clear BK177
                   clear BK182
                   clear BK200
                   clear HB
                   have HO_38 := n0_
                   have HO_48 := n1_
                   have BK176 := n2_
                   have BK177 := n3_
                   have BK182 := n4_
                   have BK200 := n5_
                   have HB := n6_
                   clear n0_ n1_ n2_ n3_ n4_ n5_ n6_
                   (try clear hb)
                   (try clear hb2)
                   (try clear hk)
                   (try clear hi)
                   refine hK.out _ _ ⟨(blk_cell BK182.out 0).trans rfl, (blk_cell BK182.out 1).trans rfl, (blk_cell BK200.out 0).trans rfl, (blk_cell BK200.out 1).trans rfl, (blk_cell BK200.out 2).trans rfl, (blk_cell BK200.out 3).trans rfl, (blk_cell BK200.out 4).trans rfl, (blk_cell BK200.out 5).trans rfl, (blk_cell BK200.out 6).trans rfl⟩ (fun hHeld => ?_)
                   clear hK K
                   refine norm_ (a' := ?_) ?_ ?_
                   rotate_left
                   ·show Act.put _ (some 67) _ = _
                    simp only [Act.put, List.setIfInBounds_toArray, List.set_cons_zero, List.set_cons_succ, i64_w, i32_w]
                    rfl
                   refine one_ (i := 8) (N := some 71) #[true, true, true, true, true, true, true, true, true, false, false, false] rfl rfl (one_of HT_.out (by kernel_rfl)) (by decide) (fun K hK => ?_)
                   refine goes_ Try.func31 (by kernel_rfl) rfl #[.int .i64 t180] (by rfl) rfl rfl (by (try simp only [List.map_toArray, List.map_cons, List.map_nil]); first | done | rfl | (simp only [List.length_drop, List.length_take]; rfl)) ?_
                   with_reducible refine (ephemerisref2_ToWide.calls k2 t180 t211 t212 t213 t214 t215 t216 t217 _ A46.out).mono ?_
                   rintro e w88 ⟨rfl, hb⟩
                   refine ⟨_, rfl, ?_⟩
                   have n0_ := Aside0.mk (Kd.R_below (by (with_reducible repeat (first | apply Kd.R_alloc | apply Kd.R_drewN | apply Kd.R_drew)); exact HO_38.out) hb)
                   have n1_ := Aside0.mk (Kd.R_below (by (with_reducible repeat (first | apply Kd.R_alloc | apply Kd.R_drewN | apply Kd.R_drew)); exact HO_48.out) hb)
                   have n2_ := kb_ BK176 hb
                   have n3_ := kb_ BK177 hb
                   have n4_ := kb_ BK182 hb
                   have n5_ := kb_ BK200 hb
                   have n6_ := bs_ HB hb
                   clear HO_38
                   clear HO_48
                   clear BK176
                   clear BK177
                   clear BK182
                   clear BK200
                   clear HB
                   have HO_38 := n0_
                   have HO_48 := n1_
                   have BK176 := n2_
                   have BK177 := n3_
                   have BK182 := n4_
                   have BK200 := n5_
                   have HB := n6_
                   clear n0_ n1_ n2_ n3_ n4_ n5_ n6_
                   (try clear hb)
                   (try clear hb2)
                   (try clear hk)
                   (try clear hi)
                   refine hK.out _ _ ⟨(blk_cell BK182.out 0).trans rfl, (blk_cell BK182.out 1).trans rfl, (blk_cell BK200.out 0).trans rfl, (blk_cell BK200.out 1).trans rfl, (blk_cell BK200.out 2).trans rfl, (blk_cell BK200.out 3).trans rfl, (blk_cell BK200.out 4).trans rfl, (blk_cell BK200.out 5).trans rfl, (blk_cell BK200.out 6).trans rfl⟩ (fun hHeld => ?_)
                   clear hK K
                   refine norm_ (a' := ?_) ?_ ?_
                   rotate_left
                   ·show Act.put _ (some 71) _ = _
                    simp only [Act.put, List.setIfInBounds_toArray, List.set_cons_zero, List.set_cons_succ, i64_w, i32_w]
                    rfl
                   refine one_ (i := 9) (N := some 72) #[true, true, true, true, true, true, true, true, true, true, false, false] rfl rfl (one_of HT_.out (by kernel_rfl)) (by decide) (fun K hK => ?_)
                   refine goes_ Try.func30 (by kernel_rfl) rfl #[.agg #[.bool t193, .int .i64 t194, .int .i64 t195, .int .i64 t196, .int .i64 t197, .int .i64 t198, .int .i64 t199], .agg #[.bool t211, .int .i64 t212, .int .i64 t213, .int .i64 t214, .int .i64 t215, .int .i64 t216, .int .i64 t217]] (by rfl) rfl rfl (by (try simp only [List.map_toArray, List.map_cons, List.map_nil]); first | done | rfl | (simp only [List.length_drop, List.length_take]; rfl)) ?_
                   with_reducible refine (ephemerisref2_Compare.calls k2 t193 t194 t195 t196 t197 t198 t199 t211 t212 t213 t214 t215 t216 t217 t218 _ A47.out).mono ?_
                   rintro e w89 ⟨rfl, hb⟩
                   refine ⟨_, rfl, ?_⟩
                   have n0_ := Aside0.mk (Kd.R_below (by (with_reducible repeat (first | apply Kd.R_alloc | apply Kd.R_drewN | apply Kd.R_drew)); exact HO_38.out) hb)
                   have n1_ := Aside0.mk (Kd.R_below (by (with_reducible repeat (first | apply Kd.R_alloc | apply Kd.R_drewN | apply Kd.R_drew)); exact HO_48.out) hb)
                   have n2_ := kb_ BK176 hb
                   have n3_ := kb_ BK177 hb
                   have n4_ := kb_ BK182 hb
                   have n5_ := kb_ BK200 hb
                   have n6_ := bs_ HB hb
                   clear HO_38
                   clear HO_48
                   clear BK176
                   clear BK177
                   clear BK182
                   clear BK200
                   clear HB
                   have HO_38 := n0_
                   have HO_48 := n1_
                   have BK176 := n2_
                   have BK177 := n3_
                   have BK182 := n4_
                   have BK200 := n5_
                   have HB := n6_
                   clear n0_ n1_ n2_ n3_ n4_ n5_ n6_
                   (try clear hb)
                   (try clear hb2)
                   (try clear hk)
                   (try clear hi)
                   refine hK.out _ _ ⟨(blk_cell BK182.out 0).trans rfl, (blk_cell BK182.out 1).trans rfl, (blk_cell BK200.out 0).trans rfl, (blk_cell BK200.out 1).trans rfl, (blk_cell BK200.out 2).trans rfl, (blk_cell BK200.out 3).trans rfl, (blk_cell BK200.out 4).trans rfl, (blk_cell BK200.out 5).trans rfl, (blk_cell BK200.out 6).trans rfl⟩ (fun hHeld => ?_)
                   clear hK K
                   refine norm_ (a' := ?_) ?_ ?_
                   rotate_left
                   ·show Act.put _ (some 72) _ = _
                    simp only [Act.put, List.setIfInBounds_toArray, List.set_cons_zero, List.set_cons_succ, i64_w, i32_w]
                    rfl
                   refine pure_ (i := 10) (N := some 15) (v := ?_) (a' := ?_) #[true, true, true, true, true, true, true, true, true, true, true, false] rfl rfl (any_of HT_.out (by kernel_rfl)) (fun _ _ _ h => h) (Or.inl ⟨by rfl, ?_⟩) ?_ ?_
                   rotate_left
                   ·intro w'
                    go_simp
                    with_reducible rfl
                   rotate_left
                   ·simp only [Act.put, List.setIfInBounds_toArray, List.set_cons_zero, List.set_cons_succ, i64_w, i32_w]
                    rfl
                   refine pure_ (i := 11) (N := some 16) (v := ?_) (a' := ?_) #[true, true, true, true, true, true, true, true, true, true, true, true] rfl rfl (any_of HT_.out (by kernel_rfl)) (fun _ _ _ h => h) (Or.inl ⟨by rfl, ?_⟩) ?_ ?_
                   rotate_left
                   ·intro w'
                    go_simp
                    with_reducible rfl
                   rotate_left
                   ·simp only [Act.put, List.setIfInBounds_toArray, List.set_cons_zero, List.set_cons_succ, i64_w, i32_w]
                    rfl
                   refine done_ (done_of HT_.out (by kernel_rfl)) ?_
                   try go_wp2
                   go_roundg k2
                   case measure => have := HK1.out; have := HK2.out; omega
                   case rel => exact ⟨((t210 == 0)), (true), (wrap64 (x50_2 + 1)), (by first | rfl | (simp; done) | (simp [*]; done)), (by first | rfl | (simp; done) | (simp [*]; done)), (by first | rfl | (simp; done) | (simp [*]; done)), H', ⟨by have := HK1.out; have := HK2.out; omega⟩, ⟨by (with_reducible repeat (first | apply Kd.R_alloc | apply Kd.R_drewN | apply Kd.R_drew)); exact HO_38.out⟩, ⟨by (with_reducible repeat (first | apply Kd.R_alloc | apply Kd.R_drewN | apply Kd.R_drew)); exact HO_48.out⟩, ⟨kk_ BK176⟩, ⟨kk_ BK177⟩, ⟨kk_ BK182⟩, (be_ HB)⟩
                  ·replace c77 := Bool.eq_false_iff.mpr c77
                   subst c77
                   have H1 : (ephemerislaw2_IntervalMuls.l1 k2 t181 (t210 == 0) (t218 == 0) (rd y185 x40_1) y185 (y185.length : Int) x40_1 y189 (y189.length : Int) (wrap64 (x50_2 + 1)) a1_0 a1_1 t179 t180) = some r := by rw [if_neg (show ¬ (false = true) by decide)] at H; exact H
                   clear H
                   have H := H1
                   clear H1
                   have H' := Aside0.mk H
                   clear H
                   have p192 : 0 ≤ (x50_2 : Int) := of_decide_eq_true (by first | (with_reducible assumption) | assumption)
                   have q192 : x50_2 < (y189.length : Int) := of_decide_eq_true (by first | (with_reducible assumption) | assumption)
                   obtain ⟨ad192, e192, hx192_0⟩ := Kd.at_int (Kd.R_reads' HO_48.out).2.2 x50_2 p192 q192
                   cases e192
                   replace p192 := eq_true p192
                   replace q192 := eq_true q192
                   try go_wp2_with (first | ((with_reducible refine gate_callee (f := 28) rfl ?_); refine goesL_ (some 56) rfl rfl Try.func28 (by kernel_rfl) rfl #[.int .i64 (rd y185 x40_1), .int .i64 (rd y189 x50_2)] rfl (by (try simp only [List.map_toArray, List.map_cons, List.map_nil]); first | done | rfl | (simp only [List.length_drop, List.length_take]; rfl)) ?_; (with_reducible refine (ephemerisref2_Product.calls k2 (rd y185 x40_1) (rd y189 x50_2) t193 t194 t195 t196 t197 t198 t199 _ A41.out).mono ?_); rintro e w90 ⟨rfl, hb⟩; refine ⟨_, rfl, ?_⟩; have n0_ := Aside0.mk (Kd.R_below (by (with_reducible repeat (first | apply Kd.R_alloc | apply Kd.R_drewN | apply Kd.R_drew)); exact HO_38.out) hb); have n1_ := Aside0.mk (Kd.R_below (by (with_reducible repeat (first | apply Kd.R_alloc | apply Kd.R_drewN | apply Kd.R_drew)); exact HO_48.out) hb); have n2_ := kb_ BK176 hb; have n3_ := kb_ BK177 hb; have n4_ := kb_ BK182 hb; have n5_ := bs_ HB hb; clear HO_38; clear HO_48; clear BK176; clear BK177; clear BK182; clear HB; have HO_38 := n0_; have HO_48 := n1_; have BK176 := n2_; have BK177 := n3_; have BK182 := n4_; have HB := n5_; clear n0_ n1_ n2_ n3_ n4_ n5_; (try clear hb); (try clear hb2); (try clear hk); (try clear hi)) | ((with_reducible refine gate_dst (N := 14) rfl ?_); refine box_event ?hg (N := 14) ?hd (cs := #[.bool false, .int .i64 0, .int .i64 0, .int .i64 0, .int .i64 0, .int .i64 0, .int .i64 0]) (t := 46) ?hr ?_; (case hd => rfl); (case hg => rfl); (case hr => first | (go_simp; done) | (go_simp; rfl)); intro gb200 hg w91 hbox hb; have n0_ := Aside0.mk (Kd.R_below (by (with_reducible repeat (first | apply Kd.R_alloc | apply Kd.R_drewN | apply Kd.R_drew)); exact HO_38.out) hb); have n1_ := Aside0.mk (Kd.R_below (by (with_reducible repeat (first | apply Kd.R_alloc | apply Kd.R_drewN | apply Kd.R_drew)); exact HO_48.out) hb); have n2_ := kb_ BK176 hb; have n3_ := kb_ BK177 hb; have n4_ := kb_ BK182 hb; have n5_ := bs_ HB hb; have n6_ := Aside0.mk (hbox); have n7_ := ge_ hg HB; have n8_ := ge_ hg HB; have n9_ := nl_ hg BK176; have n10_ := ng_ hg BK176; have n11_ := nl_ hg BK177; have n12_ := ng_ hg BK177; have n13_ := nl_ hg BK182; have n14_ := ng_ hg BK182; clear HO_38; clear HO_48; clear BK176; clear BK177; clear BK182; clear HB; have HO_38 := n0_; have HO_48 := n1_; have BK176 := n2_; have BK177 := n3_; have BK182 := n4_; have HB := n5_; have BK200 := n6_; have GW200 := n7_; have GE200 := n8_; have NB176_200 := n9_; have NB200_176 := n10_; have NB177_200 := n11_; have NB200_177 := n12_; have NB182_200 := n13_; have NB200_182 := n14_; clear n0_ n1_ n2_ n3_ n4_ n5_ n6_ n7_ n8_ n9_ n10_ n11_ n12_ n13_ n14_; clear hb hbox hg; have hnb92 := NB200_176.out; have hnc92 := NB176_200.out; have hnb93 := NB200_177.out; have hnc93 := NB177_200.out; have hnb94 := NB200_182.out; have hnc94 := NB182_200.out; have hcz95_0 : w91.cell? ⟨gb200, 0, none⟩ = some (.bool false) := (blk_cell BK200.out 0).trans rfl; have hcz95_1 : w91.cell? ⟨gb200, 1, none⟩ = some (.int .i64 0) := (blk_cell BK200.out 1).trans rfl; have hcz95_2 : w91.cell? ⟨gb200, 2, none⟩ = some (.int .i64 0) := (blk_cell BK200.out 2).trans rfl; have hcz95_3 : w91.cell? ⟨gb200, 3, none⟩ = some (.int .i64 0) := (blk_cell BK200.out 3).trans rfl; have hcz95_4 : w91.cell? ⟨gb200, 4, none⟩ = some (.int .i64 0) := (blk_cell BK200.out 4).trans rfl; have hcz95_5 : w91.cell? ⟨gb200, 5, none⟩ = some (.int .i64 0) := (blk_cell BK200.out 5).trans rfl; have hcz95_6 : w91.cell? ⟨gb200, 6, none⟩ = some (.int .i64 0) := (blk_cell BK200.out 6).trans rfl; have hfz95_0 := blk_frozen BK200.out 0; have hfz95_1 := blk_frozen BK200.out 1; have hfz95_2 := blk_frozen BK200.out 2; have hfz95_3 := blk_frozen BK200.out 3; have hfz95_4 := blk_frozen BK200.out 4; have hfz95_5 := blk_frozen BK200.out 5; have hfz95_6 := blk_frozen BK200.out 6) | ((with_reducible refine gate_callee (f := 29) rfl ?_); refine goesL_ (some 58) rfl rfl Try.func29 (by kernel_rfl) rfl #[.agg #[.bool t193, .int .i64 t194, .int .i64 t195, .int .i64 t196, .int .i64 t197, .int .i64 t198, .int .i64 t199]] rfl (by (try simp only [List.map_toArray, List.map_cons, List.map_nil]); first | done | rfl | (simp only [List.length_drop, List.length_take]; rfl)) ?_; (with_reducible refine (ephemerisref2_Fine.calls k2 t193 t194 t195 t196 t197 t198 t199 true _ A42.out).mono ?_); rintro e w96 ⟨rfl, hb⟩; refine ⟨_, rfl, ?_⟩; have n0_ := Aside0.mk (Kd.R_below (by (with_reducible repeat (first | apply Kd.R_alloc | apply Kd.R_drewN | apply Kd.R_drew)); exact (Kd.R_mono (Kd.R_far (p := ⟨gb200, 6, none⟩) (Kd.R_far (p := ⟨gb200, 5, none⟩) (Kd.R_far (p := ⟨gb200, 4, none⟩) (Kd.R_far (p := ⟨gb200, 3, none⟩) (Kd.R_far (p := ⟨gb200, 2, none⟩) (Kd.R_far (p := ⟨gb200, 1, none⟩) (Kd.R_far (p := ⟨gb200, 0, none⟩) (Kd.R_types HO_38.out BK200.out (by decide)) (fun _ hk => hk.2) (.bool t193)) (fun _ hk => hk.2) (.int .i64 t194)) (fun _ hk => hk.2) (.int .i64 t195)) (fun _ hk => hk.2) (.int .i64 t196)) (fun _ hk => hk.2) (.int .i64 t197)) (fun _ hk => hk.2) (.int .i64 t198)) (fun _ hk => hk.2) (.int .i64 t199)) (fun _ h_ => h_.1))) hb); have n1_ := Aside0.mk (Kd.R_below (by (with_reducible repeat (first | apply Kd.R_alloc | apply Kd.R_drewN | apply Kd.R_drew)); exact (Kd.R_mono (Kd.R_far (p := ⟨gb200, 6, none⟩) (Kd.R_far (p := ⟨gb200, 5, none⟩) (Kd.R_far (p := ⟨gb200, 4, none⟩) (Kd.R_far (p := ⟨gb200, 3, none⟩) (Kd.R_far (p := ⟨gb200, 2, none⟩) (Kd.R_far (p := ⟨gb200, 1, none⟩) (Kd.R_far (p := ⟨gb200, 0, none⟩) (Kd.R_types HO_48.out BK200.out (by decide)) (fun _ hk => hk.2) (.bool t193)) (fun _ hk => hk.2) (.int .i64 t194)) (fun _ hk => hk.2) (.int .i64 t195)) (fun _ hk => hk.2) (.int .i64 t196)) (fun _ hk => hk.2) (.int .i64 t197)) (fun _ hk => hk.2) (.int .i64 t198)) (fun _ hk => hk.2) (.int .i64 t199)) (fun _ h_ => h_.1))) hb); have n2_ := kb_ BK176 hb; have n3_ := kb_ BK177 hb; have n4_ := kb_ BK182 hb; have n5_ := Aside0.mk (blk_below (g := gb200) (o := .cells #[.bool t193, .int .i64 t194, .int .i64 t195, .int .i64 t196, .int .i64 t197, .int .i64 t198, .int .i64 t199] 46 (0, 0)) (by (with_reducible repeat (first | refine blk_drewN ?_ _ | refine blk_drew ?_ | refine blk_alloc ?_ _)); refine blk_put (cs := #[.bool t193, .int .i64 t194, .int .i64 t195, .int .i64 t196, .int .i64 t197, .int .i64 t198, .int .i64 0]) ?_ 6 _ rfl; (with_reducible repeat (first | refine blk_drewN ?_ _ | refine blk_drew ?_ | refine blk_alloc ?_ _)); refine blk_put (cs := #[.bool t193, .int .i64 t194, .int .i64 t195, .int .i64 t196, .int .i64 t197, .int .i64 0, .int .i64 0]) ?_ 5 _ rfl; (with_reducible repeat (first | refine blk_drewN ?_ _ | refine blk_drew ?_ | refine blk_alloc ?_ _)); refine blk_put (cs := #[.bool t193, .int .i64 t194, .int .i64 t195, .int .i64 t196, .int .i64 0, .int .i64 0, .int .i64 0]) ?_ 4 _ rfl; (with_reducible repeat (first | refine blk_drewN ?_ _ | refine blk_drew ?_ | refine blk_alloc ?_ _)); refine blk_put (cs := #[.bool t193, .int .i64 t194, .int .i64 t195, .int .i64 0, .int .i64 0, .int .i64 0, .int .i64 0]) ?_ 3 _ rfl; (with_reducible repeat (first | refine blk_drewN ?_ _ | refine blk_drew ?_ | refine blk_alloc ?_ _)); refine blk_put (cs := #[.bool t193, .int .i64 t194, .int .i64 0, .int .i64 0, .int .i64 0, .int .i64 0, .int .i64 0]) ?_ 2 _ rfl; (with_reducible repeat (first | refine blk_drewN ?_ _ | refine blk_drew ?_ | refine blk_alloc ?_ _)); refine blk_put (cs := #[.bool t193, .int .i64 0, .int .i64 0, .int .i64 0, .int .i64 0, .int .i64 0, .int .i64 0]) ?_ 1 _ rfl; (with_reducible repeat (first | refine blk_drewN ?_ _ | refine blk_drew ?_ | refine blk_alloc ?_ _)); refine blk_put (cs := #[.bool false, .int .i64 0, .int .i64 0, .int .i64 0, .int .i64 0, .int .i64 0, .int .i64 0]) ?_ 0 _ rfl; (with_reducible repeat (first | refine blk_drewN ?_ _ | refine blk_drew ?_ | refine blk_alloc ?_ _)); exact BK200.out) hb); have n6_ := bs_ HB hb; clear HO_38; clear HO_48; clear BK176; clear BK177; clear BK182; clear BK200; clear HB; have HO_38 := n0_; have HO_48 := n1_; have BK176 := n2_; have BK177 := n3_; have BK182 := n4_; have BK200 := n5_; have HB := n6_; clear n0_ n1_ n2_ n3_ n4_ n5_ n6_; (try clear hb); (try clear hb2); (try clear hk); (try clear hi)))
                   replace HO_38 := Aside0.mk (Kd.R_drew HO_38.out)
                   replace HO_48 := Aside0.mk (Kd.R_drew HO_48.out)
                   replace BK176 := Aside0.mk (blk_drew BK176.out)
                   replace BK177 := Aside0.mk (blk_drew BK177.out)
                   replace BK182 := Aside0.mk (blk_drew BK182.out)
                   replace BK200 := Aside0.mk (blk_drew BK200.out)
                   replace HB := Aside0.mk (below_drew1 HB.out)
                   refine start_ (n := 12) (S := fun w' => w'.cell? ⟨gb182, 0, none⟩ = some (.int .i64 t179) ∧ w'.cell? ⟨gb182, 1, none⟩ = some (.int .i64 t180) ∧ w'.cell? ⟨gb200, 0, none⟩ = some (.bool t193) ∧ w'.cell? ⟨gb200, 1, none⟩ = some (.int .i64 t194) ∧ w'.cell? ⟨gb200, 2, none⟩ = some (.int .i64 t195) ∧ w'.cell? ⟨gb200, 3, none⟩ = some (.int .i64 t196) ∧ w'.cell? ⟨gb200, 4, none⟩ = some (.int .i64 t197) ∧ w'.cell? ⟨gb200, 5, none⟩ = some (.int .i64 t198) ∧ w'.cell? ⟨gb200, 6, none⟩ = some (.int .i64 t199)) (ds := []) #[false, false, false, false, false, false, false, false, false, false, false, false] (by kernel_rfl) rfl rfl ⟨(blk_cell BK182.out 0).trans rfl, (blk_cell BK182.out 1).trans rfl, (blk_cell BK200.out 0).trans rfl, (blk_cell BK200.out 1).trans rfl, (blk_cell BK200.out 2).trans rfl, (blk_cell BK200.out 3).trans rfl, (blk_cell BK200.out 4).trans rfl, (blk_cell BK200.out 5).trans rfl, (blk_cell BK200.out 6).trans rfl⟩ (fun hHeld => ?_); refine with_tabW ephemerislaw2_IntervalMuls.tab17 ephemerislaw2_IntervalMuls.bits17 (fun HT_ HW_ => ?_)
                   generalize w96.drew = w97 at HO_38 HO_48 BK176 BK177 BK182 BK200 HB hHeld ⊢
                   refine pure_ (i := 0) (N := some 63) (v := ?_) (a' := ?_) #[true, false, false, false, false, false, false, false, false, false, false, false] rfl rfl (any_of HT_.out (by kernel_rfl)) (fun _ _ _ h => h) (Or.inl ⟨by rfl, ?_⟩) ?_ ?_
                   rotate_left
                   ·intro w'
                    go_simp
                    with_reducible rfl
                   rotate_left
                   ·simp only [Act.put, List.setIfInBounds_toArray, List.set_cons_zero, List.set_cons_succ, i64_w, i32_w]
                    rfl
                   refine pure_ (i := 6) (N := some 69) (v := ?_) (a' := ?_) #[true, false, false, false, false, false, true, false, false, false, false, false] rfl rfl (any_of HT_.out (by kernel_rfl)) (fun _ _ _ h => h) (Or.inl ⟨by rfl, ?_⟩) ?_ ?_
                   rotate_left
                   ·intro w'
                    go_simp
                    with_reducible rfl
                   rotate_left
                   ·simp only [Act.put, List.setIfInBounds_toArray, List.set_cons_zero, List.set_cons_succ, i64_w, i32_w]
                    rfl
                   refine take_ (i := 1) (N := some 64) (v := ?_) (a' := ?_) #[true, true, false, false, false, false, true, false, false, false, false, false] rfl rfl (take_ofW HT_.out HW_.out (by kernel_rfl)) (fun _ _ _ h => h) (Or.inl ⟨by rfl, ?_⟩) hHeld ?_ ?_
                   rotate_left
                   ·rintro w' ⟨s0, s1, s2, s3, s4, s5, s6, s7, s8⟩
                    go_simp
                    with_reducible rfl
                   rotate_left
                   ·simp only [Act.put, List.setIfInBounds_toArray, List.set_cons_zero, List.set_cons_succ, i64_w, i32_w]
                    rfl
                   refine take_ (i := 3) (N := some 66) (v := ?_) (a' := ?_) #[true, true, false, true, false, false, true, false, false, false, false, false] rfl rfl (take_ofW HT_.out HW_.out (by kernel_rfl)) (fun _ _ _ h => h) (Or.inl ⟨by rfl, ?_⟩) hHeld ?_ ?_
                   rotate_left
                   ·rintro w' ⟨s0, s1, s2, s3, s4, s5, s6, s7, s8⟩
                    go_simp
                    with_reducible rfl
                   rotate_left
                   ·simp only [Act.put, List.setIfInBounds_toArray, List.set_cons_zero, List.set_cons_succ, i64_w, i32_w]
                    rfl
                   refine take_ (i := 5) (N := some 68) (v := ?_) (a' := ?_) #[true, true, false, true, false, true, true, false, false, false, false, false] rfl rfl (take_ofW HT_.out HW_.out (by kernel_rfl)) (fun _ _ _ h => h) (Or.inl ⟨by rfl, ?_⟩) hHeld ?_ ?_
                   rotate_left
                   ·rintro w' ⟨s0, s1, s2, s3, s4, s5, s6, s7, s8⟩
                    go_simp
                    with_reducible rfl
                   rotate_left
                   ·simp only [Act.put, List.setIfInBounds_toArray, List.set_cons_zero, List.set_cons_succ, i64_w, i32_w]
                    rfl
                   refine take_ (i := 7) (N := some 70) (v := ?_) (a' := ?_) #[true, true, false, true, false, true, true, true, false, false, false, false] rfl rfl (take_ofW HT_.out HW_.out (by kernel_rfl)) (fun _ _ _ h => h) (Or.inl ⟨by rfl, ?_⟩) hHeld ?_ ?_
                   rotate_left
                   ·rintro w' ⟨s0, s1, s2, s3, s4, s5, s6, s7, s8⟩
                    go_simp
                    with_reducible rfl
                   rotate_left
                   ·simp only [Act.put, List.setIfInBounds_toArray, List.set_cons_zero, List.set_cons_succ, i64_w, i32_w]
                    rfl
                   refine one_ (i := 2) (N := some 65) #[true, true, true, true, false, true, true, true, false, false, false, false] rfl rfl (one_of HT_.out (by kernel_rfl)) (by decide) (fun K hK => ?_)
                   refine goes_ Try.func31 (by kernel_rfl) rfl #[.int .i64 t179] (by rfl) rfl rfl (by (try simp only [List.map_toArray, List.map_cons, List.map_nil]); first | done | rfl | (simp only [List.length_drop, List.length_take]; rfl)) ?_
                   with_reducible refine (ephemerisref2_ToWide.calls k2 t179 t203 t204 t205 t206 t207 t208 t209 _ A44.out).mono ?_
                   rintro e w98 ⟨rfl, hb⟩
                   refine ⟨_, rfl, ?_⟩
                   have n0_ := Aside0.mk (Kd.R_below (by (with_reducible repeat (first | apply Kd.R_alloc | apply Kd.R_drewN | apply Kd.R_drew)); exact HO_38.out) hb)
                   have n1_ := Aside0.mk (Kd.R_below (by (with_reducible repeat (first | apply Kd.R_alloc | apply Kd.R_drewN | apply Kd.R_drew)); exact HO_48.out) hb)
                   have n2_ := kb_ BK176 hb
                   have n3_ := kb_ BK177 hb
                   have n4_ := kb_ BK182 hb
                   have n5_ := kb_ BK200 hb
                   have n6_ := bs_ HB hb
                   clear HO_38
                   clear HO_48
                   clear BK176
                   clear BK177
                   clear BK182
                   clear BK200
                   clear HB
                   have HO_38 := n0_
                   have HO_48 := n1_
                   have BK176 := n2_
                   have BK177 := n3_
                   have BK182 := n4_
                   have BK200 := n5_
                   have HB := n6_
                   clear n0_ n1_ n2_ n3_ n4_ n5_ n6_
                   (try clear hb)
                   (try clear hb2)
                   (try clear hk)
                   (try clear hi)
                   refine hK.out _ _ ⟨(blk_cell BK182.out 0).trans rfl, (blk_cell BK182.out 1).trans rfl, (blk_cell BK200.out 0).trans rfl, (blk_cell BK200.out 1).trans rfl, (blk_cell BK200.out 2).trans rfl, (blk_cell BK200.out 3).trans rfl, (blk_cell BK200.out 4).trans rfl, (blk_cell BK200.out 5).trans rfl, (blk_cell BK200.out 6).trans rfl⟩ (fun hHeld => ?_)
                   clear hK K
                   refine norm_ (a' := ?_) ?_ ?_
                   rotate_left
                   ·show Act.put _ (some 65) _ = _
                    simp only [Act.put, List.setIfInBounds_toArray, List.set_cons_zero, List.set_cons_succ, i64_w, i32_w]
                    rfl
                   refine one_ (i := 4) (N := some 67) #[true, true, true, true, true, true, true, true, false, false, false, false] rfl rfl (one_of HT_.out (by kernel_rfl)) (by decide) (fun K hK => ?_)
                   refine goes_ Try.func30 (by kernel_rfl) rfl #[.agg #[.bool t203, .int .i64 t204, .int .i64 t205, .int .i64 t206, .int .i64 t207, .int .i64 t208, .int .i64 t209], .agg #[.bool t193, .int .i64 t194, .int .i64 t195, .int .i64 t196, .int .i64 t197, .int .i64 t198, .int .i64 t199]] (by rfl) rfl rfl (by (try simp only [List.map_toArray, List.map_cons, List.map_nil]); first | done | rfl | (simp only [List.length_drop, List.length_take]; rfl)) ?_
                   with_reducible refine (ephemerisref2_Compare.calls k2 t203 t204 t205 t206 t207 t208 t209 t193 t194 t195 t196 t197 t198 t199 t210 _ A45.out).mono ?_
                   rintro e w99 ⟨rfl, hb⟩
                   refine ⟨_, rfl, ?_⟩
                   have n0_ := Aside0.mk (Kd.R_below (by (with_reducible repeat (first | apply Kd.R_alloc | apply Kd.R_drewN | apply Kd.R_drew)); exact HO_38.out) hb)
                   have n1_ := Aside0.mk (Kd.R_below (by (with_reducible repeat (first | apply Kd.R_alloc | apply Kd.R_drewN | apply Kd.R_drew)); exact HO_48.out) hb)
                   have n2_ := kb_ BK176 hb
                   have n3_ := kb_ BK177 hb
                   have n4_ := kb_ BK182 hb
                   have n5_ := kb_ BK200 hb
                   have n6_ := bs_ HB hb
                   clear HO_38
                   clear HO_48
                   clear BK176
                   clear BK177
                   clear BK182
                   clear BK200
                   clear HB
                   have HO_38 := n0_
                   have HO_48 := n1_
                   have BK176 := n2_
                   have BK177 := n3_
                   have BK182 := n4_
                   have BK200 := n5_
                   have HB := n6_
                   clear n0_ n1_ n2_ n3_ n4_ n5_ n6_
                   (try clear hb)
                   (try clear hb2)
                   (try clear hk)
                   (try clear hi)
                   refine hK.out _ _ ⟨(blk_cell BK182.out 0).trans rfl, (blk_cell BK182.out 1).trans rfl, (blk_cell BK200.out 0).trans rfl, (blk_cell BK200.out 1).trans rfl, (blk_cell BK200.out 2).trans rfl, (blk_cell BK200.out 3).trans rfl, (blk_cell BK200.out 4).trans rfl, (blk_cell BK200.out 5).trans rfl, (blk_cell BK200.out 6).trans rfl⟩ (fun hHeld => ?_)
                   clear hK K
                   refine norm_ (a' := ?_) ?_ ?_
                   rotate_left
                   ·show Act.put _ (some 67) _ = _
                    simp only [Act.put, List.setIfInBounds_toArray, List.set_cons_zero, List.set_cons_succ, i64_w, i32_w]
                    rfl
                   refine one_ (i := 8) (N := some 71) #[true, true, true, true, true, true, true, true, true, false, false, false] rfl rfl (one_of HT_.out (by kernel_rfl)) (by decide) (fun K hK => ?_)
                   refine goes_ Try.func31 (by kernel_rfl) rfl #[.int .i64 t180] (by rfl) rfl rfl (by (try simp only [List.map_toArray, List.map_cons, List.map_nil]); first | done | rfl | (simp only [List.length_drop, List.length_take]; rfl)) ?_
                   with_reducible refine (ephemerisref2_ToWide.calls k2 t180 t211 t212 t213 t214 t215 t216 t217 _ A46.out).mono ?_
                   rintro e w100 ⟨rfl, hb⟩
                   refine ⟨_, rfl, ?_⟩
                   have n0_ := Aside0.mk (Kd.R_below (by (with_reducible repeat (first | apply Kd.R_alloc | apply Kd.R_drewN | apply Kd.R_drew)); exact HO_38.out) hb)
                   have n1_ := Aside0.mk (Kd.R_below (by (with_reducible repeat (first | apply Kd.R_alloc | apply Kd.R_drewN | apply Kd.R_drew)); exact HO_48.out) hb)
                   have n2_ := kb_ BK176 hb
                   have n3_ := kb_ BK177 hb
                   have n4_ := kb_ BK182 hb
                   have n5_ := kb_ BK200 hb
                   have n6_ := bs_ HB hb
                   clear HO_38
                   clear HO_48
                   clear BK176
                   clear BK177
                   clear BK182
                   clear BK200
                   clear HB
                   have HO_38 := n0_
                   have HO_48 := n1_
                   have BK176 := n2_
                   have BK177 := n3_
                   have BK182 := n4_
                   have BK200 := n5_
                   have HB := n6_
                   clear n0_ n1_ n2_ n3_ n4_ n5_ n6_
                   (try clear hb)
                   (try clear hb2)
                   (try clear hk)
                   (try clear hi)
                   refine hK.out _ _ ⟨(blk_cell BK182.out 0).trans rfl, (blk_cell BK182.out 1).trans rfl, (blk_cell BK200.out 0).trans rfl, (blk_cell BK200.out 1).trans rfl, (blk_cell BK200.out 2).trans rfl, (blk_cell BK200.out 3).trans rfl, (blk_cell BK200.out 4).trans rfl, (blk_cell BK200.out 5).trans rfl, (blk_cell BK200.out 6).trans rfl⟩ (fun hHeld => ?_)
                   clear hK K
                   refine norm_ (a' := ?_) ?_ ?_
                   rotate_left
                   ·show Act.put _ (some 71) _ = _
                    simp only [Act.put, List.setIfInBounds_toArray, List.set_cons_zero, List.set_cons_succ, i64_w, i32_w]
                    rfl
                   refine one_ (i := 9) (N := some 72) #[true, true, true, true, true, true, true, true, true, true, false, false] rfl rfl (one_of HT_.out (by kernel_rfl)) (by decide) (fun K hK => ?_)
                   refine goes_ Try.func30 (by kernel_rfl) rfl #[.agg #[.bool t193, .int .i64 t194, .int .i64 t195, .int .i64 t196, .int .i64 t197, .int .i64 t198, .int .i64 t199], .agg #[.bool t211, .int .i64 t212, .int .i64 t213, .int .i64 t214, .int .i64 t215, .int .i64 t216, .int .i64 t217]] (by rfl) rfl rfl (by (try simp only [List.map_toArray, List.map_cons, List.map_nil]); first | done | rfl | (simp only [List.length_drop, List.length_take]; rfl)) ?_
                   with_reducible refine (ephemerisref2_Compare.calls k2 t193 t194 t195 t196 t197 t198 t199 t211 t212 t213 t214 t215 t216 t217 t218 _ A47.out).mono ?_
                   rintro e w101 ⟨rfl, hb⟩
                   refine ⟨_, rfl, ?_⟩
                   have n0_ := Aside0.mk (Kd.R_below (by (with_reducible repeat (first | apply Kd.R_alloc | apply Kd.R_drewN | apply Kd.R_drew)); exact HO_38.out) hb)
                   have n1_ := Aside0.mk (Kd.R_below (by (with_reducible repeat (first | apply Kd.R_alloc | apply Kd.R_drewN | apply Kd.R_drew)); exact HO_48.out) hb)
                   have n2_ := kb_ BK176 hb
                   have n3_ := kb_ BK177 hb
                   have n4_ := kb_ BK182 hb
                   have n5_ := kb_ BK200 hb
                   have n6_ := bs_ HB hb
                   clear HO_38
                   clear HO_48
                   clear BK176
                   clear BK177
                   clear BK182
                   clear BK200
                   clear HB
                   have HO_38 := n0_
                   have HO_48 := n1_
                   have BK176 := n2_
                   have BK177 := n3_
                   have BK182 := n4_
                   have BK200 := n5_
                   have HB := n6_
                   clear n0_ n1_ n2_ n3_ n4_ n5_ n6_
                   (try clear hb)
                   (try clear hb2)
                   (try clear hk)
                   (try clear hi)
                   refine hK.out _ _ ⟨(blk_cell BK182.out 0).trans rfl, (blk_cell BK182.out 1).trans rfl, (blk_cell BK200.out 0).trans rfl, (blk_cell BK200.out 1).trans rfl, (blk_cell BK200.out 2).trans rfl, (blk_cell BK200.out 3).trans rfl, (blk_cell BK200.out 4).trans rfl, (blk_cell BK200.out 5).trans rfl, (blk_cell BK200.out 6).trans rfl⟩ (fun hHeld => ?_)
                   clear hK K
                   refine norm_ (a' := ?_) ?_ ?_
                   rotate_left
                   ·show Act.put _ (some 72) _ = _
                    simp only [Act.put, List.setIfInBounds_toArray, List.set_cons_zero, List.set_cons_succ, i64_w, i32_w]
                    rfl
                   refine pure_ (i := 10) (N := some 15) (v := ?_) (a' := ?_) #[true, true, true, true, true, true, true, true, true, true, true, false] rfl rfl (any_of HT_.out (by kernel_rfl)) (fun _ _ _ h => h) (Or.inl ⟨by rfl, ?_⟩) ?_ ?_
                   rotate_left
                   ·intro w'
                    go_simp
                    with_reducible rfl
                   rotate_left
                   ·simp only [Act.put, List.setIfInBounds_toArray, List.set_cons_zero, List.set_cons_succ, i64_w, i32_w]
                    rfl
                   refine pure_ (i := 11) (N := some 16) (v := ?_) (a' := ?_) #[true, true, true, true, true, true, true, true, true, true, true, true] rfl rfl (any_of HT_.out (by kernel_rfl)) (fun _ _ _ h => h) (Or.inl ⟨by rfl, ?_⟩) ?_ ?_
                   rotate_left
                   ·intro w'
                    go_simp
                    with_reducible rfl
                   rotate_left
                   ·simp only [Act.put, List.setIfInBounds_toArray, List.set_cons_zero, List.set_cons_succ, i64_w, i32_w]
                    rfl
                   refine done_ (done_of HT_.out (by kernel_rfl)) ?_
                   try go_wp2
                   go_roundg k2
                   case measure => have := HK1.out; have := HK2.out; omega
                   case rel => exact ⟨((t210 == 0)), ((t218 == 0)), (wrap64 (x50_2 + 1)), (by first | rfl | (simp; done) | (simp [*]; done)), (by first | rfl | (simp; done) | (simp [*]; done)), (by first | rfl | (simp; done) | (simp [*]; done)), H', ⟨by have := HK1.out; have := HK2.out; omega⟩, ⟨by (with_reducible repeat (first | apply Kd.R_alloc | apply Kd.R_drewN | apply Kd.R_drew)); exact HO_38.out⟩, ⟨by (with_reducible repeat (first | apply Kd.R_alloc | apply Kd.R_drewN | apply Kd.R_drew)); exact HO_48.out⟩, ⟨kk_ BK176⟩, ⟨kk_ BK177⟩, ⟨kk_ BK182⟩, (be_ HB)⟩
              ·rw [if_neg c48] at H
               have c48b0 : (t181 == 0) = false := beq_eq_false_iff_ne.mpr c48
               have c48b1 : (t181 != 0) = true := bne_iff_ne.mpr c48
               by_cases c102 : x8_2 = true
               ·subst c102
                have H1 : (if x9_2 = true then (ephemerislaw2_IntervalMuls.l1 k2 t181 true true (rd y185 x40_1) y185 (y185.length : Int) x40_1 y189 (y189.length : Int) (wrap64 (x50_2 + 1)) a1_0 a1_1 t179 t180) else (ephemerislaw2_IntervalMuls.l1 k2 t181 true (t218 == 0) (rd y185 x40_1) y185 (y185.length : Int) x40_1 y189 (y189.length : Int) (wrap64 (x50_2 + 1)) a1_0 a1_1 t179 t180)) = some r := by rw [if_pos rfl] at H; exact H
                clear H
                have H := H1
                clear H1
                by_cases c103 : x9_2 = true
                ·subst c103
                 have H1 : (ephemerislaw2_IntervalMuls.l1 k2 t181 true true (rd y185 x40_1) y185 (y185.length : Int) x40_1 y189 (y189.length : Int) (wrap64 (x50_2 + 1)) a1_0 a1_1 t179 t180) = some r := by rw [if_pos rfl] at H; exact H
                 clear H
                 have H := H1
                 clear H1
                 have H' := Aside0.mk H
                 clear H
                 have p192 : 0 ≤ (x50_2 : Int) := of_decide_eq_true (by first | (with_reducible assumption) | assumption)
                 have q192 : x50_2 < (y189.length : Int) := of_decide_eq_true (by first | (with_reducible assumption) | assumption)
                 obtain ⟨ad192, e192, hx192_0⟩ := Kd.at_int (Kd.R_reads' HO_48.out).2.2 x50_2 p192 q192
                 cases e192
                 replace p192 := eq_true p192
                 replace q192 := eq_true q192
                 try go_wp2_with (first | ((with_reducible refine gate_callee (f := 28) rfl ?_); refine goesL_ (some 56) rfl rfl Try.func28 (by kernel_rfl) rfl #[.int .i64 (rd y185 x40_1), .int .i64 (rd y189 x50_2)] rfl (by (try simp only [List.map_toArray, List.map_cons, List.map_nil]); first | done | rfl | (simp only [List.length_drop, List.length_take]; rfl)) ?_; (with_reducible refine (ephemerisref2_Product.calls k2 (rd y185 x40_1) (rd y189 x50_2) t193 t194 t195 t196 t197 t198 t199 _ A41.out).mono ?_); rintro e w104 ⟨rfl, hb⟩; refine ⟨_, rfl, ?_⟩; have n0_ := Aside0.mk (Kd.R_below (by (with_reducible repeat (first | apply Kd.R_alloc | apply Kd.R_drewN | apply Kd.R_drew)); exact HO_38.out) hb); have n1_ := Aside0.mk (Kd.R_below (by (with_reducible repeat (first | apply Kd.R_alloc | apply Kd.R_drewN | apply Kd.R_drew)); exact HO_48.out) hb); have n2_ := kb_ BK176 hb; have n3_ := kb_ BK177 hb; have n4_ := kb_ BK182 hb; have n5_ := bs_ HB hb; clear HO_38; clear HO_48; clear BK176; clear BK177; clear BK182; clear HB; have HO_38 := n0_; have HO_48 := n1_; have BK176 := n2_; have BK177 := n3_; have BK182 := n4_; have HB := n5_; clear n0_ n1_ n2_ n3_ n4_ n5_; (try clear hb); (try clear hb2); (try clear hk); (try clear hi)) | ((with_reducible refine gate_dst (N := 14) rfl ?_); refine box_event ?hg (N := 14) ?hd (cs := #[.bool false, .int .i64 0, .int .i64 0, .int .i64 0, .int .i64 0, .int .i64 0, .int .i64 0]) (t := 46) ?hr ?_; (case hd => rfl); (case hg => rfl); (case hr => first | (go_simp; done) | (go_simp; rfl)); intro gb200 hg w105 hbox hb; have n0_ := Aside0.mk (Kd.R_below (by (with_reducible repeat (first | apply Kd.R_alloc | apply Kd.R_drewN | apply Kd.R_drew)); exact HO_38.out) hb); have n1_ := Aside0.mk (Kd.R_below (by (with_reducible repeat (first | apply Kd.R_alloc | apply Kd.R_drewN | apply Kd.R_drew)); exact HO_48.out) hb); have n2_ := kb_ BK176 hb; have n3_ := kb_ BK177 hb; have n4_ := kb_ BK182 hb; have n5_ := bs_ HB hb; have n6_ := Aside0.mk (hbox); have n7_ := ge_ hg HB; have n8_ := ge_ hg HB; have n9_ := nl_ hg BK176; have n10_ := ng_ hg BK176; have n11_ := nl_ hg BK177; have n12_ := ng_ hg BK177; have n13_ := nl_ hg BK182; have n14_ := ng_ hg BK182; clear HO_38; clear HO_48; clear BK176; clear BK177; clear BK182; clear HB; have HO_38 := n0_; have HO_48 := n1_; have BK176 := n2_; have BK177 := n3_; have BK182 := n4_; have HB := n5_; have BK200 := n6_; have GW200 := n7_; have GE200 := n8_; have NB176_200 := n9_; have NB200_176 := n10_; have NB177_200 := n11_; have NB200_177 := n12_; have NB182_200 := n13_; have NB200_182 := n14_; clear n0_ n1_ n2_ n3_ n4_ n5_ n6_ n7_ n8_ n9_ n10_ n11_ n12_ n13_ n14_; clear hb hbox hg; have hnb106 := NB200_176.out; have hnc106 := NB176_200.out; have hnb107 := NB200_177.out; have hnc107 := NB177_200.out; have hnb108 := NB200_182.out; have hnc108 := NB182_200.out; have hcz109_0 : w105.cell? ⟨gb200, 0, none⟩ = some (.bool false) := (blk_cell BK200.out 0).trans rfl; have hcz109_1 : w105.cell? ⟨gb200, 1, none⟩ = some (.int .i64 0) := (blk_cell BK200.out 1).trans rfl; have hcz109_2 : w105.cell? ⟨gb200, 2, none⟩ = some (.int .i64 0) := (blk_cell BK200.out 2).trans rfl; have hcz109_3 : w105.cell? ⟨gb200, 3, none⟩ = some (.int .i64 0) := (blk_cell BK200.out 3).trans rfl; have hcz109_4 : w105.cell? ⟨gb200, 4, none⟩ = some (.int .i64 0) := (blk_cell BK200.out 4).trans rfl; have hcz109_5 : w105.cell? ⟨gb200, 5, none⟩ = some (.int .i64 0) := (blk_cell BK200.out 5).trans rfl; have hcz109_6 : w105.cell? ⟨gb200, 6, none⟩ = some (.int .i64 0) := (blk_cell BK200.out 6).trans rfl; have hfz109_0 := blk_frozen BK200.out 0; have hfz109_1 := blk_frozen BK200.out 1; have hfz109_2 := blk_frozen BK200.out 2; have hfz109_3 := blk_frozen BK200.out 3; have hfz109_4 := blk_frozen BK200.out 4; have hfz109_5 := blk_frozen BK200.out 5; have hfz109_6 := blk_frozen BK200.out 6) | ((with_reducible refine gate_callee (f := 29) rfl ?_); refine goesL_ (some 58) rfl rfl Try.func29 (by kernel_rfl) rfl #[.agg #[.bool t193, .int .i64 t194, .int .i64 t195, .int .i64 t196, .int .i64 t197, .int .i64 t198, .int .i64 t199]] rfl (by (try simp only [List.map_toArray, List.map_cons, List.map_nil]); first | done | rfl | (simp only [List.length_drop, List.length_take]; rfl)) ?_; (with_reducible refine (ephemerisref2_Fine.calls k2 t193 t194 t195 t196 t197 t198 t199 true _ A42.out).mono ?_); rintro e w110 ⟨rfl, hb⟩; refine ⟨_, rfl, ?_⟩; have n0_ := Aside0.mk (Kd.R_below (by (with_reducible repeat (first | apply Kd.R_alloc | apply Kd.R_drewN | apply Kd.R_drew)); exact (Kd.R_mono (Kd.R_far (p := ⟨gb200, 6, none⟩) (Kd.R_far (p := ⟨gb200, 5, none⟩) (Kd.R_far (p := ⟨gb200, 4, none⟩) (Kd.R_far (p := ⟨gb200, 3, none⟩) (Kd.R_far (p := ⟨gb200, 2, none⟩) (Kd.R_far (p := ⟨gb200, 1, none⟩) (Kd.R_far (p := ⟨gb200, 0, none⟩) (Kd.R_types HO_38.out BK200.out (by decide)) (fun _ hk => hk.2) (.bool t193)) (fun _ hk => hk.2) (.int .i64 t194)) (fun _ hk => hk.2) (.int .i64 t195)) (fun _ hk => hk.2) (.int .i64 t196)) (fun _ hk => hk.2) (.int .i64 t197)) (fun _ hk => hk.2) (.int .i64 t198)) (fun _ hk => hk.2) (.int .i64 t199)) (fun _ h_ => h_.1))) hb); have n1_ := Aside0.mk (Kd.R_below (by (with_reducible repeat (first | apply Kd.R_alloc | apply Kd.R_drewN | apply Kd.R_drew)); exact (Kd.R_mono (Kd.R_far (p := ⟨gb200, 6, none⟩) (Kd.R_far (p := ⟨gb200, 5, none⟩) (Kd.R_far (p := ⟨gb200, 4, none⟩) (Kd.R_far (p := ⟨gb200, 3, none⟩) (Kd.R_far (p := ⟨gb200, 2, none⟩) (Kd.R_far (p := ⟨gb200, 1, none⟩) (Kd.R_far (p := ⟨gb200, 0, none⟩) (Kd.R_types HO_48.out BK200.out (by decide)) (fun _ hk => hk.2) (.bool t193)) (fun _ hk => hk.2) (.int .i64 t194)) (fun _ hk => hk.2) (.int .i64 t195)) (fun _ hk => hk.2) (.int .i64 t196)) (fun _ hk => hk.2) (.int .i64 t197)) (fun _ hk => hk.2) (.int .i64 t198)) (fun _ hk => hk.2) (.int .i64 t199)) (fun _ h_ => h_.1))) hb); have n2_ := kb_ BK176 hb; have n3_ := kb_ BK177 hb; have n4_ := kb_ BK182 hb; have n5_ := Aside0.mk (blk_below (g := gb200) (o := .cells #[.bool t193, .int .i64 t194, .int .i64 t195, .int .i64 t196, .int .i64 t197, .int .i64 t198, .int .i64 t199] 46 (0, 0)) (by (with_reducible repeat (first | refine blk_drewN ?_ _ | refine blk_drew ?_ | refine blk_alloc ?_ _)); refine blk_put (cs := #[.bool t193, .int .i64 t194, .int .i64 t195, .int .i64 t196, .int .i64 t197, .int .i64 t198, .int .i64 0]) ?_ 6 _ rfl; (with_reducible repeat (first | refine blk_drewN ?_ _ | refine blk_drew ?_ | refine blk_alloc ?_ _)); refine blk_put (cs := #[.bool t193, .int .i64 t194, .int .i64 t195, .int .i64 t196, .int .i64 t197, .int .i64 0, .int .i64 0]) ?_ 5 _ rfl; (with_reducible repeat (first | refine blk_drewN ?_ _ | refine blk_drew ?_ | refine blk_alloc ?_ _)); refine blk_put (cs := #[.bool t193, .int .i64 t194, .int .i64 t195, .int .i64 t196, .int .i64 0, .int .i64 0, .int .i64 0]) ?_ 4 _ rfl; (with_reducible repeat (first | refine blk_drewN ?_ _ | refine blk_drew ?_ | refine blk_alloc ?_ _)); refine blk_put (cs := #[.bool t193, .int .i64 t194, .int .i64 t195, .int .i64 0, .int .i64 0, .int .i64 0, .int .i64 0]) ?_ 3 _ rfl; (with_reducible repeat (first | refine blk_drewN ?_ _ | refine blk_drew ?_ | refine blk_alloc ?_ _)); refine blk_put (cs := #[.bool t193, .int .i64 t194, .int .i64 0, .int .i64 0, .int .i64 0, .int .i64 0, .int .i64 0]) ?_ 2 _ rfl; (with_reducible repeat (first | refine blk_drewN ?_ _ | refine blk_drew ?_ | refine blk_alloc ?_ _)); refine blk_put (cs := #[.bool t193, .int .i64 0, .int .i64 0, .int .i64 0, .int .i64 0, .int .i64 0, .int .i64 0]) ?_ 1 _ rfl; (with_reducible repeat (first | refine blk_drewN ?_ _ | refine blk_drew ?_ | refine blk_alloc ?_ _)); refine blk_put (cs := #[.bool false, .int .i64 0, .int .i64 0, .int .i64 0, .int .i64 0, .int .i64 0, .int .i64 0]) ?_ 0 _ rfl; (with_reducible repeat (first | refine blk_drewN ?_ _ | refine blk_drew ?_ | refine blk_alloc ?_ _)); exact BK200.out) hb); have n6_ := bs_ HB hb; clear HO_38; clear HO_48; clear BK176; clear BK177; clear BK182; clear BK200; clear HB; have HO_38 := n0_; have HO_48 := n1_; have BK176 := n2_; have BK177 := n3_; have BK182 := n4_; have BK200 := n5_; have HB := n6_; clear n0_ n1_ n2_ n3_ n4_ n5_ n6_; (try clear hb); (try clear hb2); (try clear hk); (try clear hi)))
                 replace HO_38 := Aside0.mk (Kd.R_drew HO_38.out)
                 replace HO_48 := Aside0.mk (Kd.R_drew HO_48.out)
                 replace BK176 := Aside0.mk (blk_drew BK176.out)
                 replace BK177 := Aside0.mk (blk_drew BK177.out)
                 replace BK182 := Aside0.mk (blk_drew BK182.out)
                 replace BK200 := Aside0.mk (blk_drew BK200.out)
                 replace HB := Aside0.mk (below_drew1 HB.out)
                 refine start_ (n := 12) (S := fun w' => w'.cell? ⟨gb182, 0, none⟩ = some (.int .i64 t179) ∧ w'.cell? ⟨gb182, 1, none⟩ = some (.int .i64 t180) ∧ w'.cell? ⟨gb200, 0, none⟩ = some (.bool t193) ∧ w'.cell? ⟨gb200, 1, none⟩ = some (.int .i64 t194) ∧ w'.cell? ⟨gb200, 2, none⟩ = some (.int .i64 t195) ∧ w'.cell? ⟨gb200, 3, none⟩ = some (.int .i64 t196) ∧ w'.cell? ⟨gb200, 4, none⟩ = some (.int .i64 t197) ∧ w'.cell? ⟨gb200, 5, none⟩ = some (.int .i64 t198) ∧ w'.cell? ⟨gb200, 6, none⟩ = some (.int .i64 t199)) (ds := []) #[false, false, false, false, false, false, false, false, false, false, false, false] (by kernel_rfl) rfl rfl ⟨(blk_cell BK182.out 0).trans rfl, (blk_cell BK182.out 1).trans rfl, (blk_cell BK200.out 0).trans rfl, (blk_cell BK200.out 1).trans rfl, (blk_cell BK200.out 2).trans rfl, (blk_cell BK200.out 3).trans rfl, (blk_cell BK200.out 4).trans rfl, (blk_cell BK200.out 5).trans rfl, (blk_cell BK200.out 6).trans rfl⟩ (fun hHeld => ?_); refine with_tabW ephemerislaw2_IntervalMuls.tab17 ephemerislaw2_IntervalMuls.bits17 (fun HT_ HW_ => ?_)
                 generalize w110.drew = w111 at HO_38 HO_48 BK176 BK177 BK182 BK200 HB hHeld ⊢
                 refine pure_ (i := 0) (N := some 63) (v := ?_) (a' := ?_) #[true, false, false, false, false, false, false, false, false, false, false, false] rfl rfl (any_of HT_.out (by kernel_rfl)) (fun _ _ _ h => h) (Or.inl ⟨by rfl, ?_⟩) ?_ ?_
                 rotate_left
                 ·intro w'
                  go_simp
                  with_reducible rfl
                 rotate_left
                 ·simp only [Act.put, List.setIfInBounds_toArray, List.set_cons_zero, List.set_cons_succ, i64_w, i32_w]
                  rfl
                 refine pure_ (i := 6) (N := some 69) (v := ?_) (a' := ?_) #[true, false, false, false, false, false, true, false, false, false, false, false] rfl rfl (any_of HT_.out (by kernel_rfl)) (fun _ _ _ h => h) (Or.inl ⟨by rfl, ?_⟩) ?_ ?_
                 rotate_left
                 ·intro w'
                  go_simp
                  with_reducible rfl
                 rotate_left
                 ·simp only [Act.put, List.setIfInBounds_toArray, List.set_cons_zero, List.set_cons_succ, i64_w, i32_w]
                  rfl
                 refine take_ (i := 1) (N := some 64) (v := ?_) (a' := ?_) #[true, true, false, false, false, false, true, false, false, false, false, false] rfl rfl (take_ofW HT_.out HW_.out (by kernel_rfl)) (fun _ _ _ h => h) (Or.inl ⟨by rfl, ?_⟩) hHeld ?_ ?_
                 rotate_left
                 ·rintro w' ⟨s0, s1, s2, s3, s4, s5, s6, s7, s8⟩
                  go_simp
                  with_reducible rfl
                 rotate_left
                 ·simp only [Act.put, List.setIfInBounds_toArray, List.set_cons_zero, List.set_cons_succ, i64_w, i32_w]
                  rfl
                 refine take_ (i := 3) (N := some 66) (v := ?_) (a' := ?_) #[true, true, false, true, false, false, true, false, false, false, false, false] rfl rfl (take_ofW HT_.out HW_.out (by kernel_rfl)) (fun _ _ _ h => h) (Or.inl ⟨by rfl, ?_⟩) hHeld ?_ ?_
                 rotate_left
                 ·rintro w' ⟨s0, s1, s2, s3, s4, s5, s6, s7, s8⟩
                  go_simp
                  with_reducible rfl
                 rotate_left
                 ·simp only [Act.put, List.setIfInBounds_toArray, List.set_cons_zero, List.set_cons_succ, i64_w, i32_w]
                  rfl
                 refine take_ (i := 5) (N := some 68) (v := ?_) (a' := ?_) #[true, true, false, true, false, true, true, false, false, false, false, false] rfl rfl (take_ofW HT_.out HW_.out (by kernel_rfl)) (fun _ _ _ h => h) (Or.inl ⟨by rfl, ?_⟩) hHeld ?_ ?_
                 rotate_left
                 ·rintro w' ⟨s0, s1, s2, s3, s4, s5, s6, s7, s8⟩
                  go_simp
                  with_reducible rfl
                 rotate_left
                 ·simp only [Act.put, List.setIfInBounds_toArray, List.set_cons_zero, List.set_cons_succ, i64_w, i32_w]
                  rfl
                 refine take_ (i := 7) (N := some 70) (v := ?_) (a' := ?_) #[true, true, false, true, false, true, true, true, false, false, false, false] rfl rfl (take_ofW HT_.out HW_.out (by kernel_rfl)) (fun _ _ _ h => h) (Or.inl ⟨by rfl, ?_⟩) hHeld ?_ ?_
                 rotate_left
                 ·rintro w' ⟨s0, s1, s2, s3, s4, s5, s6, s7, s8⟩
                  go_simp
                  with_reducible rfl
                 rotate_left
                 ·simp only [Act.put, List.setIfInBounds_toArray, List.set_cons_zero, List.set_cons_succ, i64_w, i32_w]
                  rfl
                 refine one_ (i := 2) (N := some 65) #[true, true, true, true, false, true, true, true, false, false, false, false] rfl rfl (one_of HT_.out (by kernel_rfl)) (by decide) (fun K hK => ?_)
                 refine goes_ Try.func31 (by kernel_rfl) rfl #[.int .i64 t179] (by rfl) rfl rfl (by (try simp only [List.map_toArray, List.map_cons, List.map_nil]); first | done | rfl | (simp only [List.length_drop, List.length_take]; rfl)) ?_
                 with_reducible refine (ephemerisref2_ToWide.calls k2 t179 t203 t204 t205 t206 t207 t208 t209 _ A44.out).mono ?_
                 rintro e w112 ⟨rfl, hb⟩
                 refine ⟨_, rfl, ?_⟩
                 have n0_ := Aside0.mk (Kd.R_below (by (with_reducible repeat (first | apply Kd.R_alloc | apply Kd.R_drewN | apply Kd.R_drew)); exact HO_38.out) hb)
                 have n1_ := Aside0.mk (Kd.R_below (by (with_reducible repeat (first | apply Kd.R_alloc | apply Kd.R_drewN | apply Kd.R_drew)); exact HO_48.out) hb)
                 have n2_ := kb_ BK176 hb
                 have n3_ := kb_ BK177 hb
                 have n4_ := kb_ BK182 hb
                 have n5_ := kb_ BK200 hb
                 have n6_ := bs_ HB hb
                 clear HO_38
                 clear HO_48
                 clear BK176
                 clear BK177
                 clear BK182
                 clear BK200
                 clear HB
                 have HO_38 := n0_
                 have HO_48 := n1_
                 have BK176 := n2_
                 have BK177 := n3_
                 have BK182 := n4_
                 have BK200 := n5_
                 have HB := n6_
                 clear n0_ n1_ n2_ n3_ n4_ n5_ n6_
                 (try clear hb)
                 (try clear hb2)
                 (try clear hk)
                 (try clear hi)
                 refine hK.out _ _ ⟨(blk_cell BK182.out 0).trans rfl, (blk_cell BK182.out 1).trans rfl, (blk_cell BK200.out 0).trans rfl, (blk_cell BK200.out 1).trans rfl, (blk_cell BK200.out 2).trans rfl, (blk_cell BK200.out 3).trans rfl, (blk_cell BK200.out 4).trans rfl, (blk_cell BK200.out 5).trans rfl, (blk_cell BK200.out 6).trans rfl⟩ (fun hHeld => ?_)
                 clear hK K
                 refine norm_ (a' := ?_) ?_ ?_
                 rotate_left
                 ·show Act.put _ (some 65) _ = _
                  simp only [Act.put, List.setIfInBounds_toArray, List.set_cons_zero, List.set_cons_succ, i64_w, i32_w]
                  rfl
                 refine one_ (i := 4) (N := some 67) #[true, true, true, true, true, true, true, true, false, false, false, false] rfl rfl (one_of HT_.out (by kernel_rfl)) (by decide) (fun K hK => ?_)
                 refine goes_ Try.func30 (by kernel_rfl) rfl #[.agg #[.bool t203, .int .i64 t204, .int .i64 t205, .int .i64 t206, .int .i64 t207, .int .i64 t208, .int .i64 t209], .agg #[.bool t193, .int .i64 t194, .int .i64 t195, .int .i64 t196, .int .i64 t197, .int .i64 t198, .int .i64 t199]] (by rfl) rfl rfl (by (try simp only [List.map_toArray, List.map_cons, List.map_nil]); first | done | rfl | (simp only [List.length_drop, List.length_take]; rfl)) ?_
                 with_reducible refine (ephemerisref2_Compare.calls k2 t203 t204 t205 t206 t207 t208 t209 t193 t194 t195 t196 t197 t198 t199 t210 _ A45.out).mono ?_
                 rintro e w113 ⟨rfl, hb⟩
                 refine ⟨_, rfl, ?_⟩
                 have n0_ := Aside0.mk (Kd.R_below (by (with_reducible repeat (first | apply Kd.R_alloc | apply Kd.R_drewN | apply Kd.R_drew)); exact HO_38.out) hb)
                 have n1_ := Aside0.mk (Kd.R_below (by (with_reducible repeat (first | apply Kd.R_alloc | apply Kd.R_drewN | apply Kd.R_drew)); exact HO_48.out) hb)
                 have n2_ := kb_ BK176 hb
                 have n3_ := kb_ BK177 hb
                 have n4_ := kb_ BK182 hb
                 have n5_ := kb_ BK200 hb
                 have n6_ := bs_ HB hb
                 clear HO_38
                 clear HO_48
                 clear BK176
                 clear BK177
                 clear BK182
                 clear BK200
                 clear HB
                 have HO_38 := n0_
                 have HO_48 := n1_
                 have BK176 := n2_
                 have BK177 := n3_
                 have BK182 := n4_
                 have BK200 := n5_
                 have HB := n6_
                 clear n0_ n1_ n2_ n3_ n4_ n5_ n6_
                 (try clear hb)
                 (try clear hb2)
                 (try clear hk)
                 (try clear hi)
                 refine hK.out _ _ ⟨(blk_cell BK182.out 0).trans rfl, (blk_cell BK182.out 1).trans rfl, (blk_cell BK200.out 0).trans rfl, (blk_cell BK200.out 1).trans rfl, (blk_cell BK200.out 2).trans rfl, (blk_cell BK200.out 3).trans rfl, (blk_cell BK200.out 4).trans rfl, (blk_cell BK200.out 5).trans rfl, (blk_cell BK200.out 6).trans rfl⟩ (fun hHeld => ?_)
                 clear hK K
                 refine norm_ (a' := ?_) ?_ ?_
                 rotate_left
                 ·show Act.put _ (some 67) _ = _
                  simp only [Act.put, List.setIfInBounds_toArray, List.set_cons_zero, List.set_cons_succ, i64_w, i32_w]
                  rfl
                 refine one_ (i := 8) (N := some 71) #[true, true, true, true, true, true, true, true, true, false, false, false] rfl rfl (one_of HT_.out (by kernel_rfl)) (by decide) (fun K hK => ?_)
                 refine goes_ Try.func31 (by kernel_rfl) rfl #[.int .i64 t180] (by rfl) rfl rfl (by (try simp only [List.map_toArray, List.map_cons, List.map_nil]); first | done | rfl | (simp only [List.length_drop, List.length_take]; rfl)) ?_
                 with_reducible refine (ephemerisref2_ToWide.calls k2 t180 t211 t212 t213 t214 t215 t216 t217 _ A46.out).mono ?_
                 rintro e w114 ⟨rfl, hb⟩
                 refine ⟨_, rfl, ?_⟩
                 have n0_ := Aside0.mk (Kd.R_below (by (with_reducible repeat (first | apply Kd.R_alloc | apply Kd.R_drewN | apply Kd.R_drew)); exact HO_38.out) hb)
                 have n1_ := Aside0.mk (Kd.R_below (by (with_reducible repeat (first | apply Kd.R_alloc | apply Kd.R_drewN | apply Kd.R_drew)); exact HO_48.out) hb)
                 have n2_ := kb_ BK176 hb
                 have n3_ := kb_ BK177 hb
                 have n4_ := kb_ BK182 hb
                 have n5_ := kb_ BK200 hb
                 have n6_ := bs_ HB hb
                 clear HO_38
                 clear HO_48
                 clear BK176
                 clear BK177
                 clear BK182
                 clear BK200
                 clear HB
                 have HO_38 := n0_
                 have HO_48 := n1_
                 have BK176 := n2_
                 have BK177 := n3_
                 have BK182 := n4_
                 have BK200 := n5_
                 have HB := n6_
                 clear n0_ n1_ n2_ n3_ n4_ n5_ n6_
                 (try clear hb)
                 (try clear hb2)
                 (try clear hk)
                 (try clear hi)
                 refine hK.out _ _ ⟨(blk_cell BK182.out 0).trans rfl, (blk_cell BK182.out 1).trans rfl, (blk_cell BK200.out 0).trans rfl, (blk_cell BK200.out 1).trans rfl, (blk_cell BK200.out 2).trans rfl, (blk_cell BK200.out 3).trans rfl, (blk_cell BK200.out 4).trans rfl, (blk_cell BK200.out 5).trans rfl, (blk_cell BK200.out 6).trans rfl⟩ (fun hHeld => ?_)
                 clear hK K
                 refine norm_ (a' := ?_) ?_ ?_
                 rotate_left
                 ·show Act.put _ (some 71) _ = _
                  simp only [Act.put, List.setIfInBounds_toArray, List.set_cons_zero, List.set_cons_succ, i64_w, i32_w]
                  rfl
                 refine one_ (i := 9) (N := some 72) #[true, true, true, true, true, true, true, true, true, true, false, false] rfl rfl (one_of HT_.out (by kernel_rfl)) (by decide) (fun K hK => ?_)
                 refine goes_ Try.func30 (by kernel_rfl) rfl #[.agg #[.bool t193, .int .i64 t194, .int .i64 t195, .int .i64 t196, .int .i64 t197, .int .i64 t198, .int .i64 t199], .agg #[.bool t211, .int .i64 t212, .int .i64 t213, .int .i64 t214, .int .i64 t215, .int .i64 t216, .int .i64 t217]] (by rfl) rfl rfl (by (try simp only [List.map_toArray, List.map_cons, List.map_nil]); first | done | rfl | (simp only [List.length_drop, List.length_take]; rfl)) ?_
                 with_reducible refine (ephemerisref2_Compare.calls k2 t193 t194 t195 t196 t197 t198 t199 t211 t212 t213 t214 t215 t216 t217 t218 _ A47.out).mono ?_
                 rintro e w115 ⟨rfl, hb⟩
                 refine ⟨_, rfl, ?_⟩
                 have n0_ := Aside0.mk (Kd.R_below (by (with_reducible repeat (first | apply Kd.R_alloc | apply Kd.R_drewN | apply Kd.R_drew)); exact HO_38.out) hb)
                 have n1_ := Aside0.mk (Kd.R_below (by (with_reducible repeat (first | apply Kd.R_alloc | apply Kd.R_drewN | apply Kd.R_drew)); exact HO_48.out) hb)
                 have n2_ := kb_ BK176 hb
                 have n3_ := kb_ BK177 hb
                 have n4_ := kb_ BK182 hb
                 have n5_ := kb_ BK200 hb
                 have n6_ := bs_ HB hb
                 clear HO_38
                 clear HO_48
                 clear BK176
                 clear BK177
                 clear BK182
                 clear BK200
                 clear HB
                 have HO_38 := n0_
                 have HO_48 := n1_
                 have BK176 := n2_
                 have BK177 := n3_
                 have BK182 := n4_
                 have BK200 := n5_
                 have HB := n6_
                 clear n0_ n1_ n2_ n3_ n4_ n5_ n6_
                 (try clear hb)
                 (try clear hb2)
                 (try clear hk)
                 (try clear hi)
                 refine hK.out _ _ ⟨(blk_cell BK182.out 0).trans rfl, (blk_cell BK182.out 1).trans rfl, (blk_cell BK200.out 0).trans rfl, (blk_cell BK200.out 1).trans rfl, (blk_cell BK200.out 2).trans rfl, (blk_cell BK200.out 3).trans rfl, (blk_cell BK200.out 4).trans rfl, (blk_cell BK200.out 5).trans rfl, (blk_cell BK200.out 6).trans rfl⟩ (fun hHeld => ?_)
                 clear hK K
                 refine norm_ (a' := ?_) ?_ ?_
                 rotate_left
                 ·show Act.put _ (some 72) _ = _
                  simp only [Act.put, List.setIfInBounds_toArray, List.set_cons_zero, List.set_cons_succ, i64_w, i32_w]
                  rfl
                 refine pure_ (i := 10) (N := some 15) (v := ?_) (a' := ?_) #[true, true, true, true, true, true, true, true, true, true, true, false] rfl rfl (any_of HT_.out (by kernel_rfl)) (fun _ _ _ h => h) (Or.inl ⟨by rfl, ?_⟩) ?_ ?_
                 rotate_left
                 ·intro w'
                  go_simp
                  with_reducible rfl
                 rotate_left
                 ·simp only [Act.put, List.setIfInBounds_toArray, List.set_cons_zero, List.set_cons_succ, i64_w, i32_w]
                  rfl
                 refine pure_ (i := 11) (N := some 16) (v := ?_) (a' := ?_) #[true, true, true, true, true, true, true, true, true, true, true, true] rfl rfl (any_of HT_.out (by kernel_rfl)) (fun _ _ _ h => h) (Or.inl ⟨by rfl, ?_⟩) ?_ ?_
                 rotate_left
                 ·intro w'
                  go_simp
                  with_reducible rfl
                 rotate_left
                 ·simp only [Act.put, List.setIfInBounds_toArray, List.set_cons_zero, List.set_cons_succ, i64_w, i32_w]
                  rfl
                 refine done_ (done_of HT_.out (by kernel_rfl)) ?_
                 try go_wp2
                 go_roundg k2
                 case measure => have := HK1.out; have := HK2.out; omega
                 case rel => exact ⟨(true), (true), (wrap64 (x50_2 + 1)), (by first | rfl | (simp; done) | (simp [*]; done)), (by first | rfl | (simp; done) | (simp [*]; done)), (by first | rfl | (simp; done) | (simp [*]; done)), H', ⟨by have := HK1.out; have := HK2.out; omega⟩, ⟨by (with_reducible repeat (first | apply Kd.R_alloc | apply Kd.R_drewN | apply Kd.R_drew)); exact HO_38.out⟩, ⟨by (with_reducible repeat (first | apply Kd.R_alloc | apply Kd.R_drewN | apply Kd.R_drew)); exact HO_48.out⟩, ⟨kk_ BK176⟩, ⟨kk_ BK177⟩, ⟨kk_ BK182⟩, (be_ HB)⟩
                ·replace c103 := Bool.eq_false_iff.mpr c103
                 subst c103
                 have H1 : (ephemerislaw2_IntervalMuls.l1 k2 t181 true (t218 == 0) (rd y185 x40_1) y185 (y185.length : Int) x40_1 y189 (y189.length : Int) (wrap64 (x50_2 + 1)) a1_0 a1_1 t179 t180) = some r := by rw [if_neg (show ¬ (false = true) by decide)] at H; exact H
                 clear H
                 have H := H1
                 clear H1
                 have H' := Aside0.mk H
                 clear H
                 have p192 : 0 ≤ (x50_2 : Int) := of_decide_eq_true (by first | (with_reducible assumption) | assumption)
                 have q192 : x50_2 < (y189.length : Int) := of_decide_eq_true (by first | (with_reducible assumption) | assumption)
                 obtain ⟨ad192, e192, hx192_0⟩ := Kd.at_int (Kd.R_reads' HO_48.out).2.2 x50_2 p192 q192
                 cases e192
                 replace p192 := eq_true p192
                 replace q192 := eq_true q192
                 try go_wp2_with (first | ((with_reducible refine gate_callee (f := 28) rfl ?_); refine goesL_ (some 56) rfl rfl Try.func28 (by kernel_rfl) rfl #[.int .i64 (rd y185 x40_1), .int .i64 (rd y189 x50_2)] rfl (by (try simp only [List.map_toArray, List.map_cons, List.map_nil]); first | done | rfl | (simp only [List.length_drop, List.length_take]; rfl)) ?_; (with_reducible refine (ephemerisref2_Product.calls k2 (rd y185 x40_1) (rd y189 x50_2) t193 t194 t195 t196 t197 t198 t199 _ A41.out).mono ?_); rintro e w116 ⟨rfl, hb⟩; refine ⟨_, rfl, ?_⟩; have n0_ := Aside0.mk (Kd.R_below (by (with_reducible repeat (first | apply Kd.R_alloc | apply Kd.R_drewN | apply Kd.R_drew)); exact HO_38.out) hb); have n1_ := Aside0.mk (Kd.R_below (by (with_reducible repeat (first | apply Kd.R_alloc | apply Kd.R_drewN | apply Kd.R_drew)); exact HO_48.out) hb); have n2_ := kb_ BK176 hb; have n3_ := kb_ BK177 hb; have n4_ := kb_ BK182 hb; have n5_ := bs_ HB hb; clear HO_38; clear HO_48; clear BK176; clear BK177; clear BK182; clear HB; have HO_38 := n0_; have HO_48 := n1_; have BK176 := n2_; have BK177 := n3_; have BK182 := n4_; have HB := n5_; clear n0_ n1_ n2_ n3_ n4_ n5_; (try clear hb); (try clear hb2); (try clear hk); (try clear hi)) | ((with_reducible refine gate_dst (N := 14) rfl ?_); refine box_event ?hg (N := 14) ?hd (cs := #[.bool false, .int .i64 0, .int .i64 0, .int .i64 0, .int .i64 0, .int .i64 0, .int .i64 0]) (t := 46) ?hr ?_; (case hd => rfl); (case hg => rfl); (case hr => first | (go_simp; done) | (go_simp; rfl)); intro gb200 hg w117 hbox hb; have n0_ := Aside0.mk (Kd.R_below (by (with_reducible repeat (first | apply Kd.R_alloc | apply Kd.R_drewN | apply Kd.R_drew)); exact HO_38.out) hb); have n1_ := Aside0.mk (Kd.R_below (by (with_reducible repeat (first | apply Kd.R_alloc | apply Kd.R_drewN | apply Kd.R_drew)); exact HO_48.out) hb); have n2_ := kb_ BK176 hb; have n3_ := kb_ BK177 hb; have n4_ := kb_ BK182 hb; have n5_ := bs_ HB hb; have n6_ := Aside0.mk (hbox); have n7_ := ge_ hg HB; have n8_ := ge_ hg HB; have n9_ := nl_ hg BK176; have n10_ := ng_ hg BK176; have n11_ := nl_ hg BK177; have n12_ := ng_ hg BK177; have n13_ := nl_ hg BK182; have n14_ := ng_ hg BK182; clear HO_38; clear HO_48; clear BK176; clear BK177; clear BK182; clear HB; have HO_38 := n0_; have HO_48 := n1_; have BK176 := n2_; have BK177 := n3_; have BK182 := n4_; have HB := n5_; have BK200 := n6_; have GW200 := n7_; have GE200 := n8_; have NB176_200 := n9_; have NB200_176 := n10_; have NB177_200 := n11_; have NB200_177 := n12_; have NB182_200 := n13_; have NB200_182 := n14_; clear n0_ n1_ n2_ n3_ n4_ n5_ n6_ n7_ n8_ n9_ n10_ n11_ n12_ n13_ n14_; clear hb hbox hg; have hnb118 := NB200_176.out; have hnc118 := NB176_200.out; have hnb119 := NB200_177.out; have hnc119 := NB177_200.out; have hnb120 := NB200_182.out; have hnc120 := NB182_200.out; have hcz121_0 : w117.cell? ⟨gb200, 0, none⟩ = some (.bool false) := (blk_cell BK200.out 0).trans rfl; have hcz121_1 : w117.cell? ⟨gb200, 1, none⟩ = some (.int .i64 0) := (blk_cell BK200.out 1).trans rfl; have hcz121_2 : w117.cell? ⟨gb200, 2, none⟩ = some (.int .i64 0) := (blk_cell BK200.out 2).trans rfl; have hcz121_3 : w117.cell? ⟨gb200, 3, none⟩ = some (.int .i64 0) := (blk_cell BK200.out 3).trans rfl; have hcz121_4 : w117.cell? ⟨gb200, 4, none⟩ = some (.int .i64 0) := (blk_cell BK200.out 4).trans rfl; have hcz121_5 : w117.cell? ⟨gb200, 5, none⟩ = some (.int .i64 0) := (blk_cell BK200.out 5).trans rfl; have hcz121_6 : w117.cell? ⟨gb200, 6, none⟩ = some (.int .i64 0) := (blk_cell BK200.out 6).trans rfl; have hfz121_0 := blk_frozen BK200.out 0; have hfz121_1 := blk_frozen BK200.out 1; have hfz121_2 := blk_frozen BK200.out 2; have hfz121_3 := blk_frozen BK200.out 3; have hfz121_4 := blk_frozen BK200.out 4; have hfz121_5 := blk_frozen BK200.out 5; have hfz121_6 := blk_frozen BK200.out 6) | ((with_reducible refine gate_callee (f := 29) rfl ?_); refine goesL_ (some 58) rfl rfl Try.func29 (by kernel_rfl) rfl #[.agg #[.bool t193, .int .i64 t194, .int .i64 t195, .int .i64 t196, .int .i64 t197, .int .i64 t198, .int .i64 t199]] rfl (by (try simp only [List.map_toArray, List.map_cons, List.map_nil]); first | done | rfl | (simp only [List.length_drop, List.length_take]; rfl)) ?_; (with_reducible refine (ephemerisref2_Fine.calls k2 t193 t194 t195 t196 t197 t198 t199 true _ A42.out).mono ?_); rintro e w122 ⟨rfl, hb⟩; refine ⟨_, rfl, ?_⟩; have n0_ := Aside0.mk (Kd.R_below (by (with_reducible repeat (first | apply Kd.R_alloc | apply Kd.R_drewN | apply Kd.R_drew)); exact (Kd.R_mono (Kd.R_far (p := ⟨gb200, 6, none⟩) (Kd.R_far (p := ⟨gb200, 5, none⟩) (Kd.R_far (p := ⟨gb200, 4, none⟩) (Kd.R_far (p := ⟨gb200, 3, none⟩) (Kd.R_far (p := ⟨gb200, 2, none⟩) (Kd.R_far (p := ⟨gb200, 1, none⟩) (Kd.R_far (p := ⟨gb200, 0, none⟩) (Kd.R_types HO_38.out BK200.out (by decide)) (fun _ hk => hk.2) (.bool t193)) (fun _ hk => hk.2) (.int .i64 t194)) (fun _ hk => hk.2) (.int .i64 t195)) (fun _ hk => hk.2) (.int .i64 t196)) (fun _ hk => hk.2) (.int .i64 t197)) (fun _ hk => hk.2) (.int .i64 t198)) (fun _ hk => hk.2) (.int .i64 t199)) (fun _ h_ => h_.1))) hb); have n1_ := Aside0.mk (Kd.R_below (by (with_reducible repeat (first | apply Kd.R_alloc | apply Kd.R_drewN | apply Kd.R_drew)); exact (Kd.R_mono (Kd.R_far (p := ⟨gb200, 6, none⟩) (Kd.R_far (p := ⟨gb200, 5, none⟩) (Kd.R_far (p := ⟨gb200, 4, none⟩) (Kd.R_far (p := ⟨gb200, 3, none⟩) (Kd.R_far (p := ⟨gb200, 2, none⟩) (Kd.R_far (p := ⟨gb200, 1, none⟩) (Kd.R_far (p := ⟨gb200, 0, none⟩) (Kd.R_types HO_48.out BK200.out (by decide)) (fun _ hk => hk.2) (.bool t193)) (fun _ hk => hk.2) (.int .i64 t194)) (fun _ hk => hk.2) (.int .i64 t195)) (fun _ hk => hk.2) (.int .i64 t196)) (fun _ hk => hk.2) (.int .i64 t197)) (fun _ hk => hk.2) (.int .i64 t198)) (fun _ hk => hk.2) (.int .i64 t199)) (fun _ h_ => h_.1))) hb); have n2_ := kb_ BK176 hb; have n3_ := kb_ BK177 hb; have n4_ := kb_ BK182 hb; have n5_ := Aside0.mk (blk_below (g := gb200) (o := .cells #[.bool t193, .int .i64 t194, .int .i64 t195, .int .i64 t196, .int .i64 t197, .int .i64 t198, .int .i64 t199] 46 (0, 0)) (by (with_reducible repeat (first | refine blk_drewN ?_ _ | refine blk_drew ?_ | refine blk_alloc ?_ _)); refine blk_put (cs := #[.bool t193, .int .i64 t194, .int .i64 t195, .int .i64 t196, .int .i64 t197, .int .i64 t198, .int .i64 0]) ?_ 6 _ rfl; (with_reducible repeat (first | refine blk_drewN ?_ _ | refine blk_drew ?_ | refine blk_alloc ?_ _)); refine blk_put (cs := #[.bool t193, .int .i64 t194, .int .i64 t195, .int .i64 t196, .int .i64 t197, .int .i64 0, .int .i64 0]) ?_ 5 _ rfl; (with_reducible repeat (first | refine blk_drewN ?_ _ | refine blk_drew ?_ | refine blk_alloc ?_ _)); refine blk_put (cs := #[.bool t193, .int .i64 t194, .int .i64 t195, .int .i64 t196, .int .i64 0, .int .i64 0, .int .i64 0]) ?_ 4 _ rfl; (with_reducible repeat (first | refine blk_drewN ?_ _ | refine blk_drew ?_ | refine blk_alloc ?_ _)); refine blk_put (cs := #[.bool t193, .int .i64 t194, .int .i64 t195, .int .i64 0, .int .i64 0, .int .i64 0, .int .i64 0]) ?_ 3 _ rfl; (with_reducible repeat (first | refine blk_drewN ?_ _ | refine blk_drew ?_ | refine blk_alloc ?_ _)); refine blk_put (cs := #[.bool t193, .int .i64 t194, .int .i64 0, .int .i64 0, .int .i64 0, .int .i64 0, .int .i64 0]) ?_ 2 _ rfl; (with_reducible repeat (first | refine blk_drewN ?_ _ | refine blk_drew ?_ | refine blk_alloc ?_ _)); refine blk_put (cs := #[.bool t193, .int .i64 0, .int .i64 0, .int .i64 0, .int .i64 0, .int .i64 0, .int .i64 0]) ?_ 1 _ rfl; (with_reducible repeat (first | refine blk_drewN ?_ _ | refine blk_drew ?_ | refine blk_alloc ?_ _)); refine blk_put (cs := #[.bool false, .int .i64 0, .int .i64 0, .int .i64 0, .int .i64 0, .int .i64 0, .int .i64 0]) ?_ 0 _ rfl; (with_reducible repeat (first | refine blk_drewN ?_ _ | refine blk_drew ?_ | refine blk_alloc ?_ _)); exact BK200.out) hb); have n6_ := bs_ HB hb; clear HO_38; clear HO_48; clear BK176; clear BK177; clear BK182; clear BK200; clear HB; have HO_38 := n0_; have HO_48 := n1_; have BK176 := n2_; have BK177 := n3_; have BK182 := n4_; have BK200 := n5_; have HB := n6_; clear n0_ n1_ n2_ n3_ n4_ n5_ n6_; (try clear hb); (try clear hb2); (try clear hk); (try clear hi)))
                 replace HO_38 := Aside0.mk (Kd.R_drew HO_38.out)
                 replace HO_48 := Aside0.mk (Kd.R_drew HO_48.out)
                 replace BK176 := Aside0.mk (blk_drew BK176.out)
                 replace BK177 := Aside0.mk (blk_drew BK177.out)
                 replace BK182 := Aside0.mk (blk_drew BK182.out)
                 replace BK200 := Aside0.mk (blk_drew BK200.out)
                 replace HB := Aside0.mk (below_drew1 HB.out)
                 refine start_ (n := 12) (S := fun w' => w'.cell? ⟨gb182, 0, none⟩ = some (.int .i64 t179) ∧ w'.cell? ⟨gb182, 1, none⟩ = some (.int .i64 t180) ∧ w'.cell? ⟨gb200, 0, none⟩ = some (.bool t193) ∧ w'.cell? ⟨gb200, 1, none⟩ = some (.int .i64 t194) ∧ w'.cell? ⟨gb200, 2, none⟩ = some (.int .i64 t195) ∧ w'.cell? ⟨gb200, 3, none⟩ = some (.int .i64 t196) ∧ w'.cell? ⟨gb200, 4, none⟩ = some (.int .i64 t197) ∧ w'.cell? ⟨gb200, 5, none⟩ = some (.int .i64 t198) ∧ w'.cell? ⟨gb200, 6, none⟩ = some (.int .i64 t199)) (ds := []) #[false, false, false, false, false, false, false, false, false, false, false, false] (by kernel_rfl) rfl rfl ⟨(blk_cell BK182.out 0).trans rfl, (blk_cell BK182.out 1).trans rfl, (blk_cell BK200.out 0).trans rfl, (blk_cell BK200.out 1).trans rfl, (blk_cell BK200.out 2).trans rfl, (blk_cell BK200.out 3).trans rfl, (blk_cell BK200.out 4).trans rfl, (blk_cell BK200.out 5).trans rfl, (blk_cell BK200.out 6).trans rfl⟩ (fun hHeld => ?_); refine with_tabW ephemerislaw2_IntervalMuls.tab17 ephemerislaw2_IntervalMuls.bits17 (fun HT_ HW_ => ?_)
                 generalize w122.drew = w123 at HO_38 HO_48 BK176 BK177 BK182 BK200 HB hHeld ⊢
                 refine pure_ (i := 0) (N := some 63) (v := ?_) (a' := ?_) #[true, false, false, false, false, false, false, false, false, false, false, false] rfl rfl (any_of HT_.out (by kernel_rfl)) (fun _ _ _ h => h) (Or.inl ⟨by rfl, ?_⟩) ?_ ?_
                 rotate_left
                 ·intro w'
                  go_simp
                  with_reducible rfl
                 rotate_left
                 ·simp only [Act.put, List.setIfInBounds_toArray, List.set_cons_zero, List.set_cons_succ, i64_w, i32_w]
                  rfl
                 refine pure_ (i := 6) (N := some 69) (v := ?_) (a' := ?_) #[true, false, false, false, false, false, true, false, false, false, false, false] rfl rfl (any_of HT_.out (by kernel_rfl)) (fun _ _ _ h => h) (Or.inl ⟨by rfl, ?_⟩) ?_ ?_
                 rotate_left
                 ·intro w'
                  go_simp
                  with_reducible rfl
                 rotate_left
                 ·simp only [Act.put, List.setIfInBounds_toArray, List.set_cons_zero, List.set_cons_succ, i64_w, i32_w]
                  rfl
                 refine take_ (i := 1) (N := some 64) (v := ?_) (a' := ?_) #[true, true, false, false, false, false, true, false, false, false, false, false] rfl rfl (take_ofW HT_.out HW_.out (by kernel_rfl)) (fun _ _ _ h => h) (Or.inl ⟨by rfl, ?_⟩) hHeld ?_ ?_
                 rotate_left
                 ·rintro w' ⟨s0, s1, s2, s3, s4, s5, s6, s7, s8⟩
                  go_simp
                  with_reducible rfl
                 rotate_left
                 ·simp only [Act.put, List.setIfInBounds_toArray, List.set_cons_zero, List.set_cons_succ, i64_w, i32_w]
                  rfl
                 refine take_ (i := 3) (N := some 66) (v := ?_) (a' := ?_) #[true, true, false, true, false, false, true, false, false, false, false, false] rfl rfl (take_ofW HT_.out HW_.out (by kernel_rfl)) (fun _ _ _ h => h) (Or.inl ⟨by rfl, ?_⟩) hHeld ?_ ?_
                 rotate_left
                 ·rintro w' ⟨s0, s1, s2, s3, s4, s5, s6, s7, s8⟩
                  go_simp
                  with_reducible rfl
                 rotate_left
                 ·simp only [Act.put, List.setIfInBounds_toArray, List.set_cons_zero, List.set_cons_succ, i64_w, i32_w]
                  rfl
                 refine take_ (i := 5) (N := some 68) (v := ?_) (a' := ?_) #[true, true, false, true, false, true, true, false, false, false, false, false] rfl rfl (take_ofW HT_.out HW_.out (by kernel_rfl)) (fun _ _ _ h => h) (Or.inl ⟨by rfl, ?_⟩) hHeld ?_ ?_
                 rotate_left
                 ·rintro w' ⟨s0, s1, s2, s3, s4, s5, s6, s7, s8⟩
                  go_simp
                  with_reducible rfl
                 rotate_left
                 ·simp only [Act.put, List.setIfInBounds_toArray, List.set_cons_zero, List.set_cons_succ, i64_w, i32_w]
                  rfl
                 refine take_ (i := 7) (N := some 70) (v := ?_) (a' := ?_) #[true, true, false, true, false, true, true, true, false, false, false, false] rfl rfl (take_ofW HT_.out HW_.out (by kernel_rfl)) (fun _ _ _ h => h) (Or.inl ⟨by rfl, ?_⟩) hHeld ?_ ?_
                 rotate_left
                 ·rintro w' ⟨s0, s1, s2, s3, s4, s5, s6, s7, s8⟩
                  go_simp
                  with_reducible rfl
                 rotate_left
                 ·simp only [Act.put, List.setIfInBounds_toArray, List.set_cons_zero, List.set_cons_succ, i64_w, i32_w]
                  rfl
                 refine one_ (i := 2) (N := some 65) #[true, true, true, true, false, true, true, true, false, false, false, false] rfl rfl (one_of HT_.out (by kernel_rfl)) (by decide) (fun K hK => ?_)
                 refine goes_ Try.func31 (by kernel_rfl) rfl #[.int .i64 t179] (by rfl) rfl rfl (by (try simp only [List.map_toArray, List.map_cons, List.map_nil]); first | done | rfl | (simp only [List.length_drop, List.length_take]; rfl)) ?_
                 with_reducible refine (ephemerisref2_ToWide.calls k2 t179 t203 t204 t205 t206 t207 t208 t209 _ A44.out).mono ?_
                 rintro e w124 ⟨rfl, hb⟩
                 refine ⟨_, rfl, ?_⟩
                 have n0_ := Aside0.mk (Kd.R_below (by (with_reducible repeat (first | apply Kd.R_alloc | apply Kd.R_drewN | apply Kd.R_drew)); exact HO_38.out) hb)
                 have n1_ := Aside0.mk (Kd.R_below (by (with_reducible repeat (first | apply Kd.R_alloc | apply Kd.R_drewN | apply Kd.R_drew)); exact HO_48.out) hb)
                 have n2_ := kb_ BK176 hb
                 have n3_ := kb_ BK177 hb
                 have n4_ := kb_ BK182 hb
                 have n5_ := kb_ BK200 hb
                 have n6_ := bs_ HB hb
                 clear HO_38
                 clear HO_48
                 clear BK176
                 clear BK177
                 clear BK182
                 clear BK200
                 clear HB
                 have HO_38 := n0_
                 have HO_48 := n1_
                 have BK176 := n2_
                 have BK177 := n3_
                 have BK182 := n4_
                 have BK200 := n5_
                 have HB := n6_
                 clear n0_ n1_ n2_ n3_ n4_ n5_ n6_
                 (try clear hb)
                 (try clear hb2)
                 (try clear hk)
                 (try clear hi)
                 refine hK.out _ _ ⟨(blk_cell BK182.out 0).trans rfl, (blk_cell BK182.out 1).trans rfl, (blk_cell BK200.out 0).trans rfl, (blk_cell BK200.out 1).trans rfl, (blk_cell BK200.out 2).trans rfl, (blk_cell BK200.out 3).trans rfl, (blk_cell BK200.out 4).trans rfl, (blk_cell BK200.out 5).trans rfl, (blk_cell BK200.out 6).trans rfl⟩ (fun hHeld => ?_)
                 clear hK K
                 refine norm_ (a' := ?_) ?_ ?_
                 rotate_left
                 ·show Act.put _ (some 65) _ = _
                  simp only [Act.put, List.setIfInBounds_toArray, List.set_cons_zero, List.set_cons_succ, i64_w, i32_w]
                  rfl
                 refine one_ (i := 4) (N := some 67) #[true, true, true, true, true, true, true, true, false, false, false, false] rfl rfl (one_of HT_.out (by kernel_rfl)) (by decide) (fun K hK => ?_)
                 refine goes_ Try.func30 (by kernel_rfl) rfl #[.agg #[.bool t203, .int .i64 t204, .int .i64 t205, .int .i64 t206, .int .i64 t207, .int .i64 t208, .int .i64 t209], .agg #[.bool t193, .int .i64 t194, .int .i64 t195, .int .i64 t196, .int .i64 t197, .int .i64 t198, .int .i64 t199]] (by rfl) rfl rfl (by (try simp only [List.map_toArray, List.map_cons, List.map_nil]); first | done | rfl | (simp only [List.length_drop, List.length_take]; rfl)) ?_
                 with_reducible refine (ephemerisref2_Compare.calls k2 t203 t204 t205 t206 t207 t208 t209 t193 t194 t195 t196 t197 t198 t199 t210 _ A45.out).mono ?_
                 rintro e w125 ⟨rfl, hb⟩
                 refine ⟨_, rfl, ?_⟩
                 have n0_ := Aside0.mk (Kd.R_below (by (with_reducible repeat (first | apply Kd.R_alloc | apply Kd.R_drewN | apply Kd.R_drew)); exact HO_38.out) hb)
                 have n1_ := Aside0.mk (Kd.R_below (by (with_reducible repeat (first | apply Kd.R_alloc | apply Kd.R_drewN | apply Kd.R_drew)); exact HO_48.out) hb)
                 have n2_ := kb_ BK176 hb
                 have n3_ := kb_ BK177 hb
                 have n4_ := kb_ BK182 hb
                 have n5_ := kb_ BK200 hb
                 have n6_ := bs_ HB hb
                 clear HO_38
                 clear HO_48
                 clear BK176
                 clear BK177
                 clear BK182
                 clear BK200
                 clear HB
                 have HO_38 := n0_
                 have HO_48 := n1_
                 have BK176 := n2_
                 have BK177 := n3_
                 have BK182 := n4_
                 have BK200 := n5_
                 have HB := n6_
                 clear n0_ n1_ n2_ n3_ n4_ n5_ n6_
                 (try clear hb)
                 (try clear hb2)
                 (try clear hk)
                 (try clear hi)
                 refine hK.out _ _ ⟨(blk_cell BK182.out 0).trans rfl, (blk_cell BK182.out 1).trans rfl, (blk_cell BK200.out 0).trans rfl, (blk_cell BK200.out 1).trans rfl, (blk_cell BK200.out 2).trans rfl, (blk_cell BK200.out 3).trans rfl, (blk_cell BK200.out 4).trans rfl, (blk_cell BK200.out 5).trans rfl, (blk_cell BK200.out 6).trans rfl⟩ (fun hHeld => ?_)
                 clear hK K
                 refine norm_ (a' := ?_) ?_ ?_
                 rotate_left
                 ·show Act.put _ (some 67) _ = _
                  simp only [Act.put, List.setIfInBounds_toArray, List.set_cons_zero, List.set_cons_succ, i64_w, i32_w]
                  rfl
                 refine one_ (i := 8) (N := some 71) #[true, true, true, true, true, true, true, true, true, false, false, false] rfl rfl (one_of HT_.out (by kernel_rfl)) (by decide) (fun K hK => ?_)
                 refine goes_ Try.func31 (by kernel_rfl) rfl #[.int .i64 t180] (by rfl) rfl rfl (by (try simp only [List.map_toArray, List.map_cons, List.map_nil]); first | done | rfl | (simp only [List.length_drop, List.length_take]; rfl)) ?_
                 with_reducible refine (ephemerisref2_ToWide.calls k2 t180 t211 t212 t213 t214 t215 t216 t217 _ A46.out).mono ?_
                 rintro e w126 ⟨rfl, hb⟩
                 refine ⟨_, rfl, ?_⟩
                 have n0_ := Aside0.mk (Kd.R_below (by (with_reducible repeat (first | apply Kd.R_alloc | apply Kd.R_drewN | apply Kd.R_drew)); exact HO_38.out) hb)
                 have n1_ := Aside0.mk (Kd.R_below (by (with_reducible repeat (first | apply Kd.R_alloc | apply Kd.R_drewN | apply Kd.R_drew)); exact HO_48.out) hb)
                 have n2_ := kb_ BK176 hb
                 have n3_ := kb_ BK177 hb
                 have n4_ := kb_ BK182 hb
                 have n5_ := kb_ BK200 hb
                 have n6_ := bs_ HB hb
                 clear HO_38
                 clear HO_48
                 clear BK176
                 clear BK177
                 clear BK182
                 clear BK200
                 clear HB
                 have HO_38 := n0_
                 have HO_48 := n1_
                 have BK176 := n2_
                 have BK177 := n3_
                 have BK182 := n4_
                 have BK200 := n5_
                 have HB := n6_
                 clear n0_ n1_ n2_ n3_ n4_ n5_ n6_
                 (try clear hb)
                 (try clear hb2)
                 (try clear hk)
                 (try clear hi)
                 refine hK.out _ _ ⟨(blk_cell BK182.out 0).trans rfl, (blk_cell BK182.out 1).trans rfl, (blk_cell BK200.out 0).trans rfl, (blk_cell BK200.out 1).trans rfl, (blk_cell BK200.out 2).trans rfl, (blk_cell BK200.out 3).trans rfl, (blk_cell BK200.out 4).trans rfl, (blk_cell BK200.out 5).trans rfl, (blk_cell BK200.out 6).trans rfl⟩ (fun hHeld => ?_)
                 clear hK K
                 refine norm_ (a' := ?_) ?_ ?_
                 rotate_left
                 ·show Act.put _ (some 71) _ = _
                  simp only [Act.put, List.setIfInBounds_toArray, List.set_cons_zero, List.set_cons_succ, i64_w, i32_w]
                  rfl
                 refine one_ (i := 9) (N := some 72) #[true, true, true, true, true, true, true, true, true, true, false, false] rfl rfl (one_of HT_.out (by kernel_rfl)) (by decide) (fun K hK => ?_)
                 refine goes_ Try.func30 (by kernel_rfl) rfl #[.agg #[.bool t193, .int .i64 t194, .int .i64 t195, .int .i64 t196, .int .i64 t197, .int .i64 t198, .int .i64 t199], .agg #[.bool t211, .int .i64 t212, .int .i64 t213, .int .i64 t214, .int .i64 t215, .int .i64 t216, .int .i64 t217]] (by rfl) rfl rfl (by (try simp only [List.map_toArray, List.map_cons, List.map_nil]); first | done | rfl | (simp only [List.length_drop, List.length_take]; rfl)) ?_
                 with_reducible refine (ephemerisref2_Compare.calls k2 t193 t194 t195 t196 t197 t198 t199 t211 t212 t213 t214 t215 t216 t217 t218 _ A47.out).mono ?_
                 rintro e w127 ⟨rfl, hb⟩
                 refine ⟨_, rfl, ?_⟩
                 have n0_ := Aside0.mk (Kd.R_below (by (with_reducible repeat (first | apply Kd.R_alloc | apply Kd.R_drewN | apply Kd.R_drew)); exact HO_38.out) hb)
                 have n1_ := Aside0.mk (Kd.R_below (by (with_reducible repeat (first | apply Kd.R_alloc | apply Kd.R_drewN | apply Kd.R_drew)); exact HO_48.out) hb)
                 have n2_ := kb_ BK176 hb
                 have n3_ := kb_ BK177 hb
                 have n4_ := kb_ BK182 hb
                 have n5_ := kb_ BK200 hb
                 have n6_ := bs_ HB hb
                 clear HO_38
                 clear HO_48
                 clear BK176
                 clear BK177
                 clear BK182
                 clear BK200
                 clear HB
                 have HO_38 := n0_
                 have HO_48 := n1_
                 have BK176 := n2_
                 have BK177 := n3_
                 have BK182 := n4_
                 have BK200 := n5_
                 have HB := n6_
                 clear n0_ n1_ n2_ n3_ n4_ n5_ n6_
                 (try clear hb)
                 (try clear hb2)
                 (try clear hk)
                 (try clear hi)
                 refine hK.out _ _ ⟨(blk_cell BK182.out 0).trans rfl, (blk_cell BK182.out 1).trans rfl, (blk_cell BK200.out 0).trans rfl, (blk_cell BK200.out 1).trans rfl, (blk_cell BK200.out 2).trans rfl, (blk_cell BK200.out 3).trans rfl, (blk_cell BK200.out 4).trans rfl, (blk_cell BK200.out 5).trans rfl, (blk_cell BK200.out 6).trans rfl⟩ (fun hHeld => ?_)
                 clear hK K
                 refine norm_ (a' := ?_) ?_ ?_
                 rotate_left
                 ·show Act.put _ (some 72) _ = _
                  simp only [Act.put, List.setIfInBounds_toArray, List.set_cons_zero, List.set_cons_succ, i64_w, i32_w]
                  rfl
                 refine pure_ (i := 10) (N := some 15) (v := ?_) (a' := ?_) #[true, true, true, true, true, true, true, true, true, true, true, false] rfl rfl (any_of HT_.out (by kernel_rfl)) (fun _ _ _ h => h) (Or.inl ⟨by rfl, ?_⟩) ?_ ?_
                 rotate_left
                 ·intro w'
                  go_simp
                  with_reducible rfl
                 rotate_left
                 ·simp only [Act.put, List.setIfInBounds_toArray, List.set_cons_zero, List.set_cons_succ, i64_w, i32_w]
                  rfl
                 refine pure_ (i := 11) (N := some 16) (v := ?_) (a' := ?_) #[true, true, true, true, true, true, true, true, true, true, true, true] rfl rfl (any_of HT_.out (by kernel_rfl)) (fun _ _ _ h => h) (Or.inl ⟨by rfl, ?_⟩) ?_ ?_
                 rotate_left
                 ·intro w'
                  go_simp
                  with_reducible rfl
                 rotate_left
                 ·simp only [Act.put, List.setIfInBounds_toArray, List.set_cons_zero, List.set_cons_succ, i64_w, i32_w]
                  rfl
                 refine done_ (done_of HT_.out (by kernel_rfl)) ?_
                 try go_wp2
                 go_roundg k2
                 case measure => have := HK1.out; have := HK2.out; omega
                 case rel => exact ⟨(true), ((t218 == 0)), (wrap64 (x50_2 + 1)), (by first | rfl | (simp; done) | (simp [*]; done)), (by first | rfl | (simp; done) | (simp [*]; done)), (by first | rfl | (simp; done) | (simp [*]; done)), H', ⟨by have := HK1.out; have := HK2.out; omega⟩, ⟨by (with_reducible repeat (first | apply Kd.R_alloc | apply Kd.R_drewN | apply Kd.R_drew)); exact HO_38.out⟩, ⟨by (with_reducible repeat (first | apply Kd.R_alloc | apply Kd.R_drewN | apply Kd.R_drew)); exact HO_48.out⟩, ⟨kk_ BK176⟩, ⟨kk_ BK177⟩, ⟨kk_ BK182⟩, (be_ HB)⟩
               ·replace c102 := Bool.eq_false_iff.mpr c102
                subst c102
                have H1 : (if x9_2 = true then (ephemerislaw2_IntervalMuls.l1 k2 t181 (t210 == 0) true (rd y185 x40_1) y185 (y185.length : Int) x40_1 y189 (y189.length : Int) (wrap64 (x50_2 + 1)) a1_0 a1_1 t179 t180) else (ephemerislaw2_IntervalMuls.l1 k2 t181 (t210 == 0) (t218 == 0) (rd y185 x40_1) y185 (y185.length : Int) x40_1 y189 (y189.length : Int) (wrap64 (x50_2 + 1)) a1_0 a1_1 t179 t180)) = some r := by rw [if_neg (show ¬ (false = true) by decide)] at H; exact H
                clear H
                have H := H1
                clear H1
                by_cases c128 : x9_2 = true
                ·subst c128
                 have H1 : (ephemerislaw2_IntervalMuls.l1 k2 t181 (t210 == 0) true (rd y185 x40_1) y185 (y185.length : Int) x40_1 y189 (y189.length : Int) (wrap64 (x50_2 + 1)) a1_0 a1_1 t179 t180) = some r := by rw [if_pos rfl] at H; exact H
                 clear H
                 have H := H1
                 clear H1
                 have H' := Aside0.mk H
                 clear H
                 have p192 : 0 ≤ (x50_2 : Int) := of_decide_eq_true (by first | (with_reducible assumption) | assumption)
                 have q192 : x50_2 < (y189.length : Int) := of_decide_eq_true (by first | (with_reducible assumption) | assumption)
                 obtain ⟨ad192, e192, hx192_0⟩ := Kd.at_int (Kd.R_reads' HO_48.out).2.2 x50_2 p192 q192
                 cases e192
                 replace p192 := eq_true p192
                 replace q192 := eq_true q192
                 try go_wp2_with (first | ((with_reducible refine gate_callee (f := 28) rfl ?_); refine goesL_ (some 56) rfl rfl Try.func28 (by kernel_rfl) rfl #[.int .i64 (rd y185 x40_1), .int .i64 (rd y189 x50_2)] rfl (by (try simp only [List.map_toArray, List.map_cons, List.map_nil]); first | done | rfl | (simp only [List.length_drop, List.length_take]; rfl)) ?_; (with_reducible refine (ephemerisref2_Product.calls k2 (rd y185 x40_1) (rd y189 x50_2) t193 t194 t195 t196 t197 t198 t199 _ A41.out).mono ?_); rintro e w129 ⟨rfl, hb⟩; refine ⟨_, rfl, ?_⟩; have n0_ := Aside0.mk (Kd.R_below (by (with_reducible repeat (first | apply Kd.R_alloc | apply Kd.R_drewN | apply Kd.R_drew)); exact HO_38.out) hb); have n1_ := Aside0.mk (Kd.R_below (by (with_reducible repeat (first | apply Kd.R_alloc | apply Kd.R_drewN | apply Kd.R_drew)); exact HO_48.out) hb); have n2_ := kb_ BK176 hb; have n3_ := kb_ BK177 hb; have n4_ := kb_ BK182 hb; have n5_ := bs_ HB hb; clear HO_38; clear HO_48; clear BK176; clear BK177; clear BK182; clear HB; have HO_38 := n0_; have HO_48 := n1_; have BK176 := n2_; have BK177 := n3_; have BK182 := n4_; have HB := n5_; clear n0_ n1_ n2_ n3_ n4_ n5_; (try clear hb); (try clear hb2); (try clear hk); (try clear hi)) | ((with_reducible refine gate_dst (N := 14) rfl ?_); refine box_event ?hg (N := 14) ?hd (cs := #[.bool false, .int .i64 0, .int .i64 0, .int .i64 0, .int .i64 0, .int .i64 0, .int .i64 0]) (t := 46) ?hr ?_; (case hd => rfl); (case hg => rfl); (case hr => first | (go_simp; done) | (go_simp; rfl)); intro gb200 hg w130 hbox hb; have n0_ := Aside0.mk (Kd.R_below (by (with_reducible repeat (first | apply Kd.R_alloc | apply Kd.R_drewN | apply Kd.R_drew)); exact HO_38.out) hb); have n1_ := Aside0.mk (Kd.R_below (by (with_reducible repeat (first | apply Kd.R_alloc | apply Kd.R_drewN | apply Kd.R_drew)); exact HO_48.out) hb); have n2_ := kb_ BK176 hb; have n3_ := kb_ BK177 hb; have n4_ := kb_ BK182 hb; have n5_ := bs_ HB hb; have n6_ := Aside0.mk (hbox); have n7_ := ge_ hg HB; have n8_ := ge_ hg HB; have n9_ := nl_ hg BK176; have n10_ := ng_ hg BK176; have n11_ := nl_ hg BK177; have n12_ := ng_ hg BK177; have n13_ := nl_ hg BK182; have n14_ := ng_ hg BK182; clear HO_38; clear HO_48; clear BK176; clear BK177; clear BK182; clear HB; have HO_38 := n0_; have HO_48 := n1_; have BK176 := n2_; have BK177 := n3_; have BK182 := n4_; have HB := n5_; have BK200 := n6_; have GW200 := n7_; have GE200 := n8_; have NB176_200 := n9_; have NB200_176 := n10_; have NB177_200 := n11_; have NB200_177 := n12_; have NB182_200 := n13_; have NB200_182 := n14_; clear n0_ n1_ n2_ n3_ n4_ n5_ n6_ n7_ n8_ n9_ n10_ n11_ n12_ n13_ n14_; clear hb hbox hg; have hnb131 := NB200_176.out; have hnc131 := NB176_200.out; have hnb132 := NB200_177.out; have hnc132 := NB177_200.out; have hnb133 := NB200_182.out; have hnc133 := NB182_200.out; have hcz134_0 : w130.cell? ⟨gb200, 0, none⟩ = some (.bool false) := (blk_cell BK200.out 0).trans rfl; have hcz134_1 : w130.cell? ⟨gb200, 1, none⟩ = some (.int .i64 0) := (blk_cell BK200.out 1).trans rfl; have hcz134_2 : w130.cell? ⟨gb200, 2, none⟩ = some (.int .i64 0) := (blk_cell BK200.out 2).trans rfl; have hcz134_3 : w130.cell? ⟨gb200, 3, none⟩ = some (.int .i64 0) := (blk_cell BK200.out 3).trans rfl; have hcz134_4 : w130.cell? ⟨gb200, 4, none⟩ = some (.int .i64 0) := (blk_cell BK200.out 4).trans rfl; have hcz134_5 : w130.cell? ⟨gb200, 5, none⟩ = some (.int .i64 0) := (blk_cell BK200.out 5).trans rfl; have hcz134_6 : w130.cell? ⟨gb200, 6, none⟩ = some (.int .i64 0) := (blk_cell BK200.out 6).trans rfl; have hfz134_0 := blk_frozen BK200.out 0; have hfz134_1 := blk_frozen BK200.out 1; have hfz134_2 := blk_frozen BK200.out 2; have hfz134_3 := blk_frozen BK200.out 3; have hfz134_4 := blk_frozen BK200.out 4; have hfz134_5 := blk_frozen BK200.out 5; have hfz134_6 := blk_frozen BK200.out 6) | ((with_reducible refine gate_callee (f := 29) rfl ?_); refine goesL_ (some 58) rfl rfl Try.func29 (by kernel_rfl) rfl #[.agg #[.bool t193, .int .i64 t194, .int .i64 t195, .int .i64 t196, .int .i64 t197, .int .i64 t198, .int .i64 t199]] rfl (by (try simp only [List.map_toArray, List.map_cons, List.map_nil]); first | done | rfl | (simp only [List.length_drop, List.length_take]; rfl)) ?_; (with_reducible refine (ephemerisref2_Fine.calls k2 t193 t194 t195 t196 t197 t198 t199 true _ A42.out).mono ?_); rintro e w135 ⟨rfl, hb⟩; refine ⟨_, rfl, ?_⟩; have n0_ := Aside0.mk (Kd.R_below (by (with_reducible repeat (first | apply Kd.R_alloc | apply Kd.R_drewN | apply Kd.R_drew)); exact (Kd.R_mono (Kd.R_far (p := ⟨gb200, 6, none⟩) (Kd.R_far (p := ⟨gb200, 5, none⟩) (Kd.R_far (p := ⟨gb200, 4, none⟩) (Kd.R_far (p := ⟨gb200, 3, none⟩) (Kd.R_far (p := ⟨gb200, 2, none⟩) (Kd.R_far (p := ⟨gb200, 1, none⟩) (Kd.R_far (p := ⟨gb200, 0, none⟩) (Kd.R_types HO_38.out BK200.out (by decide)) (fun _ hk => hk.2) (.bool t193)) (fun _ hk => hk.2) (.int .i64 t194)) (fun _ hk => hk.2) (.int .i64 t195)) (fun _ hk => hk.2) (.int .i64 t196)) (fun _ hk => hk.2) (.int .i64 t197)) (fun _ hk => hk.2) (.int .i64 t198)) (fun _ hk => hk.2) (.int .i64 t199)) (fun _ h_ => h_.1))) hb); have n1_ := Aside0.mk (Kd.R_below (by (with_reducible repeat (first | apply Kd.R_alloc | apply Kd.R_drewN | apply Kd.R_drew)); exact (Kd.R_mono (Kd.R_far (p := ⟨gb200, 6, none⟩) (Kd.R_far (p := ⟨gb200, 5, none⟩) (Kd.R_far (p := ⟨gb200, 4, none⟩) (Kd.R_far (p := ⟨gb200, 3, none⟩) (Kd.R_far (p := ⟨gb200, 2, none⟩) (Kd.R_far (p := ⟨gb200, 1, none⟩) (Kd.R_far (p := ⟨gb200, 0, none⟩) (Kd.R_types HO_48.out BK200.out (by decide)) (fun _ hk => hk.2) (.bool t193)) (fun _ hk => hk.2) (.int .i64 t194)) (fun _ hk => hk.2) (.int .i64 t195)) (fun _ hk => hk.2) (.int .i64 t196)) (fun _ hk => hk.2) (.int .i64 t197)) (fun _ hk => hk.2) (.int .i64 t198)) (fun _ hk => hk.2) (.int .i64 t199)) (fun _ h_ => h_.1))) hb); have n2_ := kb_ BK176 hb; have n3_ := kb_ BK177 hb; have n4_ := kb_ BK182 hb; have n5_ := Aside0.mk (blk_below (g := gb200) (o := .cells #[.bool t193, .int .i64 t194, .int .i64 t195, .int .i64 t196, .int .i64 t197, .int .i64 t198, .int .i64 t199] 46 (0, 0)) (by (with_reducible repeat (first | refine blk_drewN ?_ _ | refine blk_drew ?_ | refine blk_alloc ?_ _)); refine blk_put (cs := #[.bool t193, .int .i64 t194, .int .i64 t195, .int .i64 t196, .int .i64 t197, .int .i64 t198, .int .i64 0]) ?_ 6 _ rfl; (with_reducible repeat (first | refine blk_drewN ?_ _ | refine blk_drew ?_ | refine blk_alloc ?_ _)); refine blk_put (cs := #[.bool t193, .int .i64 t194, .int .i64 t195, .int .i64 t196, .int .i64 t197, .int .i64 0, .int .i64 0]) ?_ 5 _ rfl; (with_reducible repeat (first | refine blk_drewN ?_ _ | refine blk_drew ?_ | refine blk_alloc ?_ _)); refine blk_put (cs := #[.bool t193, .int .i64 t194, .int .i64 t195, .int .i64 t196, .int .i64 0, .int .i64 0, .int .i64 0]) ?_ 4 _ rfl; (with_reducible repeat (first | refine blk_drewN ?_ _ | refine blk_drew ?_ | refine blk_alloc ?_ _)); refine blk_put (cs := #[.bool t193, .int .i64 t194, .int .i64 t195, .int .i64 0, .int .i64 0, .int .i64 0, .int .i64 0]) ?_ 3 _ rfl; (with_reducible repeat (first | refine blk_drewN ?_ _ | refine blk_drew ?_ | refine blk_alloc ?_ _)); refine blk_put (cs := #[.bool t193, .int .i64 t194, .int .i64 0, .int .i64 0, .int .i64 0, .int .i64 0, .int .i64 0]) ?_ 2 _ rfl; (with_reducible repeat (first | refine blk_drewN ?_ _ | refine blk_drew ?_ | refine blk_alloc ?_ _)); refine blk_put (cs := #[.bool t193, .int .i64 0, .int .i64 0, .int .i64 0, .int .i64 0, .int .i64 0, .int .i64 0]) ?_ 1 _ rfl; (with_reducible repeat (first | refine blk_drewN ?_ _ | refine blk_drew ?_ | refine blk_alloc ?_ _)); refine blk_put (cs := #[.bool false, .int .i64 0, .int .i64 0, .int .i64 0, .int .i64 0, .int .i64 0, .int .i64 0]) ?_ 0 _ rfl; (with_reducible repeat (first | refine blk_drewN ?_ _ | refine blk_drew ?_ | refine blk_alloc ?_ _)); exact BK200.out) hb); have n6_ := bs_ HB hb; clear HO_38; clear HO_48; clear BK176; clear BK177; clear BK182; clear BK200; clear HB; have HO_38 := n0_; have HO_48 := n1_; have BK176 := n2_; have BK177 := n3_; have BK182 := n4_; have BK200 := n5_; have HB := n6_; clear n0_ n1_ n2_ n3_ n4_ n5_ n6_; (try clear hb); (try clear hb2); (try clear hk); (try clear hi)))
                 replace HO_38 := Aside0.mk (Kd.R_drew HO_38.out)
                 replace HO_48 := Aside0.mk (Kd.R_drew HO_48.out)
                 replace BK176 := Aside0.mk (blk_drew BK176.out)
                 replace BK177 := Aside0.mk (blk_drew BK177.out)
                 replace BK182 := Aside0.mk (blk_drew BK182.out)
                 replace BK200 := Aside0.mk (blk_drew BK200.out)
                 replace HB := Aside0.mk (below_drew1 HB.out)
                 refine start_ (n := 12) (S := fun w' => w'.cell? ⟨gb182, 0, none⟩ = some (.int .i64 t179) ∧ w'.cell? ⟨gb182, 1, none⟩ = some (.int .i64 t180) ∧ w'.cell? ⟨gb200, 0, none⟩ = some (.bool t193) ∧ w'.cell? ⟨gb200, 1, none⟩ = some (.int .i64 t194) ∧ w'.cell? ⟨gb200, 2, none⟩ = some (.int .i64 t195) ∧ w'.cell? ⟨gb200, 3, none⟩ = some (.int .i64 t196) ∧ w'.cell? ⟨gb200, 4, none⟩ = some (.int .i64 t197) ∧ w'.cell? ⟨gb200, 5, none⟩ = some (.int .i64 t198) ∧ w'.cell? ⟨gb200, 6, none⟩ = some (.int .i64 t199)) (ds := []) #[false, false, false, false, false, false, false, false, false, false, false, false] (by kernel_rfl) rfl rfl ⟨(blk_cell BK182.out 0).trans rfl, (blk_cell BK182.out 1).trans rfl, (blk_cell BK200.out 0).trans rfl, (blk_cell BK200.out 1).trans rfl, (blk_cell BK200.out 2).trans rfl, (blk_cell BK200.out 3).trans rfl, (blk_cell BK200.out 4).trans rfl, (blk_cell BK200.out 5).trans rfl, (blk_cell BK200.out 6).trans rfl⟩ (fun hHeld => ?_); refine with_tabW ephemerislaw2_IntervalMuls.tab17 ephemerislaw2_IntervalMuls.bits17 (fun HT_ HW_ => ?_)
                 generalize w135.drew = w136 at HO_38 HO_48 BK176 BK177 BK182 BK200 HB hHeld ⊢
                 refine pure_ (i := 0) (N := some 63) (v := ?_) (a' := ?_) #[true, false, false, false, false, false, false, false, false, false, false, false] rfl rfl (any_of HT_.out (by kernel_rfl)) (fun _ _ _ h => h) (Or.inl ⟨by rfl, ?_⟩) ?_ ?_
                 rotate_left
                 ·intro w'
                  go_simp
                  with_reducible rfl
                 rotate_left
                 ·simp only [Act.put, List.setIfInBounds_toArray, List.set_cons_zero, List.set_cons_succ, i64_w, i32_w]
                  rfl
                 refine pure_ (i := 6) (N := some 69) (v := ?_) (a' := ?_) #[true, false, false, false, false, false, true, false, false, false, false, false] rfl rfl (any_of HT_.out (by kernel_rfl)) (fun _ _ _ h => h) (Or.inl ⟨by rfl, ?_⟩) ?_ ?_
                 rotate_left
                 ·intro w'
                  go_simp
                  with_reducible rfl
                 rotate_left
                 ·simp only [Act.put, List.setIfInBounds_toArray, List.set_cons_zero, List.set_cons_succ, i64_w, i32_w]
                  rfl
                 refine take_ (i := 1) (N := some 64) (v := ?_) (a' := ?_) #[true, true, false, false, false, false, true, false, false, false, false, false] rfl rfl (take_ofW HT_.out HW_.out (by kernel_rfl)) (fun _ _ _ h => h) (Or.inl ⟨by rfl, ?_⟩) hHeld ?_ ?_
                 rotate_left
                 ·rintro w' ⟨s0, s1, s2, s3, s4, s5, s6, s7, s8⟩
                  go_simp
                  with_reducible rfl
                 rotate_left
                 ·simp only [Act.put, List.setIfInBounds_toArray, List.set_cons_zero, List.set_cons_succ, i64_w, i32_w]
                  rfl
                 refine take_ (i := 3) (N := some 66) (v := ?_) (a' := ?_) #[true, true, false, true, false, false, true, false, false, false, false, false] rfl rfl (take_ofW HT_.out HW_.out (by kernel_rfl)) (fun _ _ _ h => h) (Or.inl ⟨by rfl, ?_⟩) hHeld ?_ ?_
                 rotate_left
                 ·rintro w' ⟨s0, s1, s2, s3, s4, s5, s6, s7, s8⟩
                  go_simp
                  with_reducible rfl
                 rotate_left
                 ·simp only [Act.put, List.setIfInBounds_toArray, List.set_cons_zero, List.set_cons_succ, i64_w, i32_w]
                  rfl
                 refine take_ (i := 5) (N := some 68) (v := ?_) (a' := ?_) #[true, true, false, true, false, true, true, false, false, false, false, false] rfl rfl (take_ofW HT_.out HW_.out (by kernel_rfl)) (fun _ _ _ h => h) (Or.inl ⟨by rfl, ?_⟩) hHeld ?_ ?_
                 rotate_left
                 ·rintro w' ⟨s0, s1, s2, s3, s4, s5, s6, s7, s8⟩
                  go_simp
                  with_reducible rfl
                 rotate_left
                 ·simp only [Act.put, List.setIfInBounds_toArray, List.set_cons_zero, List.set_cons_succ, i64_w, i32_w]
                  rfl
                 refine take_ (i := 7) (N := some 70) (v := ?_) (a' := ?_) #[true, true, false, true, false, true, true, true, false, false, false, false] rfl rfl (take_ofW HT_.out HW_.out (by kernel_rfl)) (fun _ _ _ h => h) (Or.inl ⟨by rfl, ?_⟩) hHeld ?_ ?_
                 rotate_left
                 ·rintro w' ⟨s0, s1, s2, s3, s4, s5, s6, s7, s8⟩
                  go_simp
                  with_reducible rfl
                 rotate_left
                 ·simp only [Act.put, List.setIfInBounds_toArray, List.set_cons_zero, List.set_cons_succ, i64_w, i32_w]
                  rfl
                 refine one_ (i := 2) (N := some 65) #[true, true, true, true, false, true, true, true, false, false, false, false] rfl rfl (one_of HT_.out (by kernel_rfl)) (by decide) (fun K hK => ?_)
                 refine goes_ Try.func31 (by kernel_rfl) rfl #[.int .i64 t179] (by rfl) rfl rfl (by (try simp only [List.map_toArray, List.map_cons, List.map_nil]); first | done | rfl | (simp only [List.length_drop, List.length_take]; rfl)) ?_
                 with_reducible refine (ephemerisref2_ToWide.calls k2 t179 t203 t204 t205 t206 t207 t208 t209 _ A44.out).mono ?_
                 rintro e w137 ⟨rfl, hb⟩
                 refine ⟨_, rfl, ?_⟩
                 have n0_ := Aside0.mk (Kd.R_below (by (with_reducible repeat (first | apply Kd.R_alloc | apply Kd.R_drewN | apply Kd.R_drew)); exact HO_38.out) hb)
                 have n1_ := Aside0.mk (Kd.R_below (by (with_reducible repeat (first | apply Kd.R_alloc | apply Kd.R_drewN | apply Kd.R_drew)); exact HO_48.out) hb)
                 have n2_ := kb_ BK176 hb
                 have n3_ := kb_ BK177 hb
                 have n4_ := kb_ BK182 hb
                 have n5_ := kb_ BK200 hb
                 have n6_ := bs_ HB hb
                 clear HO_38
                 clear HO_48
                 clear BK176
                 clear BK177
                 clear BK182
                 clear BK200
                 clear HB
                 have HO_38 := n0_
                 have HO_48 := n1_
                 have BK176 := n2_
                 have BK177 := n3_
                 have BK182 := n4_
                 have BK200 := n5_
                 have HB := n6_
                 clear n0_ n1_ n2_ n3_ n4_ n5_ n6_
                 (try clear hb)
                 (try clear hb2)
                 (try clear hk)
                 (try clear hi)
                 refine hK.out _ _ ⟨(blk_cell BK182.out 0).trans rfl, (blk_cell BK182.out 1).trans rfl, (blk_cell BK200.out 0).trans rfl, (blk_cell BK200.out 1).trans rfl, (blk_cell BK200.out 2).trans rfl, (blk_cell BK200.out 3).trans rfl, (blk_cell BK200.out 4).trans rfl, (blk_cell BK200.out 5).trans rfl, (blk_cell BK200.out 6).trans rfl⟩ (fun hHeld => ?_)
                 clear hK K
                 refine norm_ (a' := ?_) ?_ ?_
                 rotate_left
                 ·show Act.put _ (some 65) _ = _
                  simp only [Act.put, List.setIfInBounds_toArray, List.set_cons_zero, List.set_cons_succ, i64_w, i32_w]
                  rfl
                 refine one_ (i := 4) (N := some 67) #[true, true, true, true, true, true, true, true, false, false, false, false] rfl rfl (one_of HT_.out (by kernel_rfl)) (by decide) (fun K hK => ?_)
                 refine goes_ Try.func30 (by kernel_rfl) rfl #[.agg #[.bool t203, .int .i64 t204, .int .i64 t205, .int .i64 t206, .int .i64 t207, .int .i64 t208, .int .i64 t209], .agg #[.bool t193, .int .i64 t194, .int .i64 t195, .int .i64 t196, .int .i64 t197, .int .i64 t198, .int .i64 t199]] (by rfl) rfl rfl (by (try simp only [List.map_toArray, List.map_cons, List.map_nil]); first | done | rfl | (simp only [List.length_drop, List.length_take]; rfl)) ?_
                 with_reducible refine (ephemerisref2_Compare.calls k2 t203 t204 t205 t206 t207 t208 t209 t193 t194 t195 t196 t197 t198 t199 t210 _ A45.out).mono ?_
                 rintro e w138 ⟨rfl, hb⟩
                 refine ⟨_, rfl, ?_⟩
                 have n0_ := Aside0.mk (Kd.R_below (by (with_reducible repeat (first | apply Kd.R_alloc | apply Kd.R_drewN | apply Kd.R_drew)); exact HO_38.out) hb)
                 have n1_ := Aside0.mk (Kd.R_below (by (with_reducible repeat (first | apply Kd.R_alloc | apply Kd.R_drewN | apply Kd.R_drew)); exact HO_48.out) hb)
                 have n2_ := kb_ BK176 hb
                 have n3_ := kb_ BK177 hb
                 have n4_ := kb_ BK182 hb
                 have n5_ := kb_ BK200 hb
                 have n6_ := bs_ HB hb
                 clear HO_38
                 clear HO_48
                 clear BK176
                 clear BK177
                 clear BK182
                 clear BK200
                 clear HB
                 have HO_38 := n0_
                 have HO_48 := n1_
                 have BK176 := n2_
                 have BK177 := n3_
                 have BK182 := n4_
                 have BK200 := n5_
                 have HB := n6_
                 clear n0_ n1_ n2_ n3_ n4_ n5_ n6_
                 (try clear hb)
                 (try clear hb2)
                 (try clear hk)
                 (try clear hi)
                 refine hK.out _ _ ⟨(blk_cell BK182.out 0).trans rfl, (blk_cell BK182.out 1).trans rfl, (blk_cell BK200.out 0).trans rfl, (blk_cell BK200.out 1).trans rfl, (blk_cell BK200.out 2).trans rfl, (blk_cell BK200.out 3).trans rfl, (blk_cell BK200.out 4).trans rfl, (blk_cell BK200.out 5).trans rfl, (blk_cell BK200.out 6).trans rfl⟩ (fun hHeld => ?_)
                 clear hK K
                 refine norm_ (a' := ?_) ?_ ?_
                 rotate_left
                 ·show Act.put _ (some 67) _ = _
                  simp only [Act.put, List.setIfInBounds_toArray, List.set_cons_zero, List.set_cons_succ, i64_w, i32_w]
                  rfl
                 refine one_ (i := 8) (N := some 71) #[true, true, true, true, true, true, true, true, true, false, false, false] rfl rfl (one_of HT_.out (by kernel_rfl)) (by decide) (fun K hK => ?_)
                 refine goes_ Try.func31 (by kernel_rfl) rfl #[.int .i64 t180] (by rfl) rfl rfl (by (try simp only [List.map_toArray, List.map_cons, List.map_nil]); first | done | rfl | (simp only [List.length_drop, List.length_take]; rfl)) ?_
                 with_reducible refine (ephemerisref2_ToWide.calls k2 t180 t211 t212 t213 t214 t215 t216 t217 _ A46.out).mono ?_
                 rintro e w139 ⟨rfl, hb⟩
                 refine ⟨_, rfl, ?_⟩
                 have n0_ := Aside0.mk (Kd.R_below (by (with_reducible repeat (first | apply Kd.R_alloc | apply Kd.R_drewN | apply Kd.R_drew)); exact HO_38.out) hb)
                 have n1_ := Aside0.mk (Kd.R_below (by (with_reducible repeat (first | apply Kd.R_alloc | apply Kd.R_drewN | apply Kd.R_drew)); exact HO_48.out) hb)
                 have n2_ := kb_ BK176 hb
                 have n3_ := kb_ BK177 hb
                 have n4_ := kb_ BK182 hb
                 have n5_ := kb_ BK200 hb
                 have n6_ := bs_ HB hb
                 clear HO_38
                 clear HO_48
                 clear BK176
                 clear BK177
                 clear BK182
                 clear BK200
                 clear HB
                 have HO_38 := n0_
                 have HO_48 := n1_
                 have BK176 := n2_
                 have BK177 := n3_
                 have BK182 := n4_
                 have BK200 := n5_
                 have HB := n6_
                 clear n0_ n1_ n2_ n3_ n4_ n5_ n6_
                 (try clear hb)
                 (try clear hb2)
                 (try clear hk)
                 (try clear hi)
                 refine hK.out _ _ ⟨(blk_cell BK182.out 0).trans rfl, (blk_cell BK182.out 1).trans rfl, (blk_cell BK200.out 0).trans rfl, (blk_cell BK200.out 1).trans rfl, (blk_cell BK200.out 2).trans rfl, (blk_cell BK200.out 3).trans rfl, (blk_cell BK200.out 4).trans rfl, (blk_cell BK200.out 5).trans rfl, (blk_cell BK200.out 6).trans rfl⟩ (fun hHeld => ?_)
                 clear hK K
                 refine norm_ (a' := ?_) ?_ ?_
                 rotate_left
                 ·show Act.put _ (some 71) _ = _
                  simp only [Act.put, List.setIfInBounds_toArray, List.set_cons_zero, List.set_cons_succ, i64_w, i32_w]
                  rfl
                 refine one_ (i := 9) (N := some 72) #[true, true, true, true, true, true, true, true, true, true, false, false] rfl rfl (one_of HT_.out (by kernel_rfl)) (by decide) (fun K hK => ?_)
                 refine goes_ Try.func30 (by kernel_rfl) rfl #[.agg #[.bool t193, .int .i64 t194, .int .i64 t195, .int .i64 t196, .int .i64 t197, .int .i64 t198, .int .i64 t199], .agg #[.bool t211, .int .i64 t212, .int .i64 t213, .int .i64 t214, .int .i64 t215, .int .i64 t216, .int .i64 t217]] (by rfl) rfl rfl (by (try simp only [List.map_toArray, List.map_cons, List.map_nil]); first | done | rfl | (simp only [List.length_drop, List.length_take]; rfl)) ?_
                 with_reducible refine (ephemerisref2_Compare.calls k2 t193 t194 t195 t196 t197 t198 t199 t211 t212 t213 t214 t215 t216 t217 t218 _ A47.out).mono ?_
                 rintro e w140 ⟨rfl, hb⟩
                 refine ⟨_, rfl, ?_⟩
                 have n0_ := Aside0.mk (Kd.R_below (by (with_reducible repeat (first | apply Kd.R_alloc | apply Kd.R_drewN | apply Kd.R_drew)); exact HO_38.out) hb)
                 have n1_ := Aside0.mk (Kd.R_below (by (with_reducible repeat (first | apply Kd.R_alloc | apply Kd.R_drewN | apply Kd.R_drew)); exact HO_48.out) hb)
                 have n2_ := kb_ BK176 hb
                 have n3_ := kb_ BK177 hb
                 have n4_ := kb_ BK182 hb
                 have n5_ := kb_ BK200 hb
                 have n6_ := bs_ HB hb
                 clear HO_38
                 clear HO_48
                 clear BK176
                 clear BK177
                 clear BK182
                 clear BK200
                 clear HB
                 have HO_38 := n0_
                 have HO_48 := n1_
                 have BK176 := n2_
                 have BK177 := n3_
                 have BK182 := n4_
                 have BK200 := n5_
                 have HB := n6_
                 clear n0_ n1_ n2_ n3_ n4_ n5_ n6_
                 (try clear hb)
                 (try clear hb2)
                 (try clear hk)
                 (try clear hi)
                 refine hK.out _ _ ⟨(blk_cell BK182.out 0).trans rfl, (blk_cell BK182.out 1).trans rfl, (blk_cell BK200.out 0).trans rfl, (blk_cell BK200.out 1).trans rfl, (blk_cell BK200.out 2).trans rfl, (blk_cell BK200.out 3).trans rfl, (blk_cell BK200.out 4).trans rfl, (blk_cell BK200.out 5).trans rfl, (blk_cell BK200.out 6).trans rfl⟩ (fun hHeld => ?_)
                 clear hK K
                 refine norm_ (a' := ?_) ?_ ?_
                 rotate_left
                 ·show Act.put _ (some 72) _ = _
                  simp only [Act.put, List.setIfInBounds_toArray, List.set_cons_zero, List.set_cons_succ, i64_w, i32_w]
                  rfl
                 refine pure_ (i := 10) (N := some 15) (v := ?_) (a' := ?_) #[true, true, true, true, true, true, true, true, true, true, true, false] rfl rfl (any_of HT_.out (by kernel_rfl)) (fun _ _ _ h => h) (Or.inl ⟨by rfl, ?_⟩) ?_ ?_
                 rotate_left
                 ·intro w'
                  go_simp
                  with_reducible rfl
                 rotate_left
                 ·simp only [Act.put, List.setIfInBounds_toArray, List.set_cons_zero, List.set_cons_succ, i64_w, i32_w]
                  rfl
                 refine pure_ (i := 11) (N := some 16) (v := ?_) (a' := ?_) #[true, true, true, true, true, true, true, true, true, true, true, true] rfl rfl (any_of HT_.out (by kernel_rfl)) (fun _ _ _ h => h) (Or.inl ⟨by rfl, ?_⟩) ?_ ?_
                 rotate_left
                 ·intro w'
                  go_simp
                  with_reducible rfl
                 rotate_left
                 ·simp only [Act.put, List.setIfInBounds_toArray, List.set_cons_zero, List.set_cons_succ, i64_w, i32_w]
                  rfl
                 refine done_ (done_of HT_.out (by kernel_rfl)) ?_
                 try go_wp2
                 go_roundg k2
                 case measure => have := HK1.out; have := HK2.out; omega
                 case rel => exact ⟨((t210 == 0)), (true), (wrap64 (x50_2 + 1)), (by first | rfl | (simp; done) | (simp [*]; done)), (by first | rfl | (simp; done) | (simp [*]; done)), (by first | rfl | (simp; done) | (simp [*]; done)), H', ⟨by have := HK1.out; have := HK2.out; omega⟩, ⟨by (with_reducible repeat (first | apply Kd.R_alloc | apply Kd.R_drewN | apply Kd.R_drew)); exact HO_38.out⟩, ⟨by (with_reducible repeat (first | apply Kd.R_alloc | apply Kd.R_drewN | apply Kd.R_drew)); exact HO_48.out⟩, ⟨kk_ BK176⟩, ⟨kk_ BK177⟩, ⟨kk_ BK182⟩, (be_ HB)⟩
                ·replace c128 := Bool.eq_false_iff.mpr c128
                 subst c128
                 have H1 : (ephemerislaw2_IntervalMuls.l1 k2 t181 (t210 == 0) (t218 == 0) (rd y185 x40_1) y185 (y185.length : Int) x40_1 y189 (y189.length : Int) (wrap64 (x50_2 + 1)) a1_0 a1_1 t179 t180) = some r := by rw [if_neg (show ¬ (false = true) by decide)] at H; exact H
                 clear H
                 have H := H1
                 clear H1
                 have H' := Aside0.mk H
                 clear H
                 have p192 : 0 ≤ (x50_2 : Int) := of_decide_eq_true (by first | (with_reducible assumption) | assumption)
                 have q192 : x50_2 < (y189.length : Int) := of_decide_eq_true (by first | (with_reducible assumption) | assumption)
                 obtain ⟨ad192, e192, hx192_0⟩ := Kd.at_int (Kd.R_reads' HO_48.out).2.2 x50_2 p192 q192
                 cases e192
                 replace p192 := eq_true p192
                 replace q192 := eq_true q192
                 try go_wp2_with (first | ((with_reducible refine gate_callee (f := 28) rfl ?_); refine goesL_ (some 56) rfl rfl Try.func28 (by kernel_rfl) rfl #[.int .i64 (rd y185 x40_1), .int .i64 (rd y189 x50_2)] rfl (by (try simp only [List.map_toArray, List.map_cons, List.map_nil]); first | done | rfl | (simp only [List.length_drop, List.length_take]; rfl)) ?_; (with_reducible refine (ephemerisref2_Product.calls k2 (rd y185 x40_1) (rd y189 x50_2) t193 t194 t195 t196 t197 t198 t199 _ A41.out).mono ?_); rintro e w141 ⟨rfl, hb⟩; refine ⟨_, rfl, ?_⟩; have n0_ := Aside0.mk (Kd.R_below (by (with_reducible repeat (first | apply Kd.R_alloc | apply Kd.R_drewN | apply Kd.R_drew)); exact HO_38.out) hb); have n1_ := Aside0.mk (Kd.R_below (by (with_reducible repeat (first | apply Kd.R_alloc | apply Kd.R_drewN | apply Kd.R_drew)); exact HO_48.out) hb); have n2_ := kb_ BK176 hb; have n3_ := kb_ BK177 hb; have n4_ := kb_ BK182 hb; have n5_ := bs_ HB hb; clear HO_38; clear HO_48; clear BK176; clear BK177; clear BK182; clear HB; have HO_38 := n0_; have HO_48 := n1_; have BK176 := n2_; have BK177 := n3_; have BK182 := n4_; have HB := n5_; clear n0_ n1_ n2_ n3_ n4_ n5_; (try clear hb); (try clear hb2); (try clear hk); (try clear hi)) | ((with_reducible refine gate_dst (N := 14) rfl ?_); refine box_event ?hg (N := 14) ?hd (cs := #[.bool false, .int .i64 0, .int .i64 0, .int .i64 0, .int .i64 0, .int .i64 0, .int .i64 0]) (t := 46) ?hr ?_; (case hd => rfl); (case hg => rfl); (case hr => first | (go_simp; done) | (go_simp; rfl)); intro gb200 hg w142 hbox hb; have n0_ := Aside0.mk (Kd.R_below (by (with_reducible repeat (first | apply Kd.R_alloc | apply Kd.R_drewN | apply Kd.R_drew)); exact HO_38.out) hb); have n1_ := Aside0.mk (Kd.R_below (by (with_reducible repeat (first | apply Kd.R_alloc | apply Kd.R_drewN | apply Kd.R_drew)); exact HO_48.out) hb); have n2_ := kb_ BK176 hb; have n3_ := kb_ BK177 hb; have n4_ := kb_ BK182 hb; have n5_ := bs_ HB hb; have n6_ := Aside0.mk (hbox); have n7_ := ge_ hg HB; have n8_ := ge_ hg HB; have n9_ := nl_ hg BK176; have n10_ := ng_ hg BK176; have n11_ := nl_ hg BK177; have n12_ := ng_ hg BK177; have n13_ := nl_ hg BK182; have n14_ := ng_ hg BK182; clear HO_38; clear HO_48; clear BK176; clear BK177; clear BK182; clear HB; have HO_38 := n0_; have HO_48 := n1_; have BK176 := n2_; have BK177 := n3_; have BK182 := n4_; have HB := n5_; have BK200 := n6_; have GW200 := n7_; have GE200 := n8_; have NB176_200 := n9_; have NB200_176 := n10_; have NB177_200 := n11_; have NB200_177 := n12_; have NB182_200 := n13_; have NB200_182 := n14_; clear n0_ n1_ n2_ n3_ n4_ n5_ n6_ n7_ n8_ n9_ n10_ n11_ n12_ n13_ n14_; clear hb hbox hg; have hnb143 := NB200_176.out; have hnc143 := NB176_200.out; have hnb144 := NB200_177.out; have hnc144 := NB177_200.out; have hnb145 := NB200_182.out; have hnc145 := NB182_200.out; have hcz146_0 : w142.cell? ⟨gb200, 0, none⟩ = some (.bool false) := (blk_cell BK200.out 0).trans rfl; have hcz146_1 : w142.cell? ⟨gb200, 1, none⟩ = some (.int .i64 0) := (blk_cell BK200.out 1).trans rfl; have hcz146_2 : w142.cell? ⟨gb200, 2, none⟩ = some (.int .i64 0) := (blk_cell BK200.out 2).trans rfl; have hcz146_3 : w142.cell? ⟨gb200, 3, none⟩ = some (.int .i64 0) := (blk_cell BK200.out 3).trans rfl; have hcz146_4 : w142.cell? ⟨gb200, 4, none⟩ = some (.int .i64 0) := (blk_cell BK200.out 4).trans rfl; have hcz146_5 : w142.cell? ⟨gb200, 5, none⟩ = some (.int .i64 0) := (blk_cell BK200.out 5).trans rfl; have hcz146_6 : w142.cell? ⟨gb200, 6, none⟩ = some (.int .i64 0) := (blk_cell BK200.out 6).trans rfl; have hfz146_0 := blk_frozen BK200.out 0; have hfz146_1 := blk_frozen BK200.out 1; have hfz146_2 := blk_frozen BK200.out 2; have hfz146_3 := blk_frozen BK200.out 3; have hfz146_4 := blk_frozen BK200.out 4; have hfz146_5 := blk_frozen BK200.out 5; have hfz146_6 := blk_frozen BK200.out 6) | ((with_reducible refine gate_callee (f := 29) rfl ?_); refine goesL_ (some 58) rfl rfl Try.func29 (by kernel_rfl) rfl #[.agg #[.bool t193, .int .i64 t194, .int .i64 t195, .int .i64 t196, .int .i64 t197, .int .i64 t198, .int .i64 t199]] rfl (by (try simp only [List.map_toArray, List.map_cons, List.map_nil]); first | done | rfl | (simp only [List.length_drop, List.length_take]; rfl)) ?_; (with_reducible refine (ephemerisref2_Fine.calls k2 t193 t194 t195 t196 t197 t198 t199 true _ A42.out).mono ?_); rintro e w147 ⟨rfl, hb⟩; refine ⟨_, rfl, ?_⟩; have n0_ := Aside0.mk (Kd.R_below (by (with_reducible repeat (first | apply Kd.R_alloc | apply Kd.R_drewN | apply Kd.R_drew)); exact (Kd.R_mono (Kd.R_far (p := ⟨gb200, 6, none⟩) (Kd.R_far (p := ⟨gb200, 5, none⟩) (Kd.R_far (p := ⟨gb200, 4, none⟩) (Kd.R_far (p := ⟨gb200, 3, none⟩) (Kd.R_far (p := ⟨gb200, 2, none⟩) (Kd.R_far (p := ⟨gb200, 1, none⟩) (Kd.R_far (p := ⟨gb200, 0, none⟩) (Kd.R_types HO_38.out BK200.out (by decide)) (fun _ hk => hk.2) (.bool t193)) (fun _ hk => hk.2) (.int .i64 t194)) (fun _ hk => hk.2) (.int .i64 t195)) (fun _ hk => hk.2) (.int .i64 t196)) (fun _ hk => hk.2) (.int .i64 t197)) (fun _ hk => hk.2) (.int .i64 t198)) (fun _ hk => hk.2) (.int .i64 t199)) (fun _ h_ => h_.1))) hb); have n1_ := Aside0.mk (Kd.R_below (by (with_reducible repeat (first | apply Kd.R_alloc | apply Kd.R_drewN | apply Kd.R_drew)); exact (Kd.R_mono (Kd.R_far (p := ⟨gb200, 6, none⟩) (Kd.R_far (p := ⟨gb200, 5, none⟩) (Kd.R_far (p := ⟨gb200, 4, none⟩) (Kd.R_far (p := ⟨gb200, 3, none⟩) (Kd.R_far (p := ⟨gb200, 2, none⟩) (Kd.R_far (p := ⟨gb200, 1, none⟩) (Kd.R_far (p := ⟨gb200, 0, none⟩) (Kd.R_types HO_48.out BK200.out (by decide)) (fun _ hk => hk.2) (.bool t193)) (fun _ hk => hk.2) (.int .i64 t194)) (fun _ hk => hk.2) (.int .i64 t195)) (fun _ hk => hk.2) (.int .i64 t196)) (fun _ hk => hk.2) (.int .i64 t197)) (fun _ hk => hk.2) (.int .i64 t198)) (fun _ hk => hk.2) (.int .i64 t199)) (fun _ h_ => h_.1))) hb); have n2_ := kb_ BK176 hb; have n3_ := kb_ BK177 hb; have n4_ := kb_ BK182 hb; have n5_ := Aside0.mk (blk_below (g := gb200) (o := .cells #[.bool t193, .int .i64 t194, .int .i64 t195, .int .i64 t196, .int .i64 t197, .int .i64 t198, .int .i64 t199] 46 (0, 0)) (by (with_reducible repeat (first | refine blk_drewN ?_ _ | refine blk_drew ?_ | refine blk_alloc ?_ _)); refine blk_put (cs := #[.bool t193, .int .i64 t194, .int .i64 t195, .int .i64 t196, .int .i64 t197, .int .i64 t198, .int .i64 0]) ?_ 6 _ rfl; (with_reducible repeat (first | refine blk_drewN ?_ _ | refine blk_drew ?_ | refine blk_alloc ?_ _)); refine blk_put (cs := #[.bool t193, .int .i64 t194, .int .i64 t195, .int .i64 t196, .int .i64 t197, .int .i64 0, .int .i64 0]) ?_ 5 _ rfl; (with_reducible repeat (first | refine blk_drewN ?_ _ | refine blk_drew ?_ | refine blk_alloc ?_ _)); refine blk_put (cs := #[.bool t193, .int .i64 t194, .int .i64 t195, .int .i64 t196, .int .i64 0, .int .i64 0, .int .i64 0]) ?_ 4 _ rfl; (with_reducible repeat (first | refine blk_drewN ?_ _ | refine blk_drew ?_ | refine blk_alloc ?_ _)); refine blk_put (cs := #[.bool t193, .int .i64 t194, .int .i64 t195, .int .i64 0, .int .i64 0, .int .i64 0, .int .i64 0]) ?_ 3 _ rfl; (with_reducible repeat (first | refine blk_drewN ?_ _ | refine blk_drew ?_ | refine blk_alloc ?_ _)); refine blk_put (cs := #[.bool t193, .int .i64 t194, .int .i64 0, .int .i64 0, .int .i64 0, .int .i64 0, .int .i64 0]) ?_ 2 _ rfl; (with_reducible repeat (first | refine blk_drewN ?_ _ | refine blk_drew ?_ | refine blk_alloc ?_ _)); refine blk_put (cs := #[.bool t193, .int .i64 0, .int .i64 0, .int .i64 0, .int .i64 0, .int .i64 0, .int .i64 0]) ?_ 1 _ rfl; (with_reducible repeat (first | refine blk_drewN ?_ _ | refine blk_drew ?_ | refine blk_alloc ?_ _)); refine blk_put (cs := #[.bool false, .int .i64 0, .int .i64 0, .int .i64 0, .int .i64 0, .int .i64 0, .int .i64 0]) ?_ 0 _ rfl; (with_reducible repeat (first | refine blk_drewN ?_ _ | refine blk_drew ?_ | refine blk_alloc ?_ _)); exact BK200.out) hb); have n6_ := bs_ HB hb; clear HO_38; clear HO_48; clear BK176; clear BK177; clear BK182; clear BK200; clear HB; have HO_38 := n0_; have HO_48 := n1_; have BK176 := n2_; have BK177 := n3_; have BK182 := n4_; have BK200 := n5_; have HB := n6_; clear n0_ n1_ n2_ n3_ n4_ n5_ n6_; (try clear hb); (try clear hb2); (try clear hk); (try clear hi)))
                 replace HO_38 := Aside0.mk (Kd.R_drew HO_38.out)
                 replace HO_48 := Aside0.mk (Kd.R_drew HO_48.out)
                 replace BK176 := Aside0.mk (blk_drew BK176.out)
                 replace BK177 := Aside0.mk (blk_drew BK177.out)
                 replace BK182 := Aside0.mk (blk_drew BK182.out)
                 replace BK200 := Aside0.mk (blk_drew BK200.out)
                 replace HB := Aside0.mk (below_drew1 HB.out)
                 refine start_ (n := 12) (S := fun w' => w'.cell? ⟨gb182, 0, none⟩ = some (.int .i64 t179) ∧ w'.cell? ⟨gb182, 1, none⟩ = some (.int .i64 t180) ∧ w'.cell? ⟨gb200, 0, none⟩ = some (.bool t193) ∧ w'.cell? ⟨gb200, 1, none⟩ = some (.int .i64 t194) ∧ w'.cell? ⟨gb200, 2, none⟩ = some (.int .i64 t195) ∧ w'.cell? ⟨gb200, 3, none⟩ = some (.int .i64 t196) ∧ w'.cell? ⟨gb200, 4, none⟩ = some (.int .i64 t197) ∧ w'.cell? ⟨gb200, 5, none⟩ = some (.int .i64 t198) ∧ w'.cell? ⟨gb200, 6, none⟩ = some (.int .i64 t199)) (ds := []) #[false, false, false, false, false, false, false, false, false, false, false, false] (by kernel_rfl) rfl rfl ⟨(blk_cell BK182.out 0).trans rfl, (blk_cell BK182.out 1).trans rfl, (blk_cell BK200.out 0).trans rfl, (blk_cell BK200.out 1).trans rfl, (blk_cell BK200.out 2).trans rfl, (blk_cell BK200.out 3).trans rfl, (blk_cell BK200.out 4).trans rfl, (blk_cell BK200.out 5).trans rfl, (blk_cell BK200.out 6).trans rfl⟩ (fun hHeld => ?_); refine with_tabW ephemerislaw2_IntervalMuls.tab17 ephemerislaw2_IntervalMuls.bits17 (fun HT_ HW_ => ?_)
                 generalize w147.drew = w148 at HO_38 HO_48 BK176 BK177 BK182 BK200 HB hHeld ⊢
                 refine pure_ (i := 0) (N := some 63) (v := ?_) (a' := ?_) #[true, false, false, false, false, false, false, false, false, false, false, false] rfl rfl (any_of HT_.out (by kernel_rfl)) (fun _ _ _ h => h) (Or.inl ⟨by rfl, ?_⟩) ?_ ?_
                 rotate_left
                 ·intro w'
                  go_simp
                  with_reducible rfl
                 rotate_left
                 ·simp only [Act.put, List.setIfInBounds_toArray, List.set_cons_zero, List.set_cons_succ, i64_w, i32_w]
                  rfl
                 refine pure_ (i := 6) (N := some 69) (v := ?_) (a' := ?_) #[true, false, false, false, false, false, true, false, false, false, false, false] rfl rfl (any_of HT_.out (by kernel_rfl)) (fun _ _ _ h => h) (Or.inl ⟨by rfl, ?_⟩) ?_ ?_
                 rotate_left
                 ·intro w'
                  go_simp
                  with_reducible rfl
                 rotate_left
                 ·simp only [Act.put, List.setIfInBounds_toArray, List.set_cons_zero, List.set_cons_succ, i64_w, i32_w]
                  rfl
                 refine take_ (i := 1) (N := some 64) (v := ?_) (a' := ?_) #[true, true, false, false, false, false, true, false, false, false, false, false] rfl rfl (take_ofW HT_.out HW_.out (by kernel_rfl)) (fun _ _ _ h => h) (Or.inl ⟨by rfl, ?_⟩) hHeld ?_ ?_
                 rotate_left
                 ·rintro w' ⟨s0, s1, s2, s3, s4, s5, s6, s7, s8⟩
                  go_simp
                  with_reducible rfl
                 rotate_left
                 ·simp only [Act.put, List.setIfInBounds_toArray, List.set_cons_zero, List.set_cons_succ, i64_w, i32_w]
                  rfl
                 refine take_ (i := 3) (N := some 66) (v := ?_) (a' := ?_) #[true, true, false, true, false, false, true, false, false, false, false, false] rfl rfl (take_ofW HT_.out HW_.out (by kernel_rfl)) (fun _ _ _ h => h) (Or.inl ⟨by rfl, ?_⟩) hHeld ?_ ?_
                 rotate_left
                 ·rintro w' ⟨s0, s1, s2, s3, s4, s5, s6, s7, s8⟩
                  go_simp
                  with_reducible rfl
                 rotate_left
                 ·simp only [Act.put, List.setIfInBounds_toArray, List.set_cons_zero, List.set_cons_succ, i64_w, i32_w]
                  rfl
                 refine take_ (i := 5) (N := some 68) (v := ?_) (a' := ?_) #[true, true, false, true, false, true, true, false, false, false, false, false] rfl rfl (take_ofW HT_.out HW_.out (by kernel_rfl)) (fun _ _ _ h => h) (Or.inl ⟨by rfl, ?_⟩) hHeld ?_ ?_
                 rotate_left
                 ·rintro w' ⟨s0, s1, s2, s3, s4, s5, s6, s7, s8⟩
                  go_simp
                  with_reducible rfl
                 rotate_left
                 ·simp only [Act.put, List.setIfInBounds_toArray, List.set_cons_zero, List.set_cons_succ, i64_w, i32_w]
                  rfl
                 refine take_ (i := 7) (N := some 70) (v := ?_) (a' := ?_) #[true, true, false, true, false, true, true, true, false, false, false, false] rfl rfl (take_ofW HT_.out HW_.out (by kernel_rfl)) (fun _ _ _ h => h) (Or.inl ⟨by rfl, ?_⟩) hHeld ?_ ?_
                 rotate_left
                 ·rintro w' ⟨s0, s1, s2, s3, s4, s5, s6, s7, s8⟩
                  go_simp
                  with_reducible rfl
                 rotate_left
                 ·simp only [Act.put, List.setIfInBounds_toArray, List.set_cons_zero, List.set_cons_succ, i64_w, i32_w]
                  rfl
                 refine one_ (i := 2) (N := some 65) #[true, true, true, true, false, true, true, true, false, false, false, false] rfl rfl (one_of HT_.out (by kernel_rfl)) (by decide) (fun K hK => ?_)
                 refine goes_ Try.func31 (by kernel_rfl) rfl #[.int .i64 t179] (by rfl) rfl rfl (by (try simp only [List.map_toArray, List.map_cons, List.map_nil]); first | done | rfl | (simp only [List.length_drop, List.length_take]; rfl)) ?_
                 with_reducible refine (ephemerisref2_ToWide.calls k2 t179 t203 t204 t205 t206 t207 t208 t209 _ A44.out).mono ?_
                 rintro e w149 ⟨rfl, hb⟩
                 refine ⟨_, rfl, ?_⟩
                 have n0_ := Aside0.mk (Kd.R_below (by (with_reducible repeat (first | apply Kd.R_alloc | apply Kd.R_drewN | apply Kd.R_drew)); exact HO_38.out) hb)
                 have n1_ := Aside0.mk (Kd.R_below (by (with_reducible repeat (first | apply Kd.R_alloc | apply Kd.R_drewN | apply Kd.R_drew)); exact HO_48.out) hb)
                 have n2_ := kb_ BK176 hb
                 have n3_ := kb_ BK177 hb
                 have n4_ := kb_ BK182 hb
                 have n5_ := kb_ BK200 hb
                 have n6_ := bs_ HB hb
                 clear HO_38
                 clear HO_48
                 clear BK176
                 clear BK177
                 clear BK182
                 clear BK200
                 clear HB
                 have HO_38 := n0_
                 have HO_48 := n1_
                 have BK176 := n2_
                 have BK177 := n3_
                 have BK182 := n4_
                 have BK200 := n5_
                 have HB := n6_
                 clear n0_ n1_ n2_ n3_ n4_ n5_ n6_
                 (try clear hb)
                 (try clear hb2)
                 (try clear hk)
                 (try clear hi)
                 refine hK.out _ _ ⟨(blk_cell BK182.out 0).trans rfl, (blk_cell BK182.out 1).trans rfl, (blk_cell BK200.out 0).trans rfl, (blk_cell BK200.out 1).trans rfl, (blk_cell BK200.out 2).trans rfl, (blk_cell BK200.out 3).trans rfl, (blk_cell BK200.out 4).trans rfl, (blk_cell BK200.out 5).trans rfl, (blk_cell BK200.out 6).trans rfl⟩ (fun hHeld => ?_)
                 clear hK K
                 refine norm_ (a' := ?_) ?_ ?_
                 rotate_left
                 ·show Act.put _ (some 65) _ = _
                  simp only [Act.put, List.setIfInBounds_toArray, List.set_cons_zero, List.set_cons_succ, i64_w, i32_w]
                  rfl
                 refine one_ (i := 4) (N := some 67) #[true, true, true, true, true, true, true, true, false, false, false, false] rfl rfl (one_of HT_.out (by kernel_rfl)) (by decide) (fun K hK => ?_)
                 refine goes_ Try.func30 (by kernel_rfl) rfl #[.agg #[.bool t203, .int .i64 t204, .int .i64 t205, .int .i64 t206, .int .i64 t207, .int .i64 t208, .int .i64 t209], .agg #[.bool t193, .int .i64 t194, .int .i64 t195, .int .i64 t196, .int .i64 t197, .int .i64 t198, .int .i64 t199]] (by rfl) rfl rfl (by (try simp only [List.map_toArray, List.map_cons, List.map_nil]); first | done | rfl | (simp only [List.length_drop, List.length_take]; rfl)) ?_
                 with_reducible refine (ephemerisref2_Compare.calls k2 t203 t204 t205 t206 t207 t208 t209 t193 t194 t195 t196 t197 t198 t199 t210 _ A45.out).mono ?_
                 rintro e w150 ⟨rfl, hb⟩
                 refine ⟨_, rfl, ?_⟩
                 have n0_ := Aside0.mk (Kd.R_below (by (with_reducible repeat (first | apply Kd.R_alloc | apply Kd.R_drewN | apply Kd.R_drew)); exact HO_38.out) hb)
                 have n1_ := Aside0.mk (Kd.R_below (by (with_reducible repeat (first | apply Kd.R_alloc | apply Kd.R_drewN | apply Kd.R_drew)); exact HO_48.out) hb)
                 have n2_ := kb_ BK176 hb
                 have n3_ := kb_ BK177 hb
                 have n4_ := kb_ BK182 hb
                 have n5_ := kb_ BK200 hb
                 have n6_ := bs_ HB hb
                 clear HO_38
                 clear HO_48
                 clear BK176
                 clear BK177
                 clear BK182
                 clear BK200
                 clear HB
                 have HO_38 := n0_
                 have HO_48 := n1_
                 have BK176 := n2_
                 have BK177 := n3_
                 have BK182 := n4_
                 have BK200 := n5_
                 have HB := n6_
                 clear n0_ n1_ n2_ n3_ n4_ n5_ n6_
                 (try clear hb)
                 (try clear hb2)
                 (try clear hk)
                 (try clear hi)
                 refine hK.out _ _ ⟨(blk_cell BK182.out 0).trans rfl, (blk_cell BK182.out 1).trans rfl, (blk_cell BK200.out 0).trans rfl, (blk_cell BK200.out 1).trans rfl, (blk_cell BK200.out 2).trans rfl, (blk_cell BK200.out 3).trans rfl, (blk_cell BK200.out 4).trans rfl, (blk_cell BK200.out 5).trans rfl, (blk_cell BK200.out 6).trans rfl⟩ (fun hHeld => ?_)
                 clear hK K
                 refine norm_ (a' := ?_) ?_ ?_
                 rotate_left
                 ·show Act.put _ (some 67) _ = _
                  simp only [Act.put, List.setIfInBounds_toArray, List.set_cons_zero, List.set_cons_succ, i64_w, i32_w]
                  rfl
                 refine one_ (i := 8) (N := some 71) #[true, true, true, true, true, true, true, true, true, false, false, false] rfl rfl (one_of HT_.out (by kernel_rfl)) (by decide) (fun K hK => ?_)
                 refine goes_ Try.func31 (by kernel_rfl) rfl #[.int .i64 t180] (by rfl) rfl rfl (by (try simp only [List.map_toArray, List.map_cons, List.map_nil]); first | done | rfl | (simp only [List.length_drop, List.length_take]; rfl)) ?_
                 with_reducible refine (ephemerisref2_ToWide.calls k2 t180 t211 t212 t213 t214 t215 t216 t217 _ A46.out).mono ?_
                 rintro e w151 ⟨rfl, hb⟩
                 refine ⟨_, rfl, ?_⟩
                 have n0_ := Aside0.mk (Kd.R_below (by (with_reducible repeat (first | apply Kd.R_alloc | apply Kd.R_drewN | apply Kd.R_drew)); exact HO_38.out) hb)
                 have n1_ := Aside0.mk (Kd.R_below (by (with_reducible repeat (first | apply Kd.R_alloc | apply Kd.R_drewN | apply Kd.R_drew)); exact HO_48.out) hb)
                 have n2_ := kb_ BK176 hb
                 have n3_ := kb_ BK177 hb
                 have n4_ := kb_ BK182 hb
                 have n5_ := kb_ BK200 hb
                 have n6_ := bs_ HB hb
                 clear HO_38
                 clear HO_48
                 clear BK176
                 clear BK177
                 clear BK182
                 clear BK200
                 clear HB
                 have HO_38 := n0_
                 have HO_48 := n1_
                 have BK176 := n2_
                 have BK177 := n3_
                 have BK182 := n4_
                 have BK200 := n5_
                 have HB := n6_
                 clear n0_ n1_ n2_ n3_ n4_ n5_ n6_
                 (try clear hb)
                 (try clear hb2)
                 (try clear hk)
                 (try clear hi)
                 refine hK.out _ _ ⟨(blk_cell BK182.out 0).trans rfl, (blk_cell BK182.out 1).trans rfl, (blk_cell BK200.out 0).trans rfl, (blk_cell BK200.out 1).trans rfl, (blk_cell BK200.out 2).trans rfl, (blk_cell BK200.out 3).trans rfl, (blk_cell BK200.out 4).trans rfl, (blk_cell BK200.out 5).trans rfl, (blk_cell BK200.out 6).trans rfl⟩ (fun hHeld => ?_)
                 clear hK K
                 refine norm_ (a' := ?_) ?_ ?_
                 rotate_left
                 ·show Act.put _ (some 71) _ = _
                  simp only [Act.put, List.setIfInBounds_toArray, List.set_cons_zero, List.set_cons_succ, i64_w, i32_w]
                  rfl
                 refine one_ (i := 9) (N := some 72) #[true, true, true, true, true, true, true, true, true, true, false, false] rfl rfl (one_of HT_.out (by kernel_rfl)) (by decide) (fun K hK => ?_)
                 refine goes_ Try.func30 (by kernel_rfl) rfl #[.agg #[.bool t193, .int .i64 t194, .int .i64 t195, .int .i64 t196, .int .i64 t197, .int .i64 t198, .int .i64 t199], .agg #[.bool t211, .int .i64 t212, .int .i64 t213, .int .i64 t214, .int .i64 t215, .int .i64 t216, .int .i64 t217]] (by rfl) rfl rfl (by (try simp only [List.map_toArray, List.map_cons, List.map_nil]); first | done | rfl | (simp only [List.length_drop, List.length_take]; rfl)) ?_
                 with_reducible refine (ephemerisref2_Compare.calls k2 t193 t194 t195 t196 t197 t198 t199 t211 t212 t213 t214 t215 t216 t217 t218 _ A47.out).mono ?_
                 rintro e w152 ⟨rfl, hb⟩
                 refine ⟨_, rfl, ?_⟩
                 have n0_ := Aside0.mk (Kd.R_below (by (with_reducible repeat (first | apply Kd.R_alloc | apply Kd.R_drewN | apply Kd.R_drew)); exact HO_38.out) hb)
                 have n1_ := Aside0.mk (Kd.R_below (by (with_reducible repeat (first | apply Kd.R_alloc | apply Kd.R_drewN | apply Kd.R_drew)); exact HO_48.out) hb)
                 have n2_ := kb_ BK176 hb
                 have n3_ := kb_ BK177 hb
                 have n4_ := kb_ BK182 hb
                 have n5_ := kb_ BK200 hb
                 have n6_ := bs_ HB hb
                 clear HO_38
                 clear HO_48
                 clear BK176
                 clear BK177
                 clear BK182
                 clear BK200
                 clear HB
                 have HO_38 := n0_
                 have HO_48 := n1_
                 have BK176 := n2_
                 have BK177 := n3_
                 have BK182 := n4_
                 have BK200 := n5_
                 have HB := n6_
                 clear n0_ n1_ n2_ n3_ n4_ n5_ n6_
                 (try clear hb)
                 (try clear hb2)
                 (try clear hk)
                 (try clear hi)
                 refine hK.out _ _ ⟨(blk_cell BK182.out 0).trans rfl, (blk_cell BK182.out 1).trans rfl, (blk_cell BK200.out 0).trans rfl, (blk_cell BK200.out 1).trans rfl, (blk_cell BK200.out 2).trans rfl, (blk_cell BK200.out 3).trans rfl, (blk_cell BK200.out 4).trans rfl, (blk_cell BK200.out 5).trans rfl, (blk_cell BK200.out 6).trans rfl⟩ (fun hHeld => ?_)
                 clear hK K
                 refine norm_ (a' := ?_) ?_ ?_
                 rotate_left
                 ·show Act.put _ (some 72) _ = _
                  simp only [Act.put, List.setIfInBounds_toArray, List.set_cons_zero, List.set_cons_succ, i64_w, i32_w]
                  rfl
                 refine pure_ (i := 10) (N := some 15) (v := ?_) (a' := ?_) #[true, true, true, true, true, true, true, true, true, true, true, false] rfl rfl (any_of HT_.out (by kernel_rfl)) (fun _ _ _ h => h) (Or.inl ⟨by rfl, ?_⟩) ?_ ?_
                 rotate_left
                 ·intro w'
                  go_simp
                  with_reducible rfl
                 rotate_left
                 ·simp only [Act.put, List.setIfInBounds_toArray, List.set_cons_zero, List.set_cons_succ, i64_w, i32_w]
                  rfl
                 refine pure_ (i := 11) (N := some 16) (v := ?_) (a' := ?_) #[true, true, true, true, true, true, true, true, true, true, true, true] rfl rfl (any_of HT_.out (by kernel_rfl)) (fun _ _ _ h => h) (Or.inl ⟨by rfl, ?_⟩) ?_ ?_
                 rotate_left
                 ·intro w'
                  go_simp
                  with_reducible rfl
                 rotate_left
                 ·simp only [Act.put, List.setIfInBounds_toArray, List.set_cons_zero, List.set_cons_succ, i64_w, i32_w]
                  rfl
                 refine done_ (done_of HT_.out (by kernel_rfl)) ?_
                 try go_wp2
                 go_roundg k2
                 case measure => have := HK1.out; have := HK2.out; omega
                 case rel => exact ⟨((t210 == 0)), ((t218 == 0)), (wrap64 (x50_2 + 1)), (by first | rfl | (simp; done) | (simp [*]; done)), (by first | rfl | (simp; done) | (simp [*]; done)), (by first | rfl | (simp; done) | (simp [*]; done)), H', ⟨by have := HK1.out; have := HK2.out; omega⟩, ⟨by (with_reducible repeat (first | apply Kd.R_alloc | apply Kd.R_drewN | apply Kd.R_drew)); exact HO_38.out⟩, ⟨by (with_reducible repeat (first | apply Kd.R_alloc | apply Kd.R_drewN | apply Kd.R_drew)); exact HO_48.out⟩, ⟨kk_ BK176⟩, ⟨kk_ BK177⟩, ⟨kk_ BK182⟩, (be_ HB)⟩
             ·replace c43 := Bool.eq_false_iff.mpr c43
              subst c43
              have H1 : ((ephemerislaw2_none.f t179 t180 t181 14).bind fun t202 => (some t202)) = some r := by rw [if_neg (show ¬ (false = true) by decide)] at H; exact H
              clear H
              have H := H1
              clear H1
              replace H := Option.bind_eq_some_iff.mp H
              obtain ⟨t202, A1530, H⟩ := H
              replace H : (some t202) = some r := H
              have A153 := Aside0.mk A1530
              clear A1530
              obtain rfl := Option.some.inj H
              simp only [Option.some.injEq, Prod.mk.injEq] at H
              obtain ⟨rfl⟩ := H
              have p192 : 0 ≤ (x50_2 : Int) := of_decide_eq_true (by first | (with_reducible assumption) | assumption)
              have q192 : x50_2 < (y189.length : Int) := of_decide_eq_true (by first | (with_reducible assumption) | assumption)
              obtain ⟨ad192, e192, hx192_0⟩ := Kd.at_int (Kd.R_reads' HO_48.out).2.2 x50_2 p192 q192
              cases e192
              replace p192 := eq_true p192
              replace q192 := eq_true q192
              go_wp2_with (first | ((with_reducible refine gate_callee (f := 28) rfl ?_); refine goesL_ (some 56) rfl rfl Try.func28 (by kernel_rfl) rfl #[.int .i64 (rd y185 x40_1), .int .i64 (rd y189 x50_2)] rfl (by (try simp only [List.map_toArray, List.map_cons, List.map_nil]); first | done | rfl | (simp only [List.length_drop, List.length_take]; rfl)) ?_; (with_reducible refine (ephemerisref2_Product.calls k2 (rd y185 x40_1) (rd y189 x50_2) t193 t194 t195 t196 t197 t198 t199 _ A41.out).mono ?_); rintro e w154 ⟨rfl, hb⟩; refine ⟨_, rfl, ?_⟩; have n0_ := Aside0.mk (Kd.R_below (by (with_reducible repeat (first | apply Kd.R_alloc | apply Kd.R_drewN | apply Kd.R_drew)); exact HO_38.out) hb); have n1_ := Aside0.mk (Kd.R_below (by (with_reducible repeat (first | apply Kd.R_alloc | apply Kd.R_drewN | apply Kd.R_drew)); exact HO_48.out) hb); have n2_ := kb_ BK176 hb; have n3_ := kb_ BK177 hb; have n4_ := kb_ BK182 hb; have n5_ := bs_ HB hb; clear HO_38; clear HO_48; clear BK176; clear BK177; clear BK182; clear HB; have HO_38 := n0_; have HO_48 := n1_; have BK176 := n2_; have BK177 := n3_; have BK182 := n4_; have HB := n5_; clear n0_ n1_ n2_ n3_ n4_ n5_; (try clear hb); (try clear hb2); (try clear hk); (try clear hi)) | ((with_reducible refine gate_dst (N := 14) rfl ?_); refine box_event ?hg (N := 14) ?hd (cs := #[.bool false, .int .i64 0, .int .i64 0, .int .i64 0, .int .i64 0, .int .i64 0, .int .i64 0]) (t := 46) ?hr ?_; (case hd => rfl); (case hg => rfl); (case hr => first | (go_simp; done) | (go_simp; rfl)); intro gb200 hg w155 hbox hb; have n0_ := Aside0.mk (Kd.R_below (by (with_reducible repeat (first | apply Kd.R_alloc | apply Kd.R_drewN | apply Kd.R_drew)); exact HO_38.out) hb); have n1_ := Aside0.mk (Kd.R_below (by (with_reducible repeat (first | apply Kd.R_alloc | apply Kd.R_drewN | apply Kd.R_drew)); exact HO_48.out) hb); have n2_ := kb_ BK176 hb; have n3_ := kb_ BK177 hb; have n4_ := kb_ BK182 hb; have n5_ := bs_ HB hb; have n6_ := Aside0.mk (hbox); have n7_ := ge_ hg HB; have n8_ := ge_ hg HB; have n9_ := nl_ hg BK176; have n10_ := ng_ hg BK176; have n11_ := nl_ hg BK177; have n12_ := ng_ hg BK177; have n13_ := nl_ hg BK182; have n14_ := ng_ hg BK182; clear HO_38; clear HO_48; clear BK176; clear BK177; clear BK182; clear HB; have HO_38 := n0_; have HO_48 := n1_; have BK176 := n2_; have BK177 := n3_; have BK182 := n4_; have HB := n5_; have BK200 := n6_; have GW200 := n7_; have GE200 := n8_; have NB176_200 := n9_; have NB200_176 := n10_; have NB177_200 := n11_; have NB200_177 := n12_; have NB182_200 := n13_; have NB200_182 := n14_; clear n0_ n1_ n2_ n3_ n4_ n5_ n6_ n7_ n8_ n9_ n10_ n11_ n12_ n13_ n14_; clear hb hbox hg; have hnb156 := NB200_176.out; have hnc156 := NB176_200.out; have hnb157 := NB200_177.out; have hnc157 := NB177_200.out; have hnb158 := NB200_182.out; have hnc158 := NB182_200.out; have hcz159_0 : w155.cell? ⟨gb200, 0, none⟩ = some (.bool false) := (blk_cell BK200.out 0).trans rfl; have hcz159_1 : w155.cell? ⟨gb200, 1, none⟩ = some (.int .i64 0) := (blk_cell BK200.out 1).trans rfl; have hcz159_2 : w155.cell? ⟨gb200, 2, none⟩ = some (.int .i64 0) := (blk_cell BK200.out 2).trans rfl; have hcz159_3 : w155.cell? ⟨gb200, 3, none⟩ = some (.int .i64 0) := (blk_cell BK200.out 3).trans rfl; have hcz159_4 : w155.cell? ⟨gb200, 4, none⟩ = some (.int .i64 0) := (blk_cell BK200.out 4).trans rfl; have hcz159_5 : w155.cell? ⟨gb200, 5, none⟩ = some (.int .i64 0) := (blk_cell BK200.out 5).trans rfl; have hcz159_6 : w155.cell? ⟨gb200, 6, none⟩ = some (.int .i64 0) := (blk_cell BK200.out 6).trans rfl; have hfz159_0 := blk_frozen BK200.out 0; have hfz159_1 := blk_frozen BK200.out 1; have hfz159_2 := blk_frozen BK200.out 2; have hfz159_3 := blk_frozen BK200.out 3; have hfz159_4 := blk_frozen BK200.out 4; have hfz159_5 := blk_frozen BK200.out 5; have hfz159_6 := blk_frozen BK200.out 6) | ((with_reducible refine gate_callee (f := 29) rfl ?_); refine goesL_ (some 58) rfl rfl Try.func29 (by kernel_rfl) rfl #[.agg #[.bool t193, .int .i64 t194, .int .i64 t195, .int .i64 t196, .int .i64 t197, .int .i64 t198, .int .i64 t199]] rfl (by (try simp only [List.map_toArray, List.map_cons, List.map_nil]); first | done | rfl | (simp only [List.length_drop, List.length_take]; rfl)) ?_; (with_reducible refine (ephemerisref2_Fine.calls k2 t193 t194 t195 t196 t197 t198 t199 false _ A42.out).mono ?_); rintro e w160 ⟨rfl, hb⟩; refine ⟨_, rfl, ?_⟩; have n0_ := Aside0.mk (Kd.R_below (by (with_reducible repeat (first | apply Kd.R_alloc | apply Kd.R_drewN | apply Kd.R_drew)); exact (Kd.R_mono (Kd.R_far (p := ⟨gb200, 6, none⟩) (Kd.R_far (p := ⟨gb200, 5, none⟩) (Kd.R_far (p := ⟨gb200, 4, none⟩) (Kd.R_far (p := ⟨gb200, 3, none⟩) (Kd.R_far (p := ⟨gb200, 2, none⟩) (Kd.R_far (p := ⟨gb200, 1, none⟩) (Kd.R_far (p := ⟨gb200, 0, none⟩) (Kd.R_types HO_38.out BK200.out (by decide)) (fun _ hk => hk.2) (.bool t193)) (fun _ hk => hk.2) (.int .i64 t194)) (fun _ hk => hk.2) (.int .i64 t195)) (fun _ hk => hk.2) (.int .i64 t196)) (fun _ hk => hk.2) (.int .i64 t197)) (fun _ hk => hk.2) (.int .i64 t198)) (fun _ hk => hk.2) (.int .i64 t199)) (fun _ h_ => h_.1))) hb); have n1_ := Aside0.mk (Kd.R_below (by (with_reducible repeat (first | apply Kd.R_alloc | apply Kd.R_drewN | apply Kd.R_drew)); exact (Kd.R_mono (Kd.R_far (p := ⟨gb200, 6, none⟩) (Kd.R_far (p := ⟨gb200, 5, none⟩) (Kd.R_far (p := ⟨gb200, 4, none⟩) (Kd.R_far (p := ⟨gb200, 3, none⟩) (Kd.R_far (p := ⟨gb200, 2, none⟩) (Kd.R_far (p := ⟨gb200, 1, none⟩) (Kd.R_far (p := ⟨gb200, 0, none⟩) (Kd.R_types HO_48.out BK200.out (by decide)) (fun _ hk => hk.2) (.bool t193)) (fun _ hk => hk.2) (.int .i64 t194)) (fun _ hk => hk.2) (.int .i64 t195)) (fun _ hk => hk.2) (.int .i64 t196)) (fun _ hk => hk.2) (.int .i64 t197)) (fun _ hk => hk.2) (.int .i64 t198)) (fun _ hk => hk.2) (.int .i64 t199)) (fun _ h_ => h_.1))) hb); have n2_ := kb_ BK176 hb; have n3_ := kb_ BK177 hb; have n4_ := kb_ BK182 hb; have n5_ := Aside0.mk (blk_below (g := gb200) (o := .cells #[.bool t193, .int .i64 t194, .int .i64 t195, .int .i64 t196, .int .i64 t197, .int .i64 t198, .int .i64 t199] 46 (0, 0)) (by (with_reducible repeat (first | refine blk_drewN ?_ _ | refine blk_drew ?_ | refine blk_alloc ?_ _)); refine blk_put (cs := #[.bool t193, .int .i64 t194, .int .i64 t195, .int .i64 t196, .int .i64 t197, .int .i64 t198, .int .i64 0]) ?_ 6 _ rfl; (with_reducible repeat (first | refine blk_drewN ?_ _ | refine blk_drew ?_ | refine blk_alloc ?_ _)); refine blk_put (cs := #[.bool t193, .int .i64 t194, .int .i64 t195, .int .i64 t196, .int .i64 t197, .int .i64 0, .int .i64 0]) ?_ 5 _ rfl; (with_reducible repeat (first | refine blk_drewN ?_ _ | refine blk_drew ?_ | refine blk_alloc ?_ _)); refine blk_put (cs := #[.bool t193, .int .i64 t194, .int .i64 t195, .int .i64 t196, .int .i64 0, .int .i64 0, .int .i64 0]) ?_ 4 _ rfl; (with_reducible repeat (first | refine blk_drewN ?_ _ | refine blk_drew ?_ | refine blk_alloc ?_ _)); refine blk_put (cs := #[.bool t193, .int .i64 t194, .int .i64 t195, .int .i64 0, .int .i64 0, .int .i64 0, .int .i64 0]) ?_ 3 _ rfl; (with_reducible repeat (first | refine blk_drewN ?_ _ | refine blk_drew ?_ | refine blk_alloc ?_ _)); refine blk_put (cs := #[.bool t193, .int .i64 t194, .int .i64 0, .int .i64 0, .int .i64 0, .int .i64 0, .int .i64 0]) ?_ 2 _ rfl; (with_reducible repeat (first | refine blk_drewN ?_ _ | refine blk_drew ?_ | refine blk_alloc ?_ _)); refine blk_put (cs := #[.bool t193, .int .i64 0, .int .i64 0, .int .i64 0, .int .i64 0, .int .i64 0, .int .i64 0]) ?_ 1 _ rfl; (with_reducible repeat (first | refine blk_drewN ?_ _ | refine blk_drew ?_ | refine blk_alloc ?_ _)); refine blk_put (cs := #[.bool false, .int .i64 0, .int .i64 0, .int .i64 0, .int .i64 0, .int .i64 0, .int .i64 0]) ?_ 0 _ rfl; (with_reducible repeat (first | refine blk_drewN ?_ _ | refine blk_drew ?_ | refine blk_alloc ?_ _)); exact BK200.out) hb); have n6_ := bs_ HB hb; clear HO_38; clear HO_48; clear BK176; clear BK177; clear BK182; clear BK200; clear HB; have HO_38 := n0_; have HO_48 := n1_; have BK176 := n2_; have BK177 := n3_; have BK182 := n4_; have BK200 := n5_; have HB := n6_; clear n0_ n1_ n2_ n3_ n4_ n5_ n6_; (try clear hb); (try clear hb2); (try clear hk); (try clear hi); have hnb161 := NB182_176.out; have hnc161 := NB176_182.out; have hnb162 := NB182_177.out; have hnc162 := NB177_182.out; have hcz163_0 : w160.cell? ⟨gb182, 0, none⟩ = some (.int .i64 t179) := (blk_cell BK182.out 0).trans rfl; have hcz163_1 : w160.cell? ⟨gb182, 1, none⟩ = some (.int .i64 t180) := (blk_cell BK182.out 1).trans rfl; have hfz163_0 := blk_frozen BK182.out 0; have hfz163_1 := blk_frozen BK182.out 1) | ((with_reducible refine gate_callee (f := 27) rfl ?_); refine goesL_ (some 62) rfl rfl Try.func27 (by kernel_rfl) rfl #[.agg #[.int .i64 t179, .int .i64 t180], .int .i64 t181, .int .i64 14] rfl (by (try simp only [List.map_toArray, List.map_cons, List.map_nil]); first | done | rfl | (simp only [List.length_drop, List.length_take]; rfl)) ?_; (with_reducible refine (ephemerislaw2_none.calls t179 t180 t181 14 t202 _ A153.out).mono ?_); rintro e w164 ⟨rfl, hb⟩; refine ⟨_, rfl, ?_⟩; have n0_ := Aside0.mk (Kd.R_below (by (with_reducible repeat (first | apply Kd.R_alloc | apply Kd.R_drewN | apply Kd.R_drew)); exact HO_38.out) hb); have n1_ := Aside0.mk (Kd.R_below (by (with_reducible repeat (first | apply Kd.R_alloc | apply Kd.R_drewN | apply Kd.R_drew)); exact HO_48.out) hb); have n2_ := kb_ BK176 hb; have n3_ := kb_ BK177 hb; have n4_ := kb_ BK182 hb; have n5_ := kb_ BK200 hb; have n6_ := bs_ HB hb; clear HO_38; clear HO_48; clear BK176; clear BK177; clear BK182; clear BK200; clear HB; have HO_38 := n0_; have HO_48 := n1_; have BK176 := n2_; have BK177 := n3_; have BK182 := n4_; have BK200 := n5_; have HB := n6_; clear n0_ n1_ n2_ n3_ n4_ n5_ n6_; (try clear hb); (try clear hb2); (try clear hk); (try clear hi)))
              go_ret
              exact ⟨by first | rfl | (simp [errW_none, errW_some] <;> rfl) | (simp [*, errW_none, errW_some] <;> rfl), (be_ HB).out⟩
            ·rw [if_neg c40] at H
             exact absurd H (by simp)
           ·rw [if_neg c39] at H
            exact absurd H (by simp)
          ·rw [if_neg c38] at H
           have c38b0 : decide (x50_2 < (y189.length : Int)) = false := decide_eq_false c38
           clear c38
           have H' := Aside0.mk H
           clear H
           go_wp2
           go_roundg k2
           case measure => have := HK1.out; have := HK2.out; omega
           case rel => exact ⟨(x8_2), (x9_2), (wrap64 (x40_1 + 1)), (by first | rfl | (simp; done) | (simp [*]; done)), (by first | rfl | (simp; done) | (simp [*]; done)), (by first | rfl | (simp; done) | (simp [*]; done)), H', ⟨by have := HK1.out; have := HK2.out; omega⟩, ⟨by (with_reducible repeat (first | apply Kd.R_alloc | apply Kd.R_drewN | apply Kd.R_drew)); exact Kd.R_mono HO_38.out (fun _ hk => trivial)⟩, ⟨kk_ BK176⟩, ⟨kk_ BK177⟩, ⟨kk_ BK182⟩, (be_ HB)⟩
       ·rw [if_neg c31] at H
        exact absurd H (by simp)
      ·rw [if_neg c30] at H
       exact absurd H (by simp)
     ·rw [if_neg c29] at H
      have c29b0 : decide (x40_1 < (y185.length : Int)) = false := decide_eq_false c29
      clear c29
      by_cases c165 : t181 = 0
      ·rw [if_pos c165] at H
       have c165b0 : (t181 == 0) = true := beq_iff_eq.mpr c165
       have c165b1 : (t181 != 0) = false := bne_eq_false_iff_eq.mpr c165
       clear c165
       by_cases c166 : x8_1 = true
       ·subst c166
        have H1 : (some x9_1) = some r := by rw [if_pos rfl] at H; exact H
        clear H
        have H := H1
        clear H1
        obtain rfl := Option.some.inj H
        simp only [Option.some.injEq, Prod.mk.injEq] at H
        obtain ⟨rfl⟩ := H
        go_wp2
        go_ret
        exact ⟨by first | rfl | (simp [errW_none, errW_some] <;> rfl) | (simp [*, errW_none, errW_some] <;> rfl), (be_ HB).out⟩
       ·replace c166 := Bool.eq_false_iff.mpr c166
        subst c166
        have H1 : (some false) = some r := by rw [if_neg (show ¬ (false = true) by decide)] at H; exact H
        clear H
        have H := H1
        clear H1
        obtain rfl := Option.some.inj H
        exact absurd hT (by decide)
      ·rw [if_neg c165] at H
       have c165b0 : (t181 == 0) = false := beq_eq_false_iff_ne.mpr c165
       have c165b1 : (t181 != 0) = true := bne_iff_ne.mpr c165
       obtain rfl := Option.some.inj H
       exact absurd hT (by decide)
  ·rw [if_neg c22] at H
   have c22b0 : (t183 == 0) = false := beq_eq_false_iff_ne.mpr c22
   have c22b1 : (t183 != 0) = true := bne_iff_ne.mpr c22
   (first | rw [c22b0] | (simp only [i64_w, i32_w]; rw [c22b0]) | skip)
   replace H := Option.bind_eq_some_iff.mp H
   obtain ⟨t184, A1670, H⟩ := H
   replace H : (some t184) = some r := H
   have A167 := Aside0.mk A1670
   clear A1670
   obtain rfl := Option.some.inj H
   simp only [Option.some.injEq, Prod.mk.injEq] at H
   obtain ⟨rfl⟩ := H
   have hnb168 := NB182_176.out
   have hnc168 := NB176_182.out
   have hnb169 := NB182_177.out
   have hnc169 := NB177_182.out
   have hcz170_0 : w21.cell? ⟨gb182, 0, none⟩ = some (.int .i64 t179) := (blk_cell BK182.out 0).trans rfl
   have hcz170_1 : w21.cell? ⟨gb182, 1, none⟩ = some (.int .i64 t180) := (blk_cell BK182.out 1).trans rfl
   have hfz170_0 := blk_frozen BK182.out 0
   have hfz170_1 := blk_frozen BK182.out 1
   go_wp2_with (first | ((with_reducible refine gate_callee (f := 27) rfl ?_); refine goesL_ (some 33) rfl rfl Try.func27 (by kernel_rfl) rfl #[.agg #[.int .i64 t179, .int .i64 t180], .int .i64 t181, .int .i64 t183] rfl (by (try simp only [List.map_toArray, List.map_cons, List.map_nil]); first | done | rfl | (simp only [List.length_drop, List.length_take]; rfl)) ?_; (with_reducible refine (ephemerislaw2_none.calls t179 t180 t181 t183 t184 _ A167.out).mono ?_); rintro e w171 ⟨rfl, hb⟩; refine ⟨_, rfl, ?_⟩; replace BK176 := kb_ BK176 hb; replace BK177 := kb_ BK177 hb; replace BK182 := kb_ BK182 hb; replace HB := bs_ HB hb; (try clear hb); (try clear hb2); (try clear hk); (try clear hi)))
   go_ret
   exact ⟨by first | rfl | (simp [errW_none, errW_some] <;> rfl) | (simp [*, errW_none, errW_some] <;> rfl), (be_ HB).out⟩
 ·replace c4 := Bool.eq_false_iff.mpr c4
  subst c4
  have H1 : (some false) = some r := by rw [if_neg (show ¬ (false = true) by decide)] at H; exact H
  clear H
  have H := H1
  clear H1
  obtain rfl := Option.some.inj H
  exact absurd hT (by decide)
end Go.Proofs.Ytflnkfppkcjegaa.PAll
