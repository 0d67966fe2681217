/- Written by a program of this session out of the translation. -/
import Derived.Test.YtedakilpogagiaaDialLinesn13
namespace Go.Proofs.Ytedakilpogagiaa.PAll
open Go.RowKit Go.Proofs.YtedakilpogagiaaW.PrintWords Go.Proofs.YtedakilpogagiaaW.PrintLast Go.Proofs.YtedakilpogagiaaW.PrintMore Go.Proofs.Ytedakilpogagiaa.More2 Go.Proofs.Ytedakilpogagiaa.Sq
attribute [local go_sem] max2_int min2_int max_two min_two max_three min_three max_four min_four tdiv2e18_ tdiv1e18_ cellSS_  -- for this text's walks alone
set_option linter.unusedVariables false
set_option linter.unusedSimpArgs false
attribute [local go_sem high] eqA23
mutual
def ephemerislaw2_DialLines.j0 : Nat → Int → Int → Int → List (S23) → Int → Bool → Int → Int → Option (Bool)
 | 0, _, _, _, _, _, _, _, _ => none
 | k + 1, x0, x1, x6, x7, x8, x32, x472000, x472001 => if x32 = true then ((ephemerislaw2_none.f x472000 x472001 x6 3).bind fun t476 => (if t476 = true then (if x8 = 3 then (some ((x7.length : Int) == 0)) else (some false)) else (some false))) else (if x8 = 0 then (ephemerislaw2_DialLines.j1 k x0 x1 x6 x7 ((x7.length : Int) != 13) x472000 x472001) else (ephemerislaw2_DialLines.j1 k x0 x1 x6 x7 true x472000 x472001))
def ephemerislaw2_DialLines.j1 : Nat → Int → Int → Int → List (S23) → Bool → Int → Int → Option (Bool)
 | 0, _, _, _, _, _, _, _ => none
 | k + 1, x0, x1, x6, x7, x51, x472000, x472001 => if x51 = true then (some false) else (if x1 < 6 then (ephemerislaw2_DialLines.j2 k x0 x1 x6 x7 true x472000 x472001) else (ephemerislaw2_DialLines.j2 k x0 x1 x6 x7 (decide (x1 > 18)) x472000 x472001))
def ephemerislaw2_DialLines.j2 : Nat → Int → Int → Int → List (S23) → Bool → Int → Int → Option (Bool)
 | 0, _, _, _, _, _, _, _ => none
 | k + 1, x0, x1, x6, x7, x57, x472000, x472001 => if x57 = true then ((ephemerislaw2_none.f x472000 x472001 x6 1).bind fun t477 => (some t477)) else ((ephemerisref2_SinCos.f k (wrap64 (x0 * 1000000))).bind fun bt478 => ((ephemerisref2_SinCos.f k (wrap64 ((wrap64 (Int.tdiv (wrap64 ((wrap64 (x1 - 12)) * 1000000000)) 24)) * 1000000))).bind fun bt480 => ((ephemerisref2_Mod.f x472000 1000000000).bind fun t482 => (if x6 = 0 then (if 0 ≤ (wrap64 (x1 - 6)) then (if (wrap64 (x1 - 6)) < (x7.length : Int) then (if (((rd_T23 x7 (wrap64 (x1 - 6))).f0) == x472000 && (((rd_T23 x7 (wrap64 (x1 - 6))).f1) == x472001)) = true then ((ephemerislaw2_beyond.f x472000 500000000).bind fun t485 => (if t485 = true then (some false) else (if (wrap64 (x472001 - x472000)) ≤ 50 then ((ephemerisref2_Mul.f bt478.1 bt480.1).bind fun t486 => ((ephemerisref2_InArc.f k t482 (wrap64 ((wrap64 (t482 + x472001)) - x472000)) t486 bt480.2).bind fun t487 => (some t487))) else (some false)))) else (some false)) else (none)) else (none)) else (some false)))))
end
def ephemerislaw2_DialLines.f (k : Nat) (a0 : Int) (a1 : Int) : Option (Bool) := (ephemerislaw2_dialWorks.f k).bind fun t467 => (if t467 = true then ((dial_Line.f k a0 a1).bind fun bt468 => ((dial_Lines.f k a0).bind fun bt472 => (if a0 < 10000000 then (ephemerislaw2_DialLines.j0 k a0 a1 bt468.2.2 bt472.1 bt472.2 true bt468.1 bt468.2.1) else (ephemerislaw2_DialLines.j0 k a0 a1 bt468.2.2 bt472.1 bt472.2 (decide (a0 > 220000000)) bt468.1 bt468.2.1)))) else (some false))
def ephemerislaw2_DialLines.T15 : Bool × List (List Nat × List Nat) := (true, [([], []), ([0], [0]), ([1], [1]), ([2], [2]), ([2], [2]), ([4, 2], [2, 4]), ([3, 5, 2], [2, 3, 5]), ([6, 2], [2, 6]), ([2], [2]), ([7, 8, 2], [2, 7, 8]), ([2, 9], [2, 9]), ([10, 2], [10]), ([11], [11]), ([12, 11], [11, 12]), ([13, 11, 11], [11, 13]), ([14, 11], [11, 14]), ([11, 15], [11, 15]), ([16, 14], [16]), ([17], [17]), ([18, 17], [17, 18]), ([17], [17]), ([20, 17], [17, 20]), ([19, 21, 17], [17, 19, 21]), ([22, 17], [17, 22]), ([17, 23], [17, 23]), ([24, 17], [24]), ([25], [25]), ([25], [25]), ([25], [25]), ([27, 28, 25, 25], [25, 27, 28]), ([25], [25]), ([26, 29, 30, 29, 25], [25, 26, 29, 30]), ([25, 31], [25, 31]), ([32, 31, 0, 1, 2, 3, 4, 5, 6, 7, 8, 9, 10, 11, 12, 13, 14, 15, 16, 17, 18, 19, 20, 21, 22, 23, 24, 25, 26, 27, 28, 29, 30, 31, 32], [32])])
def ephemerislaw2_DialLines.B15 : List Nat := [0, 1, 3, 7, 7, 23, 63, 127, 7, 511, 1023, 2047, 4095, 8191, 16383, 32767, 65535, 131071, 262143, 524287, 262143, 1310719, 4194303, 8388607, 16777215, 33554431, 67108863, 67108863, 67108863, 469762047, 67108863, 2147483647, 4294967295, 8589934591]
theorem ephemerislaw2_DialLines.tab15 : rtab .any (opsOf Try.f7 15) = ephemerislaw2_DialLines.T15 := by kernel_rfl
theorem ephemerislaw2_DialLines.bits15 : waitsOk ephemerislaw2_DialLines.T15.2 ephemerislaw2_DialLines.B15 = true := by kernel_rfl
set_option maxHeartbeats 8000000 in
set_option maxRecDepth 100000 in
theorem ephemerislaw2_DialLines.calls (k : Nat) (a0 : Int) (a1 : Int) (r : Bool) (w : World) (h : ephemerislaw2_DialLines.f k a0 a1 = some r) (hT : r = true) :
  Calls Try.prog 7 #[.int .i64 a0, .int .i64 a1] w fun e w' => e = .returned (.bool r) ∧ Below w.heap.size w w' := by
 have hu23 := Try.underlying23
 have HB := Aside0.mk (Below.refl w.heap.size w)
 have H : ((ephemerislaw2_dialWorks.f k).bind fun t467 => (if t467 = true then ((dial_Line.f k a0 a1).bind fun bt468 => ((dial_Lines.f k a0).bind fun bt472 => (if a0 < 10000000 then (ephemerislaw2_DialLines.j0 k a0 a1 bt468.2.2 bt472.1 bt472.2 true bt468.1 bt468.2.1) else (ephemerislaw2_DialLines.j0 k a0 a1 bt468.2.2 bt472.1 bt472.2 (decide (a0 > 220000000)) bt468.1 bt468.2.1)))) else (some false))) = some r := h
 clear h
 replace H := Option.bind_eq_some_iff.mp H
 obtain ⟨t467, A30, H⟩ := H
 replace H : (if t467 = true then ((dial_Line.f k a0 a1).bind fun bt468 => ((dial_Lines.f k a0).bind fun bt472 => (if a0 < 10000000 then (ephemerislaw2_DialLines.j0 k a0 a1 bt468.2.2 bt472.1 bt472.2 true bt468.1 bt468.2.1) else (ephemerislaw2_DialLines.j0 k a0 a1 bt468.2.2 bt472.1 bt472.2 (decide (a0 > 220000000)) bt468.1 bt468.2.1)))) else (some false)) = some r := H
 have A3 := Aside0.mk A30
 clear A30
 by_cases c4 : t467 = true
 ·subst c4
  have H1 : ((dial_Line.f k a0 a1).bind fun bt468 => ((dial_Lines.f k a0).bind fun bt472 => (if a0 < 10000000 then (ephemerislaw2_DialLines.j0 k a0 a1 bt468.2.2 bt472.1 bt472.2 true bt468.1 bt468.2.1) else (ephemerislaw2_DialLines.j0 k a0 a1 bt468.2.2 bt472.1 bt472.2 (decide (a0 > 220000000)) bt468.1 bt468.2.1)))) = some r := by rw [if_pos rfl] at H; exact H
  clear H
  have H := H1
  clear H1
  replace H := Option.bind_eq_some_iff.mp H
  obtain ⟨⟨t468, t469, t470⟩, A50, H⟩ := H
  replace H : ((dial_Lines.f k a0).bind fun bt472 => (if a0 < 10000000 then (ephemerislaw2_DialLines.j0 k a0 a1 t470 bt472.1 bt472.2 true t468 t469) else (ephemerislaw2_DialLines.j0 k a0 a1 t470 bt472.1 bt472.2 (decide (a0 > 220000000)) t468 t469))) = some r := H
  have A5 := Aside0.mk A50
  clear A50
  replace H := Option.bind_eq_some_iff.mp H
  obtain ⟨⟨t472, t473⟩, A60, H⟩ := H
  replace H : (if a0 < 10000000 then (ephemerislaw2_DialLines.j0 k a0 a1 t470 t472 t473 true t468 t469) else (ephemerislaw2_DialLines.j0 k a0 a1 t470 t472 t473 (decide (a0 > 220000000)) t468 t469)) = some r := H
  have A6 := Aside0.mk A60
  clear A60
  have HC7 := Aside0.mk H
  clear H
  go_enter Try.func7, Try.ntmps7
  go_upto_region 5 with (first | ((with_reducible refine gate_callee (f := 37) rfl ?_); refine goesL_ (some 14) rfl rfl Try.func37 (by kernel_rfl) rfl #[] rfl (by (try simp only [List.map_toArray, List.map_cons, List.map_nil]); first | done | rfl | (simp only [List.length_drop, List.length_take]; rfl)) ?_; (with_reducible refine (ephemerislaw2_dialWorks.calls k  true _ A3.out rfl).mono ?_); rintro e w8 ⟨rfl, hb⟩; refine ⟨_, rfl, ?_⟩; replace HB := bs_ HB hb; (try clear hb); (try clear hb2); (try clear hk); (try clear hi)) | ((with_reducible refine gate_callee (f := 38) rfl ?_); refine goesL_ (some 19) rfl rfl Try.func38 (by kernel_rfl) rfl #[.int .i64 a0, .int .i64 a1] rfl (by (try simp only [List.map_toArray, List.map_cons, List.map_nil]); first | done | rfl | (simp only [List.length_drop, List.length_take]; rfl)) ?_; (with_reducible refine (dial_Line.calls k a0 a1 t468 t469 t470 _ A5.out).mono ?_); rintro e w9 ⟨rfl, hb⟩; refine ⟨_, rfl, ?_⟩; replace HB := bs_ HB hb; (try clear hb); (try clear hb2); (try clear hk); (try clear hi)) | ((with_reducible refine gate_dst (N := 5) rfl ?_); (try (refine gate_guard (by rfl) ?_; dsimp only)); refine box_event ?hg (N := 5) ?hd (cs := #[.int .i64 0, .int .i64 0]) (t := 23) ?hr ?_; (case hd => rfl); (case hg => rfl); (case hr => first | (go_simp; done) | (go_simp; rfl)); intro gb471 hg w10 hbox hb; have BK471 := Aside0.mk (hbox); have GW471 := ge_ hg HB; have GE471 := ge_ hg HB; replace HB := bs_ HB hb; clear hb hbox hg; have hcz11_0 : w10.cell? ⟨gb471, 0, none⟩ = some (.int .i64 0) := (blk_cell BK471.out 0).trans rfl; have hcz11_1 : w10.cell? ⟨gb471, 1, none⟩ = some (.int .i64 0) := (blk_cell BK471.out 1).trans rfl; have hfz11_0 := blk_frozen BK471.out 0; have hfz11_1 := blk_frozen BK471.out 1) | ((with_reducible refine gate_callee (f := 39) rfl ?_); refine goesL_ (some 24) rfl rfl Try.func39 (by kernel_rfl) rfl #[.int .i64 a0] rfl (by (try simp only [List.map_toArray, List.map_cons, List.map_nil]); first | done | rfl | (simp only [List.length_drop, List.length_take]; rfl)) ?_; (with_reducible refine (dial_Lines.calls k a0 t472 t473 _ A6.out).mono ?_); rintro e w12 ⟨v474, rfl, ho0, hb⟩; refine ⟨_, rfl, ?_⟩; have n0_ := Aside0.mk (Kd.R_lower (Kd.R_newB ho0 (g := gb471) (o := .cells #[.int .i64 t468, .int .i64 t469] 23 (0, 0)) (by (with_reducible repeat (first | refine blk_drewN ?_ _ | refine blk_drew ?_ | refine blk_alloc ?_ _)); refine blk_put (cs := #[.int .i64 t468, .int .i64 0]) ?_ 1 _ rfl; (with_reducible repeat (first | refine blk_drewN ?_ _ | refine blk_drew ?_ | refine blk_alloc ?_ _)); refine blk_put (cs := #[.int .i64 0, .int .i64 0]) ?_ 0 _ rfl; (with_reducible repeat (first | refine blk_drewN ?_ _ | refine blk_drew ?_ | refine blk_alloc ?_ _)); exact BK471.out)) (below_size (be_ HB).out)); have n1_ := Aside0.mk (blk_below (g := gb471) (o := .cells #[.int .i64 t468, .int .i64 t469] 23 (0, 0)) (by (with_reducible repeat (first | refine blk_drewN ?_ _ | refine blk_drew ?_ | refine blk_alloc ?_ _)); refine blk_put (cs := #[.int .i64 t468, .int .i64 0]) ?_ 1 _ rfl; (with_reducible repeat (first | refine blk_drewN ?_ _ | refine blk_drew ?_ | refine blk_alloc ?_ _)); refine blk_put (cs := #[.int .i64 0, .int .i64 0]) ?_ 0 _ rfl; (with_reducible repeat (first | refine blk_drewN ?_ _ | refine blk_drew ?_ | refine blk_alloc ?_ _)); exact BK471.out) hb); have n2_ := bs_ HB hb; clear BK471; clear HB; have HO475 := n0_; have BK471 := n1_; have HB := n2_; clear n0_ n1_ n2_; (try clear hb); (try clear hb2); (try clear hk); (try clear hi); (try clear ho0)))
  (try simp only [Act.put, List.setIfInBounds_toArray, List.set_cons_zero, List.set_cons_succ])
  go_cut [32] (fun v32 wc => ∃ (kq : Nat) (x32_6 : Bool), v32 = .bool x32_6 ∧ Aside0 (ephemerislaw2_DialLines.j0 kq a0 a1 t470 t472 t473 x32_6 t468 t469 = some r) ∧ Aside0 (kq ≤ k) ∧ Aside0 (Kd.R k23 23 wc w.heap.size (fun k_ => k_ ≠ gb471) v474 t472) ∧ Aside0 (wc.heap[gb471]? = some (.cells #[.int .i64 t468, .int .i64 t469] 23 (0, 0))) ∧ Aside0 (Below w.heap.size w wc))
  case first =>
   have H := HC7.out
   clear HC7
   by_cases c13 : a0 < 10000000
   ·rw [if_pos c13] at H
    have c13b0 : decide (a0 < 10000000) = true := decide_eq_true c13
    clear c13
    (first | rw [c13b0] | (simp only [i64_w, i32_w]; rw [c13b0]) | skip)
    have H' := Aside0.mk H
    clear H
    go_wp2
    go_meet
    case rel => exact ⟨_, (true), (by first | rfl | (simp; done) | (simp [*]; done)), H', ⟨by first | omega | exact Nat.le_refl _⟩, ⟨by (with_reducible repeat (first | apply Kd.R_alloc | apply Kd.R_drewN | apply Kd.R_drew)); exact Kd.R_mono HO475.out (fun _ hk => hk.2)⟩, ⟨kk_ BK471⟩, (be_ HB)⟩
   ·rw [if_neg c13] at H
    have c13b0 : decide (a0 < 10000000) = false := decide_eq_false c13
    clear c13
    (first | rw [c13b0] | (simp only [i64_w, i32_w]; rw [c13b0]) | skip)
    have H' := Aside0.mk H
    clear H
    go_wp2
    go_meet
    case rel => exact ⟨_, (decide (a0 > 220000000)), (by first | rfl | (simp; done) | (simp [*]; done)), H', ⟨by first | omega | exact Nat.le_refl _⟩, ⟨by (with_reducible repeat (first | apply Kd.R_alloc | apply Kd.R_drewN | apply Kd.R_drew)); exact Kd.R_mono HO475.out (fun _ hk => hk.2)⟩, ⟨kk_ BK471⟩, (be_ HB)⟩
  case rest =>
   clear HC7
   try clear c1
   try clear p2
   try clear c3
   try clear c4
   try clear c7
   try clear c13
   try clear c13b0
   try clear hcz11_0
   try clear hcz11_1
   try clear hfz11_0
   try clear hfz11_1
   obtain ⟨kq, x32_6, rfl, HA, HJ6, HO_7, BK471, HB⟩ := hcut
   cases kq with
   | zero => exact absurd HA.out (by simp [ephemerislaw2_DialLines.j0])
   | succ kj6 =>
    have H := HA.out
    clear HA
    simp only [ephemerislaw2_DialLines.j0] at H
    by_cases c14 : x32_6 = true
    ·subst c14
     have H1 : ((ephemerislaw2_none.f t468 t469 t470 3).bind fun t476 => (if t476 = true then (if t473 = 3 then (some ((t472.length : Int) == 0)) else (some false)) else (some false))) = some r := by rw [if_pos rfl] at H; exact H
     clear H
     have H := H1
     clear H1
     replace H := Option.bind_eq_some_iff.mp H
     obtain ⟨t476, A150, H⟩ := H
     replace H : (if t476 = true then (if t473 = 3 then (some ((t472.length : Int) == 0)) else (some false)) else (some false)) = some r := H
     have A15 := Aside0.mk A150
     clear A150
     by_cases c16 : t476 = true
     ·subst c16
      have H1 : (if t473 = 3 then (some ((t472.length : Int) == 0)) else (some false)) = some r := by rw [if_pos rfl] at H; exact H
      clear H
      have H := H1
      clear H1
      by_cases c17 : t473 = 3
      ·rw [if_pos c17] at H
       have c17b0 : (t473 == 3) = true := beq_iff_eq.mpr c17
       have c17b1 : (t473 != 3) = false := bne_eq_false_iff_eq.mpr c17
       clear c17
       obtain rfl := Option.some.inj H
       simp only [Option.some.injEq, Prod.mk.injEq] at H
       obtain ⟨rfl⟩ := H
       have hcz18_0 : wc.cell? ⟨gb471, 0, none⟩ = some (.int .i64 t468) := (blk_cell BK471.out 0).trans rfl
       have hcz18_1 : wc.cell? ⟨gb471, 1, none⟩ = some (.int .i64 t469) := (blk_cell BK471.out 1).trans rfl
       have hfz18_0 := blk_frozen BK471.out 0
       have hfz18_1 := blk_frozen BK471.out 1
       go_wp2_with (first | ((with_reducible refine gate_callee (f := 18) rfl ?_); refine goesL_ (some 35) rfl rfl Try.func18 (by kernel_rfl) rfl #[.agg #[.int .i64 t468, .int .i64 t469], .int .i64 t470, .int .i64 3] rfl (by (try simp only [List.map_toArray, List.map_cons, List.map_nil]); first | done | rfl | (simp only [List.length_drop, List.length_take]; rfl)) ?_; (with_reducible refine (ephemerislaw2_none.calls t468 t469 t470 3 true _ A15.out).mono ?_); rintro e w19 ⟨rfl, hb⟩; refine ⟨_, rfl, ?_⟩; have n0_ := Aside0.mk (Kd.R_below (by (with_reducible repeat (first | apply Kd.R_alloc | apply Kd.R_drewN | apply Kd.R_drew)); exact HO_7.out) hb); have n1_ := kb_ BK471 hb; have n2_ := bs_ HB hb; clear HO_7; clear BK471; clear HB; have HO_7 := n0_; have BK471 := n1_; have HB := n2_; clear n0_ n1_ n2_; (try clear hb); (try clear hb2); (try clear hk); (try clear hi); obtain ⟨Ao20, co20, eo20⟩ := Kd.R_slice HO_7.out; subst eo20))
       go_ret
       exact ⟨by first | rfl | (simp [errW_none, errW_some] <;> rfl) | (simp [*, errW_none, errW_some] <;> rfl), (be_ HB).out⟩
      ·rw [if_neg c17] at H
       have c17b0 : (t473 == 3) = false := beq_eq_false_iff_ne.mpr c17
       have c17b1 : (t473 != 3) = true := bne_iff_ne.mpr c17
       obtain rfl := Option.some.inj H
       exact absurd hT (by decide)
     ·replace c16 := Bool.eq_false_iff.mpr c16
      subst c16
      have H1 : (some false) = some r := by rw [if_neg (show ¬ (false = true) by decide)] at H; exact H
      clear H
      have H := H1
      clear H1
      obtain rfl := Option.some.inj H
      exact absurd hT (by decide)
    ·replace c14 := Bool.eq_false_iff.mpr c14
     subst c14
     have H1 : (if t473 = 0 then (ephemerislaw2_DialLines.j1 kj6 a0 a1 t470 t472 ((t472.length : Int) != 13) t468 t469) else (ephemerislaw2_DialLines.j1 kj6 a0 a1 t470 t472 true t468 t469)) = some r := by rw [if_neg (show ¬ (false = true) by decide)] at H; exact H
     clear H
     have H := H1
     clear H1
     have HC21 := Aside0.mk H
     clear H
     go_upto_region 7 with (fail)
     go_cut [51] (fun v51 wc => ∃ (kq : Nat) (x51_20 : Bool), v51 = .bool x51_20 ∧ Aside0 (ephemerislaw2_DialLines.j1 kq a0 a1 t470 t472 x51_20 t468 t469 = some r) ∧ Aside0 (kq ≤ kj6) ∧ Aside0 (Kd.R k23 23 wc w.heap.size (fun k_ => k_ ≠ gb471) v474 t472) ∧ Aside0 (wc.heap[gb471]? = some (.cells #[.int .i64 t468, .int .i64 t469] 23 (0, 0))) ∧ Aside0 (Below w.heap.size w wc))
     case first =>
      have H := HC21.out
      clear HC21
      by_cases c22 : t473 = 0
      ·rw [if_pos c22] at H
       have c22b0 : (t473 == 0) = true := beq_iff_eq.mpr c22
       have c22b1 : (t473 != 0) = false := bne_eq_false_iff_eq.mpr c22
       clear c22
       (first | rw [c22b0] | (simp only [i64_w, i32_w]; rw [c22b0]) | skip)
       have H' := Aside0.mk H
       clear H
       obtain ⟨Ao23, co23, eo23⟩ := Kd.R_slice HO_7.out
       subst eo23
       go_wp2
       go_meet
       case rel => exact ⟨_, (((t472.length : Int) != 13)), (by first | rfl | (simp; done) | (simp [*]; done)), H', ⟨by have := HJ6.out; first | omega | exact Nat.le_refl _⟩, ⟨by (with_reducible repeat (first | apply Kd.R_alloc | apply Kd.R_drewN | apply Kd.R_drew)); exact HO_7.out⟩, ⟨kk_ BK471⟩, (be_ HB)⟩
      ·rw [if_neg c22] at H
       have c22b0 : (t473 == 0) = false := beq_eq_false_iff_ne.mpr c22
       have c22b1 : (t473 != 0) = true := bne_iff_ne.mpr c22
       (first | rw [c22b0] | (simp only [i64_w, i32_w]; rw [c22b0]) | skip)
       have H' := Aside0.mk H
       clear H
       go_wp2
       go_meet
       case rel => exact ⟨_, (true), (by first | rfl | (simp; done) | (simp [*]; done)), H', ⟨by have := HJ6.out; first | omega | exact Nat.le_refl _⟩, ⟨by (with_reducible repeat (first | apply Kd.R_alloc | apply Kd.R_drewN | apply Kd.R_drew)); exact HO_7.out⟩, ⟨kk_ BK471⟩, (be_ HB)⟩
     case rest =>
      clear HC21
      try clear c1
      try clear c2
      try clear p2
      try clear c3
      try clear c4
      try clear c7
      try clear c13
      try clear c13b0
      try clear c14
      try clear c16
      try clear c17
      try clear c17b0
      try clear c17b1
      try clear c18
      try clear c22
      try clear c22b0
      try clear c22b1
      try clear hcz11_0
      try clear hcz11_1
      try clear hcz18_0
      try clear hcz18_1
      try clear hfz11_0
      try clear hfz11_1
      try clear hfz18_0
      try clear hfz18_1
      try clear p2
      obtain ⟨kq, x51_20, rfl, HA, HJ20, HO_7, BK471, HB⟩ := hcut
      cases kq with
      | zero => exact absurd HA.out (by simp [ephemerislaw2_DialLines.j1])
      | succ kj20 =>
       have H := HA.out
       clear HA
       simp only [ephemerislaw2_DialLines.j1] at H
       by_cases c24 : x51_20 = true
       ·subst c24
        have H1 : (some false) = some r := by rw [if_pos rfl] at H; exact H
        clear H
        have H := H1
        clear H1
        obtain rfl := Option.some.inj H
        exact absurd hT (by decide)
       ·replace c24 := Bool.eq_false_iff.mpr c24
        subst c24
        have H1 : (if a1 < 6 then (ephemerislaw2_DialLines.j2 kj20 a0 a1 t470 t472 true t468 t469) else (ephemerislaw2_DialLines.j2 kj20 a0 a1 t470 t472 (decide (a1 > 18)) t468 t469)) = some r := by rw [if_neg (show ¬ (false = true) by decide)] at H; exact H
        clear H
        have H := H1
        clear H1
        have HC25 := Aside0.mk H
        clear H
        go_upto_region 9 with (fail)
        go_cut [57] (fun v57 wc => ∃ (kq : Nat) (x57_24 : Bool), v57 = .bool x57_24 ∧ Aside0 (ephemerislaw2_DialLines.j2 kq a0 a1 t470 t472 x57_24 t468 t469 = some r) ∧ Aside0 (kq ≤ kj20) ∧ Aside0 (Kd.R k23 23 wc w.heap.size (fun k_ => k_ ≠ gb471) v474 t472) ∧ Aside0 (wc.heap[gb471]? = some (.cells #[.int .i64 t468, .int .i64 t469] 23 (0, 0))) ∧ Aside0 (Below w.heap.size w wc))
        case first =>
         have H := HC25.out
         clear HC25
         by_cases c26 : a1 < 6
         ·rw [if_pos c26] at H
          have c26b0 : decide (a1 < 6) = true := decide_eq_true c26
          clear c26
          (first | rw [c26b0] | (simp only [i64_w, i32_w]; rw [c26b0]) | skip)
          have H' := Aside0.mk H
          clear H
          go_wp2
          go_meet
          case rel => exact ⟨_, (true), (by first | rfl | (simp; done) | (simp [*]; done)), H', ⟨by have := HJ6.out; have := HJ20.out; first | omega | exact Nat.le_refl _⟩, ⟨by (with_reducible repeat (first | apply Kd.R_alloc | apply Kd.R_drewN | apply Kd.R_drew)); exact HO_7.out⟩, ⟨kk_ BK471⟩, (be_ HB)⟩
         ·rw [if_neg c26] at H
          have c26b0 : decide (a1 < 6) = false := decide_eq_false c26
          clear c26
          (first | rw [c26b0] | (simp only [i64_w, i32_w]; rw [c26b0]) | skip)
          have H' := Aside0.mk H
          clear H
          go_wp2
          go_meet
          case rel => exact ⟨_, (decide (a1 > 18)), (by first | rfl | (simp; done) | (simp [*]; done)), H', ⟨by have := HJ6.out; have := HJ20.out; first | omega | exact Nat.le_refl _⟩, ⟨by (with_reducible repeat (first | apply Kd.R_alloc | apply Kd.R_drewN | apply Kd.R_drew)); exact HO_7.out⟩, ⟨kk_ BK471⟩, (be_ HB)⟩
        case rest =>
         clear HC25
         try clear c1
         try clear c2
         try clear p2
         try clear c3
         try clear c4
         try clear c7
         try clear c13
         try clear c13b0
         try clear c14
         try clear c16
         try clear c17
         try clear c17b0
         try clear c17b1
         try clear c18
         try clear c22
         try clear c22b0
         try clear c22b1
         try clear c24
         try clear c26
         try clear c26b0
         try clear hcz11_0
         try clear hcz11_1
         try clear hcz18_0
         try clear hcz18_1
         try clear hfz11_0
         try clear hfz11_1
         try clear hfz18_0
         try clear hfz18_1
         try clear p2
         obtain ⟨kq, x57_24, rfl, HA, HJ24, HO_7, BK471, HB⟩ := hcut
         cases kq with
         | zero => exact absurd HA.out (by simp [ephemerislaw2_DialLines.j2])
         | succ kj24 =>
          have H := HA.out
          clear HA
          simp only [ephemerislaw2_DialLines.j2] at H
          by_cases c27 : x57_24 = true
          ·subst c27
           have H1 : ((ephemerislaw2_none.f t468 t469 t470 1).bind fun t477 => (some t477)) = some r := by rw [if_pos rfl] at H; exact H
           clear H
           have H := H1
           clear H1
           replace H := Option.bind_eq_some_iff.mp H
           obtain ⟨t477, A280, H⟩ := H
           replace H : (some t477) = some r := H
           have A28 := Aside0.mk A280
           clear A280
           obtain rfl := Option.some.inj H
           simp only [Option.some.injEq, Prod.mk.injEq] at H
           obtain ⟨rfl⟩ := H
           have hcz29_0 : wc.cell? ⟨gb471, 0, none⟩ = some (.int .i64 t468) := (blk_cell BK471.out 0).trans rfl
           have hcz29_1 : wc.cell? ⟨gb471, 1, none⟩ = some (.int .i64 t469) := (blk_cell BK471.out 1).trans rfl
           have hfz29_0 := blk_frozen BK471.out 0
           have hfz29_1 := blk_frozen BK471.out 1
           go_wp2_with (first | ((with_reducible refine gate_callee (f := 18) rfl ?_); refine goesL_ (some 60) rfl rfl Try.func18 (by kernel_rfl) rfl #[.agg #[.int .i64 t468, .int .i64 t469], .int .i64 t470, .int .i64 1] rfl (by (try simp only [List.map_toArray, List.map_cons, List.map_nil]); first | done | rfl | (simp only [List.length_drop, List.length_take]; rfl)) ?_; (with_reducible refine (ephemerislaw2_none.calls t468 t469 t470 1 t477 _ A28.out).mono ?_); rintro e w30 ⟨rfl, hb⟩; refine ⟨_, rfl, ?_⟩; have n0_ := Aside0.mk (Kd.R_below (by (with_reducible repeat (first | apply Kd.R_alloc | apply Kd.R_drewN | apply Kd.R_drew)); exact HO_7.out) hb); have n1_ := kb_ BK471 hb; have n2_ := bs_ HB hb; clear HO_7; clear BK471; clear HB; have HO_7 := n0_; have BK471 := n1_; have HB := n2_; clear n0_ n1_ n2_; (try clear hb); (try clear hb2); (try clear hk); (try clear hi)))
           go_ret
           exact ⟨by first | rfl | (simp [errW_none, errW_some] <;> rfl) | (simp [*, errW_none, errW_some] <;> rfl), (be_ HB).out⟩
          ·replace c27 := Bool.eq_false_iff.mpr c27
           subst c27
           have H1 : ((ephemerisref2_SinCos.f kj24 (wrap64 (a0 * 1000000))).bind fun bt478 => ((ephemerisref2_SinCos.f kj24 (wrap64 ((wrap64 (Int.tdiv (wrap64 ((wrap64 (a1 - 12)) * 1000000000)) 24)) * 1000000))).bind fun bt480 => ((ephemerisref2_Mod.f t468 1000000000).bind fun t482 => (if t470 = 0 then (if 0 ≤ (wrap64 (a1 - 6)) then (if (wrap64 (a1 - 6)) < (t472.length : Int) then (if (((rd_T23 t472 (wrap64 (a1 - 6))).f0) == t468 && (((rd_T23 t472 (wrap64 (a1 - 6))).f1) == t469)) = true then ((ephemerislaw2_beyond.f t468 500000000).bind fun t485 => (if t485 = true then (some false) else (if (wrap64 (t469 - t468)) ≤ 50 then ((ephemerisref2_Mul.f bt478.1 bt480.1).bind fun t486 => ((ephemerisref2_InArc.f kj24 t482 (wrap64 ((wrap64 (t482 + t469)) - t468)) t486 bt480.2).bind fun t487 => (some t487))) else (some false)))) else (some false)) else (none)) else (none)) else (some false))))) = some r := by rw [if_neg (show ¬ (false = true) by decide)] at H; exact H
           clear H
           have H := H1
           clear H1
           replace H := Option.bind_eq_some_iff.mp H
           obtain ⟨⟨t478, t479⟩, A310, H⟩ := H
           replace H : ((ephemerisref2_SinCos.f kj24 (wrap64 ((wrap64 (Int.tdiv (wrap64 ((wrap64 (a1 - 12)) * 1000000000)) 24)) * 1000000))).bind fun bt480 => ((ephemerisref2_Mod.f t468 1000000000).bind fun t482 => (if t470 = 0 then (if 0 ≤ (wrap64 (a1 - 6)) then (if (wrap64 (a1 - 6)) < (t472.length : Int) then (if (((rd_T23 t472 (wrap64 (a1 - 6))).f0) == t468 && (((rd_T23 t472 (wrap64 (a1 - 6))).f1) == t469)) = true then ((ephemerislaw2_beyond.f t468 500000000).bind fun t485 => (if t485 = true then (some false) else (if (wrap64 (t469 - t468)) ≤ 50 then ((ephemerisref2_Mul.f t478 bt480.1).bind fun t486 => ((ephemerisref2_InArc.f kj24 t482 (wrap64 ((wrap64 (t482 + t469)) - t468)) t486 bt480.2).bind fun t487 => (some t487))) else (some false)))) else (some false)) else (none)) else (none)) else (some false)))) = some r := H
           have A31 := Aside0.mk A310
           clear A310
           replace H := Option.bind_eq_some_iff.mp H
           obtain ⟨⟨t480, t481⟩, A320, H⟩ := H
           replace H : ((ephemerisref2_Mod.f t468 1000000000).bind fun t482 => (if t470 = 0 then (if 0 ≤ (wrap64 (a1 - 6)) then (if (wrap64 (a1 - 6)) < (t472.length : Int) then (if (((rd_T23 t472 (wrap64 (a1 - 6))).f0) == t468 && (((rd_T23 t472 (wrap64 (a1 - 6))).f1) == t469)) = true then ((ephemerislaw2_beyond.f t468 500000000).bind fun t485 => (if t485 = true then (some false) else (if (wrap64 (t469 - t468)) ≤ 50 then ((ephemerisref2_Mul.f t478 t480).bind fun t486 => ((ephemerisref2_InArc.f kj24 t482 (wrap64 ((wrap64 (t482 + t469)) - t468)) t486 t481).bind fun t487 => (some t487))) else (some false)))) else (some false)) else (none)) else (none)) else (some false))) = some r := H
           have A32 := Aside0.mk A320
           clear A320
           replace H := Option.bind_eq_some_iff.mp H
           obtain ⟨t482, A330, H⟩ := H
           replace H : (if t470 = 0 then (if 0 ≤ (wrap64 (a1 - 6)) then (if (wrap64 (a1 - 6)) < (t472.length : Int) then (if (((rd_T23 t472 (wrap64 (a1 - 6))).f0) == t468 && (((rd_T23 t472 (wrap64 (a1 - 6))).f1) == t469)) = true then ((ephemerislaw2_beyond.f t468 500000000).bind fun t485 => (if t485 = true then (some false) else (if (wrap64 (t469 - t468)) ≤ 50 then ((ephemerisref2_Mul.f t478 t480).bind fun t486 => ((ephemerisref2_InArc.f kj24 t482 (wrap64 ((wrap64 (t482 + t469)) - t468)) t486 t481).bind fun t487 => (some t487))) else (some false)))) else (some false)) else (none)) else (none)) else (some false)) = some r := H
           have A33 := Aside0.mk A330
           clear A330
           by_cases c34 : t470 = 0
           ·rw [if_pos c34] at H
            have c34b0 : (t470 == 0) = true := beq_iff_eq.mpr c34
            have c34b1 : (t470 != 0) = false := bne_eq_false_iff_eq.mpr c34
            clear c34
            obtain ⟨ji35, hji35⟩ : ∃ j_ : Int, (wrap64 (a1 - 6)) = j_ := ⟨_, rfl⟩
            replace H : (if 0 ≤ (ji35) then (if (ji35) < (t472.length : Int) then (if (((rd_T23 t472 (ji35)).f0) == t468 && (((rd_T23 t472 (ji35)).f1) == t469)) = true then ((ephemerislaw2_beyond.f t468 500000000).bind fun t485 => (if t485 = true then (some false) else (if (wrap64 (t469 - t468)) ≤ 50 then ((ephemerisref2_Mul.f t478 t480).bind fun t486 => ((ephemerisref2_InArc.f kj24 t482 (wrap64 ((wrap64 (t482 + t469)) - t468)) t486 t481).bind fun t487 => (some t487))) else (some false)))) else (some false)) else (none)) else (none)) = some r := by first | (rw [hji35] at H; exact H) | (simp only [hji35] at H ⊢; exact H)
            (try rw [hji35] at A31)
            (try rw [hji35] at A32)
            (try rw [hji35] at A33)
            have hji35w : (IntKind.i64.wrap (a1 - 6)) = ji35 := (i64_w _).trans hji35
            by_cases c36 : 0 ≤ (ji35)
            ·rw [if_pos c36] at H
             have c36b0 : decide (0 ≤ (ji35)) = true := decide_eq_true c36
             clear c36
             by_cases c37 : (ji35) < (t472.length : Int)
             ·rw [if_pos c37] at H
              have c37b0 : decide ((ji35) < (t472.length : Int)) = true := decide_eq_true c37
              clear c37
              by_cases c38 : (((rd_T23 t472 (ji35)).f0) == t468 && (((rd_T23 t472 (ji35)).f1) == t469)) = true
              ·rw [if_pos c38] at H
               have c38b0 : (((rd_T23 t472 (ji35)).f0) == t468 && (((rd_T23 t472 (ji35)).f1) == t469)) = true := c38
               (try (have c38b1 : decide (((rd_T23 t472 (ji35)).f0) = t468 && (((rd_T23 t472 (ji35)).f1) == t469)) = true := by simpa using c38))
               (try (have c38b2 : (((rd_T23 t472 (ji35)).f0) == t468 && (((rd_T23 t472 (ji35)).f1) == t469)) = true := by simpa using c38))
               clear c38
               replace H := Option.bind_eq_some_iff.mp H
               obtain ⟨t485, A390, H⟩ := H
               replace H : (if t485 = true then (some false) else (if (wrap64 (t469 - t468)) ≤ 50 then ((ephemerisref2_Mul.f t478 t480).bind fun t486 => ((ephemerisref2_InArc.f kj24 t482 (wrap64 ((wrap64 (t482 + t469)) - t468)) t486 t481).bind fun t487 => (some t487))) else (some false))) = some r := H
               have A39 := Aside0.mk A390
               clear A390
               by_cases c40 : t485 = true
               ·subst c40
                have H1 : (some false) = some r := by rw [if_pos rfl] at H; exact H
                clear H
                have H := H1
                clear H1
                obtain rfl := Option.some.inj H
                exact absurd hT (by decide)
               ·replace c40 := Bool.eq_false_iff.mpr c40
                subst c40
                have H1 : (if (wrap64 (t469 - t468)) ≤ 50 then ((ephemerisref2_Mul.f t478 t480).bind fun t486 => ((ephemerisref2_InArc.f kj24 t482 (wrap64 ((wrap64 (t482 + t469)) - t468)) t486 t481).bind fun t487 => (some t487))) else (some false)) = some r := by rw [if_neg (show ¬ (false = true) by decide)] at H; exact H
                clear H
                have H := H1
                clear H1
                by_cases c41 : (wrap64 (t469 - t468)) ≤ 50
                ·rw [if_pos c41] at H
                 have c41b0 : decide ((wrap64 (t469 - t468)) ≤ 50) = true := decide_eq_true c41
                 clear c41
                 replace H := Option.bind_eq_some_iff.mp H
                 obtain ⟨t486, A420, H⟩ := H
                 replace H : ((ephemerisref2_InArc.f kj24 t482 (wrap64 ((wrap64 (t482 + t469)) - t468)) t486 t481).bind fun t487 => (some t487)) = some r := H
                 have A42 := Aside0.mk A420
                 clear A420
                 replace H := Option.bind_eq_some_iff.mp H
                 obtain ⟨t487, A430, H⟩ := H
                 replace H : (some t487) = some r := H
                 have A43 := Aside0.mk A430
                 clear A430
                 obtain rfl := Option.some.inj H
                 simp only [Option.some.injEq, Prod.mk.injEq] at H
                 obtain ⟨rfl⟩ := H
                 try go_wp2_with (first | ((with_reducible refine gate_callee (f := 40) rfl ?_); refine goesL_ (some 64) rfl rfl Try.func40 (by kernel_rfl) rfl #[.int .i64 (wrap64 (a0 * 1000000))] rfl (by (try simp only [List.map_toArray, List.map_cons, List.map_nil]); first | done | rfl | (simp only [List.length_drop, List.length_take]; rfl)) ?_; (with_reducible refine (ephemerisref2_SinCos.calls kj24 (wrap64 (a0 * 1000000)) t478 t479 _ A31.out).mono ?_); rintro e w' ⟨rfl, ⟨nd, rfl⟩⟩; refine ⟨_, rfl, ?_⟩; (try (rw [drewN_self wc]; generalize hq_ : World.drewN wc _ = wc; have n0_ : Aside0 (Kd.R k23 23 wc w.heap.size (fun k_ => k_ ≠ gb471) v474 t472) := ⟨by rw [← hq_]; exact (by (with_reducible repeat (first | apply Kd.R_alloc | apply Kd.R_drewN | apply Kd.R_drew)); exact HO_7.out)⟩; have n1_ : Aside0 (wc.heap[gb471]? = some (.cells #[.int .i64 t468, .int .i64 t469] 23 (0, 0))) := ⟨by rw [← hq_]; exact (kk_ BK471)⟩; have n2_ : Aside0 (Below w.heap.size w wc) := ⟨by rw [← hq_]; exact (be_ HB).out⟩; clear HO_7 BK471 HB hq_; have HO_7 := n0_; have BK471 := n1_; have HB := n2_; clear n0_ n1_ n2_; have hcy471_0 : wc.cell? ⟨gb471, 0, none⟩ = some (.int .i64 t468) := (blk_cell BK471.out 0).trans rfl; have hfy471_0 := blk_frozen BK471.out 0; have hcy471_1 : wc.cell? ⟨gb471, 1, none⟩ = some (.int .i64 t469) := (blk_cell BK471.out 1).trans rfl; have hfy471_1 := blk_frozen BK471.out 1))) | ((with_reducible refine gate_callee (f := 40) rfl ?_); refine goesL_ (some 73) rfl rfl Try.func40 (by kernel_rfl) rfl #[.int .i64 (wrap64 ((wrap64 (Int.tdiv (wrap64 ((wrap64 (a1 - 12)) * 1000000000)) 24)) * 1000000))] rfl (by (try simp only [List.map_toArray, List.map_cons, List.map_nil]); first | done | rfl | (simp only [List.length_drop, List.length_take]; rfl)) ?_; (with_reducible refine (ephemerisref2_SinCos.calls kj24 (wrap64 ((wrap64 (Int.tdiv (wrap64 ((wrap64 (a1 - 12)) * 1000000000)) 24)) * 1000000)) t480 t481 _ A32.out).mono ?_); rintro e w' ⟨rfl, ⟨nd, rfl⟩⟩; refine ⟨_, rfl, ?_⟩; (try (rw [drewN_self wc]; generalize hq_ : World.drewN wc _ = wc; have n0_ : Aside0 (Kd.R k23 23 wc w.heap.size (fun k_ => k_ ≠ gb471) v474 t472) := ⟨by rw [← hq_]; exact (by (with_reducible repeat (first | apply Kd.R_alloc | apply Kd.R_drewN | apply Kd.R_drew)); exact HO_7.out)⟩; have n1_ : Aside0 (wc.heap[gb471]? = some (.cells #[.int .i64 t468, .int .i64 t469] 23 (0, 0))) := ⟨by rw [← hq_]; exact (kk_ BK471)⟩; have n2_ : Aside0 (Below w.heap.size w wc) := ⟨by rw [← hq_]; exact (be_ HB).out⟩; clear HO_7 BK471 HB hq_; have HO_7 := n0_; have BK471 := n1_; have HB := n2_; clear n0_ n1_ n2_; have hcy471_0 : wc.cell? ⟨gb471, 0, none⟩ = some (.int .i64 t468) := (blk_cell BK471.out 0).trans rfl; have hfy471_0 := blk_frozen BK471.out 0; have hcy471_1 : wc.cell? ⟨gb471, 1, none⟩ = some (.int .i64 t469) := (blk_cell BK471.out 1).trans rfl; have hfy471_1 := blk_frozen BK471.out 1)); have hcz44_0 : wc.cell? ⟨gb471, 0, none⟩ = some (.int .i64 t468) := (blk_cell BK471.out 0).trans rfl; have hcz44_1 : wc.cell? ⟨gb471, 1, none⟩ = some (.int .i64 t469) := (blk_cell BK471.out 1).trans rfl; have hfz44_0 := blk_frozen BK471.out 0; have hfz44_1 := blk_frozen BK471.out 1) | ((with_reducible refine gate_callee (f := 20) rfl ?_); refine goesL_ (some 78) rfl rfl Try.func20 (by kernel_rfl) rfl #[.int .i64 t468, .int .i64 1000000000] rfl (by (try simp only [List.map_toArray, List.map_cons, List.map_nil]); first | done | rfl | (simp only [List.length_drop, List.length_take]; rfl)) ?_; (with_reducible refine (ephemerisref2_Mod.calls t468 1000000000 t482 _ A33.out).mono ?_); rintro e w' ⟨rfl, ⟨nd, rfl⟩⟩; refine ⟨_, rfl, ?_⟩; (try (rw [drewN_self wc]; generalize hq_ : World.drewN wc _ = wc; have n0_ : Aside0 (Kd.R k23 23 wc w.heap.size (fun k_ => k_ ≠ gb471) v474 t472) := ⟨by rw [← hq_]; exact (by (with_reducible repeat (first | apply Kd.R_alloc | apply Kd.R_drewN | apply Kd.R_drew)); exact HO_7.out)⟩; have n1_ : Aside0 (wc.heap[gb471]? = some (.cells #[.int .i64 t468, .int .i64 t469] 23 (0, 0))) := ⟨by rw [← hq_]; exact (kk_ BK471)⟩; have n2_ : Aside0 (Below w.heap.size w wc) := ⟨by rw [← hq_]; exact (be_ HB).out⟩; clear HO_7 BK471 HB hq_; have HO_7 := n0_; have BK471 := n1_; have HB := n2_; clear n0_ n1_ n2_; have hcy471_0 : wc.cell? ⟨gb471, 0, none⟩ = some (.int .i64 t468) := (blk_cell BK471.out 0).trans rfl; have hfy471_0 := blk_frozen BK471.out 0; have hcy471_1 : wc.cell? ⟨gb471, 1, none⟩ = some (.int .i64 t469) := (blk_cell BK471.out 1).trans rfl; have hfy471_1 := blk_frozen BK471.out 1))) | ((with_reducible refine gate_dst (N := 13) rfl ?_); (try (refine gate_guard (by rfl) ?_; dsimp only)); refine box_event ?hg (N := 13) ?hd (cs := #[.int .i64 0, .int .i64 0]) (t := 23) ?hr ?_; (case hd => rfl); (case hg => rfl); (case hr => first | (go_simp; done) | (go_simp; rfl)); intro gb483 hg w45 hbox hb; have n0_ := Aside0.mk (Kd.R_below (Kd.R_elderB (by (with_reducible repeat (first | apply Kd.R_alloc | apply Kd.R_drewN | apply Kd.R_drew)); exact HO_7.out) gb483 (Nat.le_of_eq hg.symm)) hb); have n1_ := kb_ BK471 hb; have n2_ := bs_ HB hb; have n3_ := Aside0.mk (hbox); have n4_ := ge_ hg HB; have n5_ := ge_ hg HB; have n6_ := nl_ hg BK471; have n7_ := ng_ hg BK471; clear HO_7; clear BK471; clear HB; have HO_7 := n0_; have BK471 := n1_; have HB := n2_; have BK483 := n3_; have GW483 := n4_; have GE483 := n5_; have NB471_483 := n6_; have NB483_471 := n7_; clear n0_ n1_ n2_ n3_ n4_ n5_ n6_ n7_; clear hb hbox hg; have hnb46 := NB483_471.out; have hnc46 := NB471_483.out; have hcz47_0 : w45.cell? ⟨gb483, 0, none⟩ = some (.int .i64 0) := (blk_cell BK483.out 0).trans rfl; have hcz47_1 : w45.cell? ⟨gb483, 1, none⟩ = some (.int .i64 0) := (blk_cell BK483.out 1).trans rfl; have hfz47_0 := blk_frozen BK483.out 0; have hfz47_1 := blk_frozen BK483.out 1; have hcz48_0 : w45.cell? ⟨gb471, 0, none⟩ = some (.int .i64 t468) := (blk_cell BK471.out 0).trans rfl; have hcz48_1 : w45.cell? ⟨gb471, 1, none⟩ = some (.int .i64 t469) := (blk_cell BK471.out 1).trans rfl; have hfz48_0 := blk_frozen BK471.out 0; have hfz48_1 := blk_frozen BK471.out 1))
                 have n0_ : Aside0 (Kd.R k23 23 (((w45.setCell ⟨gb483, 0, none⟩ (.int .i64 t482)).setCell ⟨gb483, 1, none⟩ (.int .i64 0)).setCell ⟨gb483, 1, none⟩ (.int .i64 (wrap64 ((wrap64 (t482 + t469)) - t468)))) w.heap.size (fun k_ => k_ ≠ gb471 ∧ k_ ≠ gb483) v474 t472) := ⟨by (with_reducible repeat (first | apply Kd.R_alloc | apply Kd.R_drewN | apply Kd.R_drew)); exact Kd.R_mono (Kd.R_far (p := ⟨gb483, 1, none⟩) (Kd.R_far (p := ⟨gb483, 1, none⟩) (Kd.R_far (p := ⟨gb483, 0, none⟩) (Kd.R_mono HO_7.out (fun k_ hk => (⟨hk, hk.2⟩ : _ ∧ k_ ≠ gb483))) (fun _ hk => hk.2) (.int .i64 t482)) (fun _ hk => hk.2) (.int .i64 0)) (fun _ hk => hk.2) (.int .i64 (wrap64 ((wrap64 (t482 + t469)) - t468)))) (fun _ hk => ⟨hk.1.1, hk.1.2⟩)⟩
                 have n1_ : Aside0 ((((w45.setCell ⟨gb483, 0, none⟩ (.int .i64 t482)).setCell ⟨gb483, 1, none⟩ (.int .i64 0)).setCell ⟨gb483, 1, none⟩ (.int .i64 (wrap64 ((wrap64 (t482 + t469)) - t468)))).heap[gb471]? = some (.cells #[.int .i64 t468, .int .i64 t469] 23 (0, 0))) := ⟨kk_ BK471⟩
                 have n2_ : Aside0 ((((w45.setCell ⟨gb483, 0, none⟩ (.int .i64 t482)).setCell ⟨gb483, 1, none⟩ (.int .i64 0)).setCell ⟨gb483, 1, none⟩ (.int .i64 (wrap64 ((wrap64 (t482 + t469)) - t468)))).heap[gb483]? = some (.cells #[.int .i64 t482, .int .i64 (wrap64 ((wrap64 (t482 + t469)) - t468))] 23 (0, 0))) := ⟨by (with_reducible repeat (first | refine blk_drewN ?_ _ | refine blk_drew ?_ | refine blk_alloc ?_ _)); refine blk_put (cs := #[.int .i64 t482, .int .i64 0]) ?_ 1 _ rfl; (with_reducible repeat (first | refine blk_drewN ?_ _ | refine blk_drew ?_ | refine blk_alloc ?_ _)); refine blk_put (cs := #[.int .i64 t482, .int .i64 0]) ?_ 1 _ rfl; (with_reducible repeat (first | refine blk_drewN ?_ _ | refine blk_drew ?_ | refine blk_alloc ?_ _)); refine blk_put (cs := #[.int .i64 0, .int .i64 0]) ?_ 0 _ rfl; (with_reducible repeat (first | refine blk_drewN ?_ _ | refine blk_drew ?_ | refine blk_alloc ?_ _)); exact BK483.out⟩
                 have n3_ : Aside0 (Below w.heap.size w (((w45.setCell ⟨gb483, 0, none⟩ (.int .i64 t482)).setCell ⟨gb483, 1, none⟩ (.int .i64 0)).setCell ⟨gb483, 1, none⟩ (.int .i64 (wrap64 ((wrap64 (t482 + t469)) - t468))))) := (be_ HB)
                 (try clear HO_7)
                 (try clear BK471)
                 (try clear BK483)
                 (try clear HB)
                 generalize (((w45.setCell ⟨gb483, 0, none⟩ (.int .i64 t482)).setCell ⟨gb483, 1, none⟩ (.int .i64 0)).setCell ⟨gb483, 1, none⟩ (.int .i64 (wrap64 ((wrap64 (t482 + t469)) - t468)))) = w49 at n0_ n1_ n2_ n3_ ⊢
                 have HO_7 := n0_
                 have BK471 := n1_
                 have BK483 := n2_
                 have HB := n3_
                 clear n0_ n1_ n2_ n3_
                 replace HO_7 := Aside0.mk (Kd.R_drew HO_7.out)
                 replace BK471 := Aside0.mk (blk_drew BK471.out)
                 replace BK483 := Aside0.mk (blk_drew BK483.out)
                 replace HB := Aside0.mk (below_drew1 HB.out)
                 obtain ⟨Ao51, co51, eo51⟩ := Kd.R_slice HO_7.out
                 (first | subst eo51 | (injection eo51 with f1_ f2_ f3_; have f4_ := f1_.symm; have f5_ := f3_.symm; clear f1_ f2_ f3_; subst f4_; subst f5_))
                 have p484 : 0 ≤ ((ji35) : Int) := of_decide_eq_true (by first | (with_reducible assumption) | assumption)
                 have q484 : (ji35) < (t472.length : Int) := of_decide_eq_true (by first | (with_reducible assumption) | assumption)
                 obtain ⟨ad484, e484, hx484_0, hx484_1⟩ := at_T23 (Kd.R_reads' HO_7.out).2.2 (ji35) p484 q484
                 cases e484
                 replace p484 := eq_true p484
                 replace q484 := eq_true q484
                 refine start_ (n := 34) (S := fun w' => w'.cell? ⟨gb471, 0, none⟩ = some (.int .i64 t468) ∧ w'.cell? ⟨gb471, 1, none⟩ = some (.int .i64 t469) ∧ w'.cell? ⟨gb483, 0, none⟩ = some (.int .i64 t482) ∧ w'.cell? ⟨gb483, 1, none⟩ = some (.int .i64 (wrap64 ((wrap64 (t482 + t469)) - t468))) ∧ w'.cell? (ad484.add (((ji35)).toNat * 2)) = some (.int .i64 ((rd_T23 t472 (ji35)).f0)) ∧ w'.cell? ⟨(ad484.add (((ji35)).toNat * 2)).block, (ad484.add (((ji35)).toNat * 2)).off + 1, none⟩ = some (.int .i64 ((rd_T23 t472 (ji35)).f1))) (ds := []) #[false, false, false, false, false, false, false, false, false, false, false, false, false, false, false, false, false, false, false, false, false, false, false, false, false, false, false, false, false, false, false, false, false, false] (by kernel_rfl) rfl rfl ⟨(blk_cell BK471.out 0).trans rfl, (blk_cell BK471.out 1).trans rfl, (blk_cell BK483.out 0).trans rfl, (blk_cell BK483.out 1).trans rfl, hx484_0, hx484_1⟩ (fun hHeld => ?_); refine with_tabW ephemerislaw2_DialLines.tab15 ephemerislaw2_DialLines.bits15 (fun HT_ HW_ => ?_)
                 generalize w49.drew = w50 at HO_7 BK471 BK483 HB hx484_0 hx484_1 hHeld ⊢
                 refine pure_ (i := 0) (N := some 89) (v := ?_) (a' := ?_) #[true, false, false, false, false, false, false, false, false, false, false, false, false, false, false, false, false, false, false, false, false, false, false, false, false, false, false, false, false, false, false, false, false, false] rfl rfl (any_of HT_.out (by kernel_rfl)) (fun _ _ _ h => h) (Or.inl ⟨by rfl, ?_⟩) ?_ ?_
                 rotate_left
                 ·intro w'
                  go_simp
                  with_reducible rfl
                 rotate_left
                 ·simp only [Act.put, List.setIfInBounds_toArray, List.set_cons_zero, List.set_cons_succ, i64_w, i32_w]
                  rfl
                 refine pure_ (i := 1) (N := some 90) (v := ?_) (a' := ?_) #[true, true, false, false, false, false, false, false, false, false, false, false, false, false, false, false, false, false, false, false, false, false, false, false, false, false, false, false, false, false, false, false, false, false] rfl rfl (any_of HT_.out (by kernel_rfl)) (fun _ _ _ h => h) (Or.inl ⟨by rfl, ?_⟩) ?_ ?_
                 rotate_left
                 ·intro w'
                  go_simp
                  with_reducible rfl
                 rotate_left
                 ·simp only [Act.put, List.setIfInBounds_toArray, List.set_cons_zero, List.set_cons_succ, i64_w, i32_w]
                  rfl
                 refine pure_ (i := 2) (N := some 91) (v := ?_) (a' := ?_) #[true, true, true, false, false, false, false, false, false, false, false, false, false, false, false, false, false, false, false, false, false, false, false, false, false, false, false, false, false, false, false, false, false, false] rfl rfl (any_of HT_.out (by kernel_rfl)) (fun _ _ _ h => h) (Or.inl ⟨by rfl, ?_⟩) ?_ ?_
                 rotate_left
                 ·intro w'
                  go_simp
                  with_reducible rfl
                 rotate_left
                 ·simp only [Act.put, List.setIfInBounds_toArray, List.set_cons_zero, List.set_cons_succ, i64_w, i32_w]
                  rfl
                 refine pure_ (i := 3) (N := some 92) (v := ?_) (a' := ?_) #[true, true, true, true, false, false, false, false, false, false, false, false, false, false, false, false, false, false, false, false, false, false, false, false, false, false, false, false, false, false, false, false, false, false] rfl rfl (any_of HT_.out (by kernel_rfl)) (fun _ _ _ h => h) (Or.inl ⟨by rfl, ?_⟩) ?_ ?_
                 rotate_left
                 ·intro w'
                  go_simp
                  with_reducible rfl
                 rotate_left
                 ·simp only [Act.put, List.setIfInBounds_toArray, List.set_cons_zero, List.set_cons_succ, i64_w, i32_w]
                  rfl
                 refine pure_ (i := 4) (N := some 93) (v := ?_) (a' := ?_) #[true, true, true, true, true, false, false, false, false, false, false, false, false, false, false, false, false, false, false, false, false, false, false, false, false, false, false, false, false, false, false, false, false, false] rfl rfl (any_of HT_.out (by kernel_rfl)) (fun _ _ _ h => h) (Or.inl ⟨by rfl, ?_⟩) ?_ ?_
                 rotate_left
                 ·intro w'
                  go_simp
                  with_reducible rfl
                 rotate_left
                 ·simp only [Act.put, List.setIfInBounds_toArray, List.set_cons_zero, List.set_cons_succ, i64_w, i32_w]
                  rfl
                 refine pure_ (i := 5) (N := some 94) (v := ?_) (a' := ?_) #[true, true, true, true, true, true, false, false, false, false, false, false, false, false, false, false, false, false, false, false, false, false, false, false, false, false, false, false, false, false, false, false, false, false] rfl rfl (any_of HT_.out (by kernel_rfl)) (fun _ _ _ h => h) (Or.inl ⟨by rfl, ?_⟩) ?_ ?_
                 rotate_left
                 ·intro w'
                  go_simp
                  with_reducible rfl
                 rotate_left
                 ·simp only [Act.put, List.setIfInBounds_toArray, List.set_cons_zero, List.set_cons_succ, i64_w, i32_w]
                  rfl
                 refine pure_ (i := 6) (N := some 95) (v := ?_) (a' := ?_) #[true, true, true, true, true, true, true, false, false, false, false, false, false, false, false, false, false, false, false, false, false, false, false, false, false, false, false, false, false, false, false, false, false, false] rfl rfl (any_of HT_.out (by kernel_rfl)) (fun _ _ _ h => h) (Or.inl ⟨by rfl, ?_⟩) ?_ ?_
                 rotate_left
                 ·intro w'
                  go_simp
                  with_reducible rfl
                 rotate_left
                 ·simp only [Act.put, List.setIfInBounds_toArray, List.set_cons_zero, List.set_cons_succ, i64_w, i32_w]
                  rfl
                 refine take_ (i := 7) (N := some 96) (v := ?_) (a' := ?_) #[true, true, true, true, true, true, true, true, false, false, false, false, false, false, false, false, false, false, false, false, false, false, false, false, false, false, false, false, false, false, false, false, false, false] rfl rfl (take_ofW HT_.out HW_.out (by kernel_rfl)) (fun _ _ _ h => h) (Or.inl ⟨by rfl, ?_⟩) hHeld ?_ ?_
                 rotate_left
                 ·rintro w' ⟨s0, s1, s2, s3, s4, s5⟩
                  go_simp
                  with_reducible rfl
                 rotate_left
                 ·simp only [Act.put, List.setIfInBounds_toArray, List.set_cons_zero, List.set_cons_succ, i64_w, i32_w]
                  rfl
                 refine take_ (i := 8) (N := some 97) (v := ?_) (a' := ?_) #[true, true, true, true, true, true, true, true, true, false, false, false, false, false, false, false, false, false, false, false, false, false, false, false, false, false, false, false, false, false, false, false, false, false] rfl rfl (take_ofW HT_.out HW_.out (by kernel_rfl)) (fun _ _ _ h => h) (Or.inl ⟨by rfl, ?_⟩) hHeld ?_ ?_
                 rotate_left
                 ·rintro w' ⟨s0, s1, s2, s3, s4, s5⟩
                  go_simp
                  with_reducible rfl
                 rotate_left
                 ·simp only [Act.put, List.setIfInBounds_toArray, List.set_cons_zero, List.set_cons_succ, i64_w, i32_w]
                  rfl
                 refine pure_ (i := 9) (N := some 98) (v := ?_) (a' := ?_) #[true, true, true, true, true, true, true, true, true, true, false, false, false, false, false, false, false, false, false, false, false, false, false, false, false, false, false, false, false, false, false, false, false, false] rfl rfl (any_of HT_.out (by kernel_rfl)) (fun _ _ _ h => h) (Or.inl ⟨by rfl, ?_⟩) ?_ ?_
                 rotate_left
                 ·intro w'
                  go_simp
                  with_reducible rfl
                 rotate_left
                 ·simp only [Act.put, List.setIfInBounds_toArray, List.set_cons_zero, List.set_cons_succ, i64_w, i32_w]
                  rfl
                 refine pure_ (i := 10) (N := some 99) (v := ?_) (a' := ?_) #[true, true, true, true, true, true, true, true, true, true, true, false, false, false, false, false, false, false, false, false, false, false, false, false, false, false, false, false, false, false, false, false, false, false] rfl rfl (any_of HT_.out (by kernel_rfl)) (fun _ _ _ h => h) (Or.inl ⟨by rfl, ?_⟩) ?_ ?_
                 rotate_left
                 ·intro w'
                  go_simp
                  with_reducible rfl
                 rotate_left
                 ·simp only [Act.put, List.setIfInBounds_toArray, List.set_cons_zero, List.set_cons_succ, i64_w, i32_w]
                  rfl
                 refine pure_ (i := 11) (N := some 100) (v := ?_) (a' := ?_) #[true, true, true, true, true, true, true, true, true, true, true, true, false, false, false, false, false, false, false, false, false, false, false, false, false, false, false, false, false, false, false, false, false, false] rfl rfl (any_of HT_.out (by kernel_rfl)) (fun _ _ _ h => h) (Or.inl ⟨by rfl, ?_⟩) ?_ ?_
                 rotate_left
                 ·intro w'
                  go_simp
                  with_reducible rfl
                 rotate_left
                 ·simp only [Act.put, List.setIfInBounds_toArray, List.set_cons_zero, List.set_cons_succ, i64_w, i32_w]
                  rfl
                 refine pure_ (i := 12) (N := some 101) (v := ?_) (a' := ?_) #[true, true, true, true, true, true, true, true, true, true, true, true, true, false, false, false, false, false, false, false, false, false, false, false, false, false, false, false, false, false, false, false, false, false] rfl rfl (any_of HT_.out (by kernel_rfl)) (fun _ _ _ h => h) (Or.inl ⟨by rfl, ?_⟩) ?_ ?_
                 rotate_left
                 ·intro w'
                  go_simp
                  with_reducible rfl
                 rotate_left
                 ·simp only [Act.put, List.setIfInBounds_toArray, List.set_cons_zero, List.set_cons_succ, i64_w, i32_w]
                  rfl
                 refine take_ (i := 13) (N := some 102) (v := ?_) (a' := ?_) #[true, true, true, true, true, true, true, true, true, true, true, true, true, true, false, false, false, false, false, false, false, false, false, false, false, false, false, false, false, false, false, false, false, false] rfl rfl (take_ofW HT_.out HW_.out (by kernel_rfl)) (fun _ _ _ h => h) (Or.inl ⟨by rfl, ?_⟩) hHeld ?_ ?_
                 rotate_left
                 ·rintro w' ⟨s0, s1, s2, s3, s4, s5⟩
                  go_simp
                  with_reducible rfl
                 rotate_left
                 ·simp only [Act.put, List.setIfInBounds_toArray, List.set_cons_zero, List.set_cons_succ, i64_w, i32_w]
                  rfl
                 refine one_ (i := 14) (N := some 103) #[true, true, true, true, true, true, true, true, true, true, true, true, true, true, true, false, false, false, false, false, false, false, false, false, false, false, false, false, false, false, false, false, false, false] rfl rfl (one_of HT_.out (by kernel_rfl)) (by decide) (fun K hK => ?_)
                 refine goes_ Try.func41 (by kernel_rfl) rfl #[.int .i64 t468, .int .i64 500000000] (by rfl) rfl rfl (by (try simp only [List.map_toArray, List.map_cons, List.map_nil]); first | done | rfl | (simp only [List.length_drop, List.length_take]; rfl)) ?_
                 with_reducible refine (ephemerislaw2_beyond.calls t468 500000000 false _ A39.out).mono ?_
                 rintro e w' ⟨rfl, ⟨nd, rfl⟩⟩
                 refine ⟨_, rfl, ?_⟩
                 refine hK.out _ _ ⟨(blk_cell BK471.out 0).trans rfl, (blk_cell BK471.out 1).trans rfl, (blk_cell BK483.out 0).trans rfl, (blk_cell BK483.out 1).trans rfl, hHeld.2.2.2.2.1, hHeld.2.2.2.2.2⟩ (fun hHeld => ?_)
                 clear hK K
                 refine norm_ (a' := ?_) ?_ ?_
                 rotate_left
                 ·show Act.put _ (some 103) _ = _
                  simp only [Act.put, List.setIfInBounds_toArray, List.set_cons_zero, List.set_cons_succ, i64_w, i32_w]
                  rfl
                 refine pure_ (i := 15) (N := some 104) (v := ?_) (a' := ?_) #[true, true, true, true, true, true, true, true, true, true, true, true, true, true, true, true, false, false, false, false, false, false, false, false, false, false, false, false, false, false, false, false, false, false] rfl rfl (any_of HT_.out (by kernel_rfl)) (fun _ _ _ h => h) (Or.inl ⟨by rfl, ?_⟩) ?_ ?_
                 rotate_left
                 ·intro w'
                  go_simp
                  with_reducible rfl
                 rotate_left
                 ·simp only [Act.put, List.setIfInBounds_toArray, List.set_cons_zero, List.set_cons_succ, i64_w, i32_w]
                  rfl
                 refine pure_ (i := 16) (N := some 105) (v := ?_) (a' := ?_) #[true, true, true, true, true, true, true, true, true, true, true, true, true, true, true, true, true, false, false, false, false, false, false, false, false, false, false, false, false, false, false, false, false, false] rfl rfl (any_of HT_.out (by kernel_rfl)) (fun _ _ _ h => h) (Or.inl ⟨by rfl, ?_⟩) ?_ ?_
                 rotate_left
                 ·intro w'
                  go_simp
                  with_reducible rfl
                 rotate_left
                 ·simp only [Act.put, List.setIfInBounds_toArray, List.set_cons_zero, List.set_cons_succ, i64_w, i32_w]
                  rfl
                 refine pure_ (i := 17) (N := some 106) (v := ?_) (a' := ?_) #[true, true, true, true, true, true, true, true, true, true, true, true, true, true, true, true, true, true, false, false, false, false, false, false, false, false, false, false, false, false, false, false, false, false] rfl rfl (any_of HT_.out (by kernel_rfl)) (fun _ _ _ h => h) (Or.inl ⟨by rfl, ?_⟩) ?_ ?_
                 rotate_left
                 ·intro w'
                  go_simp
                  with_reducible rfl
                 rotate_left
                 ·simp only [Act.put, List.setIfInBounds_toArray, List.set_cons_zero, List.set_cons_succ, i64_w, i32_w]
                  rfl
                 refine pure_ (i := 18) (N := some 107) (v := ?_) (a' := ?_) #[true, true, true, true, true, true, true, true, true, true, true, true, true, true, true, true, true, true, true, false, false, false, false, false, false, false, false, false, false, false, false, false, false, false] rfl rfl (any_of HT_.out (by kernel_rfl)) (fun _ _ _ h => h) (Or.inl ⟨by rfl, ?_⟩) ?_ ?_
                 rotate_left
                 ·intro w'
                  go_simp
                  with_reducible rfl
                 rotate_left
                 ·simp only [Act.put, List.setIfInBounds_toArray, List.set_cons_zero, List.set_cons_succ, i64_w, i32_w]
                  rfl
                 refine pure_ (i := 20) (N := some 109) (v := ?_) (a' := ?_) #[true, true, true, true, true, true, true, true, true, true, true, true, true, true, true, true, true, true, true, false, true, false, false, false, false, false, false, false, false, false, false, false, false, false] rfl rfl (any_of HT_.out (by kernel_rfl)) (fun _ _ _ h => h) (Or.inl ⟨by rfl, ?_⟩) ?_ ?_
                 rotate_left
                 ·intro w'
                  go_simp
                  with_reducible rfl
                 rotate_left
                 ·simp only [Act.put, List.setIfInBounds_toArray, List.set_cons_zero, List.set_cons_succ, i64_w, i32_w]
                  rfl
                 refine take_ (i := 19) (N := some 108) (v := ?_) (a' := ?_) #[true, true, true, true, true, true, true, true, true, true, true, true, true, true, true, true, true, true, true, true, true, false, false, false, false, false, false, false, false, false, false, false, false, false] rfl rfl (take_ofW HT_.out HW_.out (by kernel_rfl)) (fun _ _ _ h => h) (Or.inl ⟨by rfl, ?_⟩) hHeld ?_ ?_
                 rotate_left
                 ·rintro w' ⟨s0, s1, s2, s3, s4, s5⟩
                  go_simp
                  with_reducible rfl
                 rotate_left
                 ·simp only [Act.put, List.setIfInBounds_toArray, List.set_cons_zero, List.set_cons_succ, i64_w, i32_w]
                  rfl
                 refine take_ (i := 21) (N := some 110) (v := ?_) (a' := ?_) #[true, true, true, true, true, true, true, true, true, true, true, true, true, true, true, true, true, true, true, true, true, true, false, false, false, false, false, false, false, false, false, false, false, false] rfl rfl (take_ofW HT_.out HW_.out (by kernel_rfl)) (fun _ _ _ h => h) (Or.inl ⟨by rfl, ?_⟩) hHeld ?_ ?_
                 rotate_left
                 ·rintro w' ⟨s0, s1, s2, s3, s4, s5⟩
                  go_simp
                  with_reducible rfl
                 rotate_left
                 ·simp only [Act.put, List.setIfInBounds_toArray, List.set_cons_zero, List.set_cons_succ, i64_w, i32_w]
                  rfl
                 refine pure_ (i := 22) (N := some 111) (v := ?_) (a' := ?_) #[true, true, true, true, true, true, true, true, true, true, true, true, true, true, true, true, true, true, true, true, true, true, true, false, false, false, false, false, false, false, false, false, false, false] rfl rfl (any_of HT_.out (by kernel_rfl)) (fun _ _ _ h => h) (Or.inl ⟨by rfl, ?_⟩) ?_ ?_
                 rotate_left
                 ·intro w'
                  go_simp
                  with_reducible rfl
                 rotate_left
                 ·simp only [Act.put, List.setIfInBounds_toArray, List.set_cons_zero, List.set_cons_succ, i64_w, i32_w]
                  rfl
                 refine pure_ (i := 23) (N := some 112) (v := ?_) (a' := ?_) #[true, true, true, true, true, true, true, true, true, true, true, true, true, true, true, true, true, true, true, true, true, true, true, true, false, false, false, false, false, false, false, false, false, false] rfl rfl (any_of HT_.out (by kernel_rfl)) (fun _ _ _ h => h) (Or.inl ⟨by rfl, ?_⟩) ?_ ?_
                 rotate_left
                 ·intro w'
                  go_simp
                  with_reducible rfl
                 rotate_left
                 ·simp only [Act.put, List.setIfInBounds_toArray, List.set_cons_zero, List.set_cons_succ, i64_w, i32_w]
                  rfl
                 refine pure_ (i := 24) (N := some 113) (v := ?_) (a' := ?_) #[true, true, true, true, true, true, true, true, true, true, true, true, true, true, true, true, true, true, true, true, true, true, true, true, true, false, false, false, false, false, false, false, false, false] rfl rfl (any_of HT_.out (by kernel_rfl)) (fun _ _ _ h => h) (Or.inl ⟨by rfl, ?_⟩) ?_ ?_
                 rotate_left
                 ·intro w'
                  go_simp
                  with_reducible rfl
                 rotate_left
                 ·simp only [Act.put, List.setIfInBounds_toArray, List.set_cons_zero, List.set_cons_succ, i64_w, i32_w]
                  rfl
                 refine pure_ (i := 25) (N := some 114) (v := ?_) (a' := ?_) #[true, true, true, true, true, true, true, true, true, true, true, true, true, true, true, true, true, true, true, true, true, true, true, true, true, true, false, false, false, false, false, false, false, false] rfl rfl (any_of HT_.out (by kernel_rfl)) (fun _ _ _ h => h) (Or.inl ⟨by rfl, ?_⟩) ?_ ?_
                 rotate_left
                 ·intro w'
                  go_simp
                  with_reducible rfl
                 rotate_left
                 ·simp only [Act.put, List.setIfInBounds_toArray, List.set_cons_zero, List.set_cons_succ, i64_w, i32_w]
                  rfl
                 refine pure_ (i := 27) (N := some 116) (v := ?_) (a' := ?_) #[true, true, true, true, true, true, true, true, true, true, true, true, true, true, true, true, true, true, true, true, true, true, true, true, true, true, false, true, false, false, false, false, false, false] rfl rfl (any_of HT_.out (by kernel_rfl)) (fun _ _ _ h => h) (Or.inl ⟨by rfl, ?_⟩) ?_ ?_
                 rotate_left
                 ·intro w'
                  go_simp
                  with_reducible rfl
                 rotate_left
                 ·simp only [Act.put, List.setIfInBounds_toArray, List.set_cons_zero, List.set_cons_succ, i64_w, i32_w]
                  rfl
                 refine pure_ (i := 28) (N := some 117) (v := ?_) (a' := ?_) #[true, true, true, true, true, true, true, true, true, true, true, true, true, true, true, true, true, true, true, true, true, true, true, true, true, true, false, true, true, false, false, false, false, false] rfl rfl (any_of HT_.out (by kernel_rfl)) (fun _ _ _ h => h) (Or.inl ⟨by rfl, ?_⟩) ?_ ?_
                 rotate_left
                 ·intro w'
                  go_simp
                  with_reducible rfl
                 rotate_left
                 ·simp only [Act.put, List.setIfInBounds_toArray, List.set_cons_zero, List.set_cons_succ, i64_w, i32_w]
                  rfl
                 refine pure_ (i := 30) (N := some 119) (v := ?_) (a' := ?_) #[true, true, true, true, true, true, true, true, true, true, true, true, true, true, true, true, true, true, true, true, true, true, true, true, true, true, false, true, true, false, true, false, false, false] rfl rfl (any_of HT_.out (by kernel_rfl)) (fun _ _ _ h => h) (Or.inl ⟨by rfl, ?_⟩) ?_ ?_
                 rotate_left
                 ·intro w'
                  go_simp
                  with_reducible rfl
                 rotate_left
                 ·simp only [Act.put, List.setIfInBounds_toArray, List.set_cons_zero, List.set_cons_succ, i64_w, i32_w]
                  rfl
                 refine take_ (i := 26) (N := some 115) (v := ?_) (a' := ?_) #[true, true, true, true, true, true, true, true, true, true, true, true, true, true, true, true, true, true, true, true, true, true, true, true, true, true, true, true, true, false, true, false, false, false] rfl rfl (take_ofW HT_.out HW_.out (by kernel_rfl)) (fun _ _ _ h => h) (Or.inl ⟨by rfl, ?_⟩) hHeld ?_ ?_
                 rotate_left
                 ·rintro w' ⟨s0, s1, s2, s3, s4, s5⟩
                  go_simp
                  with_reducible rfl
                 rotate_left
                 ·simp only [Act.put, List.setIfInBounds_toArray, List.set_cons_zero, List.set_cons_succ, i64_w, i32_w]
                  rfl
                 refine one_ (i := 29) (N := some 118) #[true, true, true, true, true, true, true, true, true, true, true, true, true, true, true, true, true, true, true, true, true, true, true, true, true, true, true, true, true, true, true, false, false, false] rfl rfl (one_of HT_.out (by kernel_rfl)) (by decide) (fun K hK => ?_)
                 refine goes_ Try.func42 (by kernel_rfl) rfl #[.int .i64 t478, .int .i64 t480] (by rfl) rfl rfl (by (try simp only [List.map_toArray, List.map_cons, List.map_nil]); first | done | rfl | (simp only [List.length_drop, List.length_take]; rfl)) ?_
                 with_reducible refine (ephemerisref2_Mul.calls t478 t480 t486 _ A42.out).mono ?_
                 rintro e w' ⟨rfl, ⟨nd, rfl⟩⟩
                 refine ⟨_, rfl, ?_⟩
                 refine hK.out _ _ ⟨(blk_cell BK471.out 0).trans rfl, (blk_cell BK471.out 1).trans rfl, (blk_cell BK483.out 0).trans rfl, (blk_cell BK483.out 1).trans rfl, hHeld.2.2.2.2.1, hHeld.2.2.2.2.2⟩ (fun hHeld => ?_)
                 clear hK K
                 refine norm_ (a' := ?_) ?_ ?_
                 rotate_left
                 ·show Act.put _ (some 118) _ = _
                  simp only [Act.put, List.setIfInBounds_toArray, List.set_cons_zero, List.set_cons_succ, i64_w, i32_w]
                  rfl
                 refine one_ (i := 31) (N := some 120) #[true, true, true, true, true, true, true, true, true, true, true, true, true, true, true, true, true, true, true, true, true, true, true, true, true, true, true, true, true, true, true, true, false, false] rfl rfl (one_of HT_.out (by kernel_rfl)) (by decide) (fun K hK => ?_)
                 refine goes_ Try.func21 (by kernel_rfl) rfl #[.agg #[.int .i64 t482, .int .i64 (wrap64 ((wrap64 (t482 + t469)) - t468))], .int .i64 t486, .int .i64 t481] (by rfl) rfl rfl (by (try simp only [List.map_toArray, List.map_cons, List.map_nil]); first | done | rfl | (simp only [List.length_drop, List.length_take]; rfl)) ?_
                 with_reducible refine (ephemerisref2_InArc.calls kj24 t482 (wrap64 ((wrap64 (t482 + t469)) - t468)) t486 t481 t487 _ A43.out).mono ?_
                 rintro e w52 ⟨rfl, hb⟩
                 have HS4_ := (hb.cell (World.block_lt_of_cell? _ _ (hHeld.2.2.2.2.1))).trans (hHeld.2.2.2.2.1)
                 have HS5_ := (hb.cell (World.block_lt_of_cell? _ _ (hHeld.2.2.2.2.2))).trans (hHeld.2.2.2.2.2)
                 refine ⟨_, rfl, ?_⟩
                 have n0_ := Aside0.mk (Kd.R_below (by (with_reducible repeat (first | apply Kd.R_alloc | apply Kd.R_drewN | apply Kd.R_drew)); exact HO_7.out) hb)
                 have n1_ := kb_ BK471 hb
                 have n2_ := kb_ BK483 hb
                 have n3_ := bs_ HB hb
                 clear HO_7
                 clear BK471
                 clear BK483
                 clear HB
                 have HO_7 := n0_
                 have BK471 := n1_
                 have BK483 := n2_
                 have HB := n3_
                 clear n0_ n1_ n2_ n3_
                 (try clear hb)
                 (try clear hb2)
                 (try clear hk)
                 (try clear hi)
                 refine hK.out _ _ ⟨(blk_cell BK471.out 0).trans rfl, (blk_cell BK471.out 1).trans rfl, (blk_cell BK483.out 0).trans rfl, (blk_cell BK483.out 1).trans rfl, HS4_, HS5_⟩ (fun hHeld => ?_)
                 clear hK K
                 refine norm_ (a' := ?_) ?_ ?_
                 rotate_left
                 ·show Act.put _ (some 120) _ = _
                  simp only [Act.put, List.setIfInBounds_toArray, List.set_cons_zero, List.set_cons_succ, i64_w, i32_w]
                  rfl
                 refine pure_ (i := 32) (N := some 121) (v := ?_) (a' := ?_) #[true, true, true, true, true, true, true, true, true, true, true, true, true, true, true, true, true, true, true, true, true, true, true, true, true, true, true, true, true, true, true, true, true, false] rfl rfl (any_of HT_.out (by kernel_rfl)) (fun _ _ _ h => h) (Or.inl ⟨by rfl, ?_⟩) ?_ ?_
                 rotate_left
                 ·intro w'
                  go_simp
                  with_reducible rfl
                 rotate_left
                 ·simp only [Act.put, List.setIfInBounds_toArray, List.set_cons_zero, List.set_cons_succ, i64_w, i32_w]
                  rfl
                 refine pure_ (i := 33) (N := some 4) (v := ?_) (a' := ?_) #[true, true, true, true, true, true, true, true, true, true, true, true, true, true, true, true, true, true, true, true, true, true, true, true, true, true, true, true, true, true, true, true, true, true] rfl rfl (any_of HT_.out (by kernel_rfl)) (fun _ _ _ h => h) (Or.inl ⟨by rfl, ?_⟩) ?_ ?_
                 rotate_left
                 ·intro w'
                  go_simp
                  with_reducible rfl
                 rotate_left
                 ·simp only [Act.put, List.setIfInBounds_toArray, List.set_cons_zero, List.set_cons_succ, i64_w, i32_w]
                  rfl
                 refine done_ (done_of HT_.out (by kernel_rfl)) ?_
                 try go_wp2
                 go_ret
                 exact ⟨by first | rfl | (simp [errW_none, errW_some] <;> rfl) | (simp only [← hji35]; first | rfl | (simp [errW_none, errW_some] <;> rfl)) | (simp [*, errW_none, errW_some] <;> rfl), (be_ HB).out⟩
                ·rw [if_neg c41] at H
                 have c41b0 : decide ((wrap64 (t469 - t468)) ≤ 50) = false := decide_eq_false c41
                 clear c41
                 obtain rfl := Option.some.inj H
                 exact absurd hT (by decide)
              ·rw [if_neg c38] at H
               have c38b0 : (((rd_T23 t472 (ji35)).f0) == t468 && (((rd_T23 t472 (ji35)).f1) == t469)) = false := by simpa using c38
               (try (have c38b1 : decide (((rd_T23 t472 (ji35)).f0) = t468 && (((rd_T23 t472 (ji35)).f1) == t469)) = false := by simpa using c38))
               (try (have c38b2 : (((rd_T23 t472 (ji35)).f0) == t468 && (((rd_T23 t472 (ji35)).f1) == t469)) = false := by simpa using c38))
               (try (have c38b3 : ¬ (((rd_T23 t472 (ji35)).f0) = t468 && (((rd_T23 t472 (ji35)).f1) == t469)) := by simpa using c38))
               clear c38
               obtain rfl := Option.some.inj H
               exact absurd hT (by decide)
             ·rw [if_neg c37] at H
              exact absurd H (by simp)
            ·rw [if_neg c36] at H
             exact absurd H (by simp)
           ·rw [if_neg c34] at H
            have c34b0 : (t470 == 0) = false := beq_eq_false_iff_ne.mpr c34
            have c34b1 : (t470 != 0) = true := bne_iff_ne.mpr c34
            obtain rfl := Option.some.inj H
            exact absurd hT (by decide)
 ·replace c4 := Bool.eq_false_iff.mpr c4
  subst c4
  have H1 : (some false) = some r := by rw [if_neg (show ¬ (false = true) by decide)] at H; exact H
  clear H
  have H := H1
  clear H1
  obtain rfl := Option.some.inj H
  exact absurd hT (by decide)
end Go.Proofs.Ytedakilpogagiaa.PAll
