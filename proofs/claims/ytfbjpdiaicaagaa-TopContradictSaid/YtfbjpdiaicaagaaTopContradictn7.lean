/- Written by a program of this session out of the translation. -/
import Derived.Test.YtfbjpdiaicaagaaTopContradictn3
import Derived.Test.YtfbjpdiaicaagaaTopContradictn6
namespace Go.Proofs.Ytfbjpdiaicaagaa.PAll
open Go.RowKit Go.Proofs.YtfbjpdiaicaagaaW.PrintWords Go.Proofs.YtfbjpdiaicaagaaW.PrintLast Go.Proofs.YtfbjpdiaicaagaaW.PrintMore Go.Proofs.Ytfbjpdiaicaagaa.More2
attribute [local go_sem] max2_int min2_int max_two min_two max_three min_three max_four min_four tdiv2e18_ tdiv1e18_ cellSS_  -- for this text's walks alone
set_option linter.unusedVariables false
set_option linter.unusedSimpArgs false
mutual
def ephemeristop_sEvents.l0 : Nat → List Int → Int → List (S43) → List (S43) → Int → Int → Option (Int × (List (S43)))
  | 0, _, _, _, _, _, _ => none
  | k + 1, x0, x6, x7, x16, x17, x18 => if x18 < x17 then (if 0 ≤ x18 then (if x18 < (x16.length : Int) then (if x18 = 20 then (ephemeristop_sEvents.j1 k x0 x6 x7 x16 x17 x18 true ((rd_T43 x16 x18).f0) ((rd_T43 x16 x18).f1) ((rd_T43 x16 x18).f2) ((rd_T43 x16 x18).f3)) else (ephemeristop_sEvents.j1 k x0 x6 x7 x16 x17 x18 (decide (x6 < 2)) ((rd_T43 x16 x18).f0) ((rd_T43 x16 x18).f1) ((rd_T43 x16 x18).f2) ((rd_T43 x16 x18).f3))) else (none)) else (none)) else (some (x6, x7))
def ephemeristop_sEvents.j1 : Nat → List Int → Int → List (S43) → List (S43) → Int → Int → Bool → Int → Int → Int → Int → Option (Int × (List (S43)))
  | 0, _, _, _, _, _, _, _, _, _, _, _ => none
  | k + 1, x0, x6, x7, x16, x17, x18, x28, x461000, x461001, x461002, x461003 => if x28 = true then (some (x6, x7)) else ((ephemeristop_sAt.f x461000 x6).bind fun t461 => ((ephemeristop_sAt.f x461001 (wrap64 (x6 - 1))).bind fun t462 => (if x6 = 0 then (none) else (if 0 ≤ (Int.tmod (wrap64 ((wrap64 (t461 + 1)) + t462)) x6) then (if (Int.tmod (wrap64 ((wrap64 (t461 + 1)) + t462)) x6) < (x0.length : Int) then (if 0 ≤ t461 then (if t461 < (x0.length : Int) then ((ephemeristop_sAt.f x461002 50).bind fun t465 => ((ephemeristop_sAt.f x461003 50).bind fun t466 => (if x7.length < 4398046511104 then (ephemeristop_sEvents.l0 k x0 x6 (x7 ++ [(⟨t461, Int.tmod (wrap64 ((wrap64 (t461 + 1)) + t462)) x6, wrap64 ((wrap64 ((Int.tmod (rd x0 (Int.tmod (wrap64 ((wrap64 (t461 + 1)) + t462)) x6)) 10000) - (Int.tmod (rd x0 t461) 10000))) - t465), wrap64 ((wrap64 ((Int.tmod (rd x0 (Int.tmod (wrap64 ((wrap64 (t461 + 1)) + t462)) x6)) 10000) - (Int.tmod (rd x0 t461) 10000))) + t466)⟩ : S43)]) x16 x17 (wrap64 (x18 + 1))) else (none)))) else (none)) else (none)) else (none)) else (none)))))
end
def ephemeristop_sEvents.f (k : Nat) (l0 : List Int) (l1 : List (S43)) : Option (Int × (List (S43))) := ephemeristop_sEvents.l0 k l0 (mn (l0.length : Int) 8) ([] : List (S43)) l1 (l1.length : Int) 0
def ephemeristop_sEvents.T9 : Bool × List (List Nat × List Nat) := (true, [([], []), ([], []), ([0, 1], [0, 1]), ([2], [2]), ([3], [3]), ([], []), ([], []), ([5, 6], [5, 6]), ([7], [7]), ([8], [8]), ([4, 9], [4, 9]), ([10, 0, 1, 2, 3, 4, 5, 6, 7, 8, 9, 10], [10])])
def ephemeristop_sEvents.B9 : List Nat := [0, 0, 3, 7, 15, 0, 0, 96, 224, 480, 1023, 2047]
theorem ephemeristop_sEvents.tab9 : rtab .any (opsOf Try.f24 9) = ephemeristop_sEvents.T9 := by kernel_rfl
theorem ephemeristop_sEvents.bits9 : waitsOk ephemeristop_sEvents.T9.2 ephemeristop_sEvents.B9 = true := by kernel_rfl
def ephemeristop_sEvents.T10 : Bool × List (List Nat × List Nat) := (true, [([], []), ([], []), ([], []), ([], []), ([], []), ([4], [4]), ([5], [5]), ([3, 6], [3, 6]), ([], []), ([], []), ([9], [9]), ([10, 6], [10]), ([8, 11], [8, 11]), ([1, 2, 7, 12], [1, 2, 7, 12]), ([13], [13]), ([0, 14, 11], [0, 14]), ([15, 15, 0, 1, 2, 3, 4, 5, 6, 7, 8, 9, 10, 11, 12, 13, 14, 15], [0, 15])])
def ephemeristop_sEvents.B10 : List Nat := [0, 0, 0, 0, 0, 16, 48, 120, 0, 0, 512, 1648, 3952, 8190, 16382, 32767, 65535]
theorem ephemeristop_sEvents.tab10 : rtab .any (opsOf Try.f24 10) = ephemeristop_sEvents.T10 := by kernel_rfl
theorem ephemeristop_sEvents.bits10 : waitsOk ephemeristop_sEvents.T10.2 ephemeristop_sEvents.B10 = true := by kernel_rfl
set_option maxHeartbeats 8000000 in
set_option maxRecDepth 100000 in
theorem ephemeristop_sEvents.calls (k : Nat) (A0 : Option Addr) (c0 : Nat) (l0 : List Int) (A1 : Option Addr) (c1 : Nat) (l1 : List (S43)) (r1 : Int) (r2 : List (S43)) (w : World) (hr0 : Kd.C (Kd.int .i64) w A0 l0.length l0) (hc0 : l0.length ≤ c0) (hr1 : Kd.C k43 w A1 l1.length l1) (hc1 : l1.length ≤ c1) (h : ephemeristop_sEvents.f k l0 l1 = some (r1, r2)) :
    Calls Try.prog 24 #[.slice A0 l0.length c0, .slice A1 l1.length c1] w fun e w' => ∃ v1_ : Value, e = .returned (.tuple #[.int .i64 r1, v1_]) ∧ Kd.R k43 43 w' w.heap.size (fun _ => True) v1_ r2 ∧ Below w.heap.size w w' := by
  have hu43 := Try.underlying43
  have HR0 := Aside0.mk hr0
  have HC0 := Aside0.mk hc0
  clear hr0 hc0
  have HR1 := Aside0.mk hr1
  have HC1 := Aside0.mk hc1
  clear hr1 hc1
  have HB := Aside0.mk (Below.refl w.heap.size w)
  have H : (ephemeristop_sEvents.l0 k l0 (mn (l0.length : Int) 8) ([] : List (S43)) l1 (l1.length : Int) 0) = some (r1, r2) := h
  clear h
  obtain ⟨ji3, hji3⟩ : ∃ j_ : Int, (mn (l0.length : Int) 8) = j_ := ⟨_, rfl⟩
  replace H : (ephemeristop_sEvents.l0 k l0 ji3 ([] : List (S43)) l1 (l1.length : Int) 0) = some (r1, r2) := by first | (rw [hji3] at H; exact H) | (simp only [hji3] at H ⊢; exact H)
  (try (have hji3h : ji3 ≤ 8 := by (rw [← hji3]; unfold mn; (repeat' split) <;> omega)))
  (try (have hji3g : ji3 ≤ 64 := by omega))
  (try (have hji3l : 0 ≤ ji3 := by (rw [← hji3]; unfold mn; (repeat' split) <;> omega)))
  (try (have hji3m : 0 ≤ ji3 := by omega))
  have hji3_ : (if 8 < (l0.length : Int) then 8 else (l0.length : Int)) = ji3 := hji3
  have H' := Aside0.mk H
  clear H
  go_enter Try.func24, Try.ntmps24
  go_wp2
  go_loopg [7, 18] k (fun kq v7 v18 w' => ∃ (x7_1 : List (S43)) (x18_1 : Int), v18 = .int .i64 x18_1 ∧ Aside0 (ephemeristop_sEvents.l0 kq l0 ji3 x7_1 l1 (l1.length : Int) x18_1 = some (r1, r2)) ∧ Aside0 (kq ≤ k) ∧ Aside0 (Kd.R k43 43 w' w.heap.size (fun _ => True) v7 x7_1) ∧ Aside0 (Below w.heap.size w w'))
  case atStart => exact ⟨(([] : List (S43))), (0), (by first | rfl | (simp; done) | (simp [*]; done)), H', ⟨Nat.le_refl _⟩, ⟨by first | exact Kd.R_nil _ _ _ _ _ | exact Kd.N_nil _ _ _ _ _ | exact Kd.V_nil _ _ _ _ _ | exact Kd.Q_nil _ _ _ _ _ | exact Kd.S_nil _ _ _ _ _⟩, ⟨by repeat (first | (with_reducible first | exact HB.out | apply below_alloc | apply pw_below_drewN | apply below_drew1) | exact HB.out)⟩⟩
  case round =>
    clear H'
    try clear c1
    try clear c2
    try clear p2
    obtain ⟨x7_1, x18_1, rfl, HA, HK1, HO_7, HB⟩ := hrel
    cases gk with
    | zero => exact absurd HA.out (by simp [ephemeristop_sEvents.l0])
    | succ k1 =>
      have H := HA.out
      clear HA
      simp only [ephemeristop_sEvents.l0] at H
      by_cases c4 : x18_1 < (l1.length : Int)
      · rw [if_pos c4] at H
        have c4b0 : decide (x18_1 < (l1.length : Int)) = true := decide_eq_true c4
        clear c4
        by_cases c5 : 0 ≤ x18_1
        · rw [if_pos c5] at H
          have c5b0 : decide (0 ≤ x18_1) = true := decide_eq_true c5
          clear c5
          by_cases c6 : x18_1 < (l1.length : Int)
          · rw [if_pos c6] at H
            have c6b0 : decide (x18_1 < (l1.length : Int)) = true := decide_eq_true c6
            clear c6
            have HC7 := Aside0.mk H
            clear H
            have p459 : 0 ≤ (x18_1 : Int) := of_decide_eq_true (by first | (with_reducible assumption) | assumption)
            have q459 : x18_1 < (l1.length : Int) := of_decide_eq_true (by first | (with_reducible assumption) | assumption)
            obtain ⟨ad459, e459, hx459_0, hx459_1, hx459_2, hx459_3⟩ := at_T43 HR1.out x18_1 p459 q459
            cases e459
            replace hx459_0 := (HB.out.cell (World.block_lt_of_cell? w _ hx459_0)).trans hx459_0
            replace hx459_1 := (HB.out.cell (World.block_lt_of_cell? w _ hx459_1)).trans hx459_1
            replace hx459_2 := (HB.out.cell (World.block_lt_of_cell? w _ hx459_2)).trans hx459_2
            replace hx459_3 := (HB.out.cell (World.block_lt_of_cell? w _ hx459_3)).trans hx459_3
            replace p459 := eq_true p459
            replace q459 := eq_true q459
            go_upto_region 6 with (first | ((with_reducible refine gate_dst (N := 9) rfl ?_); refine box_event ?hg (N := 9) ?hd (cs := #[.int .i64 0, .int .i64 0, .int .i64 0, .int .i64 0]) (t := 43) ?hr ?_; (case hd => rfl); (case hg => rfl); (case hr => first | (go_simp; done) | (go_simp; rfl)); intro gb460 hg w8 hbox hb; have n0_ := Aside0.mk (Kd.R_below (Kd.R_elderB (by (with_reducible repeat (first | apply Kd.R_alloc | apply Kd.R_drewN | apply Kd.R_drew)); exact HO_7.out) gb460 (Nat.le_of_eq hg.symm)) hb); have n1_ := Aside0.mk (below_step (by repeat (first | (with_reducible first | exact HB.out | apply below_alloc | apply pw_below_drewN | apply below_drew1) | exact HB.out)) hb); have n2_ := Aside0.mk (hbox); have n3_ := Aside0.mk ((by rw [hg]; exact (below_size (by repeat (first | (with_reducible first | exact HB.out | apply below_alloc | apply pw_below_drewN | apply below_drew1) | exact HB.out))) : w.heap.size ≤ gb460)); have n4_ := Aside0.mk ((by rw [hg]; exact (below_size (by repeat (first | (with_reducible first | exact HB.out | apply below_alloc | apply pw_below_drewN | apply below_drew1) | exact HB.out))) : w.heap.size ≤ gb460)); clear HO_7; clear HB; have HO_7 := n0_; have HB := n1_; have BK460 := n2_; have GW460 := n3_; have GE460 := n4_; clear n0_ n1_ n2_ n3_ n4_; clear hb hbox hg; have hcz9_0 : w8.cell? ⟨gb460, 0, none⟩ = some (.int .i64 0) := (blk_cell BK460.out 0).trans rfl; have hcz9_1 : w8.cell? ⟨gb460, 1, none⟩ = some (.int .i64 0) := (blk_cell BK460.out 1).trans rfl; have hcz9_2 : w8.cell? ⟨gb460, 2, none⟩ = some (.int .i64 0) := (blk_cell BK460.out 2).trans rfl; have hcz9_3 : w8.cell? ⟨gb460, 3, none⟩ = some (.int .i64 0) := (blk_cell BK460.out 3).trans rfl; have hfz9_0 := blk_frozen BK460.out 0; have hfz9_1 := blk_frozen BK460.out 1; have hfz9_2 := blk_frozen BK460.out 2; have hfz9_3 := blk_frozen BK460.out 3))
            (try simp only [Act.put, List.setIfInBounds_toArray, List.set_cons_zero, List.set_cons_succ])
            go_cut [28] (fun v28 wc => ∃ (kq : Nat) (x28_6 : Bool), v28 = .bool x28_6 ∧ Aside0 (ephemeristop_sEvents.j1 kq l0 ji3 x7_1 l1 (l1.length : Int) x18_1 x28_6 ((rd_T43 l1 x18_1).f0) ((rd_T43 l1 x18_1).f1) ((rd_T43 l1 x18_1).f2) ((rd_T43 l1 x18_1).f3) = some (r1, r2)) ∧ Aside0 (kq ≤ k1) ∧ Aside0 (Kd.R k43 43 wc w.heap.size (fun k_ => k_ ≠ gb460) u7 x7_1) ∧ Aside0 (wc.heap[gb460]? = some (.cells #[.int .i64 ((rd_T43 l1 x18_1).f0), .int .i64 ((rd_T43 l1 x18_1).f1), .int .i64 ((rd_T43 l1 x18_1).f2), .int .i64 ((rd_T43 l1 x18_1).f3)] 43 (0, 0))) ∧ Aside0 (Below w.heap.size w wc))
            case first =>
              have H := HC7.out
              clear HC7
              by_cases c10 : x18_1 = 20
              · rw [if_pos c10] at H
                have c10b0 : (x18_1 == 20) = true := beq_iff_eq.mpr c10
                have c10b1 : (x18_1 != 20) = false := bne_eq_false_iff_eq.mpr c10
                clear c10
                (first | rw [c10b0] | (simp only [i64_w, i32_w]; rw [c10b0]) | skip)
                have H' := Aside0.mk H
                clear H
                go_wp2
                go_meet
                case rel => exact ⟨_, (true), (by first | rfl | (simp; done) | (simp [*]; done)), H', ⟨by have := HK1.out; first | omega | exact Nat.le_refl _⟩, ⟨by (with_reducible repeat (first | apply Kd.R_alloc | apply Kd.R_drewN | apply Kd.R_drew)); exact Kd.R_mono (Kd.R_far (p := ⟨gb460, 3, none⟩) (Kd.R_far (p := ⟨gb460, 2, none⟩) (Kd.R_far (p := ⟨gb460, 1, none⟩) (Kd.R_far (p := ⟨gb460, 0, none⟩) (Kd.R_mono HO_7.out (fun k_ hk => (⟨hk, hk.2⟩ : _ ∧ k_ ≠ gb460))) (fun _ hk => hk.2) (.int .i64 ((rd_T43 l1 x18_1).f0))) (fun _ hk => hk.2) (.int .i64 ((rd_T43 l1 x18_1).f1))) (fun _ hk => hk.2) (.int .i64 ((rd_T43 l1 x18_1).f2))) (fun _ hk => hk.2) (.int .i64 ((rd_T43 l1 x18_1).f3))) (fun _ hk => hk.1.2)⟩, ⟨by (with_reducible repeat (first | refine blk_drewN ?_ _ | refine blk_drew ?_ | refine blk_alloc ?_ _)); refine blk_put (cs := #[.int .i64 ((rd_T43 l1 x18_1).f0), .int .i64 ((rd_T43 l1 x18_1).f1), .int .i64 ((rd_T43 l1 x18_1).f2), .int .i64 0]) ?_ 3 _ rfl; (with_reducible repeat (first | refine blk_drewN ?_ _ | refine blk_drew ?_ | refine blk_alloc ?_ _)); refine blk_put (cs := #[.int .i64 ((rd_T43 l1 x18_1).f0), .int .i64 ((rd_T43 l1 x18_1).f1), .int .i64 0, .int .i64 0]) ?_ 2 _ rfl; (with_reducible repeat (first | refine blk_drewN ?_ _ | refine blk_drew ?_ | refine blk_alloc ?_ _)); refine blk_put (cs := #[.int .i64 ((rd_T43 l1 x18_1).f0), .int .i64 0, .int .i64 0, .int .i64 0]) ?_ 1 _ rfl; (with_reducible repeat (first | refine blk_drewN ?_ _ | refine blk_drew ?_ | refine blk_alloc ?_ _)); refine blk_put (cs := #[.int .i64 0, .int .i64 0, .int .i64 0, .int .i64 0]) ?_ 0 _ rfl; (with_reducible repeat (first | refine blk_drewN ?_ _ | refine blk_drew ?_ | refine blk_alloc ?_ _)); exact BK460.out⟩, ⟨by repeat (first | (with_reducible first | exact HB.out | apply below_alloc | apply pw_below_drewN | apply below_drew1 | refine below_set ?_ GE460.out) | exact HB.out)⟩⟩
              · rw [if_neg c10] at H
                have c10b0 : (x18_1 == 20) = false := beq_eq_false_iff_ne.mpr c10
                have c10b1 : (x18_1 != 20) = true := bne_iff_ne.mpr c10
                (first | rw [c10b0] | (simp only [i64_w, i32_w]; rw [c10b0]) | skip)
                have H' := Aside0.mk H
                clear H
                go_wp2
                go_meet
                case rel => exact ⟨_, (decide (ji3 < 2)), (by first | rfl | (simp; done) | (simp only [← hji3] <;> (first | rfl | simp)) | (simp [*]; done)), H', ⟨by have := HK1.out; first | omega | exact Nat.le_refl _⟩, ⟨by (with_reducible repeat (first | apply Kd.R_alloc | apply Kd.R_drewN | apply Kd.R_drew)); exact Kd.R_mono (Kd.R_far (p := ⟨gb460, 3, none⟩) (Kd.R_far (p := ⟨gb460, 2, none⟩) (Kd.R_far (p := ⟨gb460, 1, none⟩) (Kd.R_far (p := ⟨gb460, 0, none⟩) (Kd.R_mono HO_7.out (fun k_ hk => (⟨hk, hk.2⟩ : _ ∧ k_ ≠ gb460))) (fun _ hk => hk.2) (.int .i64 ((rd_T43 l1 x18_1).f0))) (fun _ hk => hk.2) (.int .i64 ((rd_T43 l1 x18_1).f1))) (fun _ hk => hk.2) (.int .i64 ((rd_T43 l1 x18_1).f2))) (fun _ hk => hk.2) (.int .i64 ((rd_T43 l1 x18_1).f3))) (fun _ hk => hk.1.2)⟩, ⟨by (with_reducible repeat (first | refine blk_drewN ?_ _ | refine blk_drew ?_ | refine blk_alloc ?_ _)); refine blk_put (cs := #[.int .i64 ((rd_T43 l1 x18_1).f0), .int .i64 ((rd_T43 l1 x18_1).f1), .int .i64 ((rd_T43 l1 x18_1).f2), .int .i64 0]) ?_ 3 _ rfl; (with_reducible repeat (first | refine blk_drewN ?_ _ | refine blk_drew ?_ | refine blk_alloc ?_ _)); refine blk_put (cs := #[.int .i64 ((rd_T43 l1 x18_1).f0), .int .i64 ((rd_T43 l1 x18_1).f1), .int .i64 0, .int .i64 0]) ?_ 2 _ rfl; (with_reducible repeat (first | refine blk_drewN ?_ _ | refine blk_drew ?_ | refine blk_alloc ?_ _)); refine blk_put (cs := #[.int .i64 ((rd_T43 l1 x18_1).f0), .int .i64 0, .int .i64 0, .int .i64 0]) ?_ 1 _ rfl; (with_reducible repeat (first | refine blk_drewN ?_ _ | refine blk_drew ?_ | refine blk_alloc ?_ _)); refine blk_put (cs := #[.int .i64 0, .int .i64 0, .int .i64 0, .int .i64 0]) ?_ 0 _ rfl; (with_reducible repeat (first | refine blk_drewN ?_ _ | refine blk_drew ?_ | refine blk_alloc ?_ _)); exact BK460.out⟩, ⟨by repeat (first | (with_reducible first | exact HB.out | apply below_alloc | apply pw_below_drewN | apply below_drew1 | refine below_set ?_ GE460.out) | exact HB.out)⟩⟩
            case rest =>
              clear HC7
              try clear c1
              try clear c2
              try clear p2
              try clear c4
              try clear c4b0
              try clear p4
              try clear q4
              try clear hx4
              try clear c5
              try clear c5b0
              try clear c6
              try clear c6b0
              try clear c10
              try clear c10b0
              try clear c10b1
              try clear hcz9_0
              try clear hcz9_1
              try clear hcz9_2
              try clear hcz9_3
              try clear hfz9_0
              try clear hfz9_1
              try clear hfz9_2
              try clear hfz9_3
              try clear hx459_0
              try clear hx459_1
              try clear hx459_2
              try clear hx459_3
              try clear p2
              try clear p459
              try clear q459
              obtain ⟨kq, x28_6, rfl, HA, HJ6, HO_7, BK460, HB⟩ := hcut
              cases kq with
              | zero => exact absurd HA.out (by simp [ephemeristop_sEvents.j1])
              | succ kj6 =>
                have H := HA.out
                clear HA
                simp only [ephemeristop_sEvents.j1] at H
                by_cases c11 : x28_6 = true
                · subst c11
                  have H1 : (some (ji3, x7_1)) = some (r1, r2) := by rw [if_pos rfl] at H; exact H
                  clear H
                  have H := H1
                  clear H1
                  simp only [Option.some.injEq, Prod.mk.injEq] at H
                  obtain ⟨rfl, rfl⟩ := H
                  go_wp2
                  go_ret2
                  exact ⟨_, by first | rfl | (simp [errW_none, errW_some] <;> rfl) | (simp only [← hji3]; first | rfl | (simp [errW_none, errW_some] <;> rfl)) | (simp [*, errW_none, errW_some] <;> rfl), by (with_reducible repeat (first | apply Kd.R_alloc | apply Kd.R_drewN | apply Kd.R_drew)); exact Kd.R_mono HO_7.out (fun _ hk => trivial), by repeat (first | (with_reducible first | exact HB.out | apply below_alloc | apply pw_below_drewN | apply below_drew1 | refine below_set ?_ GE460.out) | exact HB.out)⟩
                · replace c11 := Bool.eq_false_iff.mpr c11
                  subst c11
                  have H1 : ((ephemeristop_sAt.f ((rd_T43 l1 x18_1).f0) ji3).bind fun t461 => ((ephemeristop_sAt.f ((rd_T43 l1 x18_1).f1) (wrap64 (ji3 - 1))).bind fun t462 => (if ji3 = 0 then (none) else (if 0 ≤ (Int.tmod (wrap64 ((wrap64 (t461 + 1)) + t462)) ji3) then (if (Int.tmod (wrap64 ((wrap64 (t461 + 1)) + t462)) ji3) < (l0.length : Int) then (if 0 ≤ t461 then (if t461 < (l0.length : Int) then ((ephemeristop_sAt.f ((rd_T43 l1 x18_1).f2) 50).bind fun t465 => ((ephemeristop_sAt.f ((rd_T43 l1 x18_1).f3) 50).bind fun t466 => (if x7_1.length < 4398046511104 then (ephemeristop_sEvents.l0 kj6 l0 ji3 (x7_1 ++ [(⟨t461, Int.tmod (wrap64 ((wrap64 (t461 + 1)) + t462)) ji3, wrap64 ((wrap64 ((Int.tmod (rd l0 (Int.tmod (wrap64 ((wrap64 (t461 + 1)) + t462)) ji3)) 10000) - (Int.tmod (rd l0 t461) 10000))) - t465), wrap64 ((wrap64 ((Int.tmod (rd l0 (Int.tmod (wrap64 ((wrap64 (t461 + 1)) + t462)) ji3)) 10000) - (Int.tmod (rd l0 t461) 10000))) + t466)⟩ : S43)]) l1 (l1.length : Int) (wrap64 (x18_1 + 1))) else (none)))) else (none)) else (none)) else (none)) else (none))))) = some (r1, r2) := by rw [if_neg (show ¬ (false = true) by decide)] at H; exact H
                  clear H
                  have H := H1
                  clear H1
                  replace H := Option.bind_eq_some_iff.mp H
                  obtain ⟨t461, A120, H⟩ := H
                  replace H : ((ephemeristop_sAt.f ((rd_T43 l1 x18_1).f1) (wrap64 (ji3 - 1))).bind fun t462 => (if ji3 = 0 then (none) else (if 0 ≤ (Int.tmod (wrap64 ((wrap64 (t461 + 1)) + t462)) ji3) then (if (Int.tmod (wrap64 ((wrap64 (t461 + 1)) + t462)) ji3) < (l0.length : Int) then (if 0 ≤ t461 then (if t461 < (l0.length : Int) then ((ephemeristop_sAt.f ((rd_T43 l1 x18_1).f2) 50).bind fun t465 => ((ephemeristop_sAt.f ((rd_T43 l1 x18_1).f3) 50).bind fun t466 => (if x7_1.length < 4398046511104 then (ephemeristop_sEvents.l0 kj6 l0 ji3 (x7_1 ++ [(⟨t461, Int.tmod (wrap64 ((wrap64 (t461 + 1)) + t462)) ji3, wrap64 ((wrap64 ((Int.tmod (rd l0 (Int.tmod (wrap64 ((wrap64 (t461 + 1)) + t462)) ji3)) 10000) - (Int.tmod (rd l0 t461) 10000))) - t465), wrap64 ((wrap64 ((Int.tmod (rd l0 (Int.tmod (wrap64 ((wrap64 (t461 + 1)) + t462)) ji3)) 10000) - (Int.tmod (rd l0 t461) 10000))) + t466)⟩ : S43)]) l1 (l1.length : Int) (wrap64 (x18_1 + 1))) else (none)))) else (none)) else (none)) else (none)) else (none)))) = some (r1, r2) := H
                  have A12 := Aside0.mk A120
                  clear A120
                  replace H := Option.bind_eq_some_iff.mp H
                  obtain ⟨t462, A130, H⟩ := H
                  replace H : (if ji3 = 0 then (none) else (if 0 ≤ (Int.tmod (wrap64 ((wrap64 (t461 + 1)) + t462)) ji3) then (if (Int.tmod (wrap64 ((wrap64 (t461 + 1)) + t462)) ji3) < (l0.length : Int) then (if 0 ≤ t461 then (if t461 < (l0.length : Int) then ((ephemeristop_sAt.f ((rd_T43 l1 x18_1).f2) 50).bind fun t465 => ((ephemeristop_sAt.f ((rd_T43 l1 x18_1).f3) 50).bind fun t466 => (if x7_1.length < 4398046511104 then (ephemeristop_sEvents.l0 kj6 l0 ji3 (x7_1 ++ [(⟨t461, Int.tmod (wrap64 ((wrap64 (t461 + 1)) + t462)) ji3, wrap64 ((wrap64 ((Int.tmod (rd l0 (Int.tmod (wrap64 ((wrap64 (t461 + 1)) + t462)) ji3)) 10000) - (Int.tmod (rd l0 t461) 10000))) - t465), wrap64 ((wrap64 ((Int.tmod (rd l0 (Int.tmod (wrap64 ((wrap64 (t461 + 1)) + t462)) ji3)) 10000) - (Int.tmod (rd l0 t461) 10000))) + t466)⟩ : S43)]) l1 (l1.length : Int) (wrap64 (x18_1 + 1))) else (none)))) else (none)) else (none)) else (none)) else (none))) = some (r1, r2) := H
                  have A13 := Aside0.mk A130
                  clear A130
                  by_cases c14 : ji3 = 0
                  · rw [if_pos c14] at H
                    exact absurd H (by simp)
                  · rw [if_neg c14] at H
                    have c14b0 : (ji3 == 0) = false := beq_eq_false_iff_ne.mpr c14
                    have c14b1 : (ji3 != 0) = true := bne_iff_ne.mpr c14
                    obtain ⟨ji15, hji15⟩ : ∃ j_ : Int, (Int.tmod (wrap64 ((wrap64 (t461 + 1)) + t462)) ji3) = j_ := ⟨_, rfl⟩
                    replace H : (if 0 ≤ (ji15) then (if (ji15) < (l0.length : Int) then (if 0 ≤ t461 then (if t461 < (l0.length : Int) then ((ephemeristop_sAt.f ((rd_T43 l1 x18_1).f2) 50).bind fun t465 => ((ephemeristop_sAt.f ((rd_T43 l1 x18_1).f3) 50).bind fun t466 => (if x7_1.length < 4398046511104 then (ephemeristop_sEvents.l0 kj6 l0 ji3 (x7_1 ++ [(⟨t461, ji15, wrap64 ((wrap64 ((Int.tmod (rd l0 (ji15)) 10000) - (Int.tmod (rd l0 t461) 10000))) - t465), wrap64 ((wrap64 ((Int.tmod (rd l0 (ji15)) 10000) - (Int.tmod (rd l0 t461) 10000))) + t466)⟩ : S43)]) l1 (l1.length : Int) (wrap64 (x18_1 + 1))) else (none)))) else (none)) else (none)) else (none)) else (none)) = some (r1, r2) := by first | (rw [hji15] at H; exact H) | (simp only [hji15] at H ⊢; exact H)
                    (try rw [hji15] at A12)
                    (try rw [hji15] at A13)
                    by_cases c16 : 0 ≤ (ji15)
                    · rw [if_pos c16] at H
                      have c16b0 : decide (0 ≤ (ji15)) = true := decide_eq_true c16
                      clear c16
                      by_cases c17 : (ji15) < (l0.length : Int)
                      · rw [if_pos c17] at H
                        have c17b0 : decide ((ji15) < (l0.length : Int)) = true := decide_eq_true c17
                        clear c17
                        by_cases c18 : 0 ≤ t461
                        · rw [if_pos c18] at H
                          have c18b0 : decide (0 ≤ t461) = true := decide_eq_true c18
                          clear c18
                          by_cases c19 : t461 < (l0.length : Int)
                          · rw [if_pos c19] at H
                            have c19b0 : decide (t461 < (l0.length : Int)) = true := decide_eq_true c19
                            clear c19
                            replace H := Option.bind_eq_some_iff.mp H
                            obtain ⟨t465, A200, H⟩ := H
                            replace H : ((ephemeristop_sAt.f ((rd_T43 l1 x18_1).f3) 50).bind fun t466 => (if x7_1.length < 4398046511104 then (ephemeristop_sEvents.l0 kj6 l0 ji3 (x7_1 ++ [(⟨t461, ji15, wrap64 ((wrap64 ((Int.tmod (rd l0 (ji15)) 10000) - (Int.tmod (rd l0 t461) 10000))) - t465), wrap64 ((wrap64 ((Int.tmod (rd l0 (ji15)) 10000) - (Int.tmod (rd l0 t461) 10000))) + t466)⟩ : S43)]) l1 (l1.length : Int) (wrap64 (x18_1 + 1))) else (none))) = some (r1, r2) := H
                            have A20 := Aside0.mk A200
                            clear A200
                            replace H := Option.bind_eq_some_iff.mp H
                            obtain ⟨t466, A210, H⟩ := H
                            replace H : (if x7_1.length < 4398046511104 then (ephemeristop_sEvents.l0 kj6 l0 ji3 (x7_1 ++ [(⟨t461, ji15, wrap64 ((wrap64 ((Int.tmod (rd l0 (ji15)) 10000) - (Int.tmod (rd l0 t461) 10000))) - t465), wrap64 ((wrap64 ((Int.tmod (rd l0 (ji15)) 10000) - (Int.tmod (rd l0 t461) 10000))) + t466)⟩ : S43)]) l1 (l1.length : Int) (wrap64 (x18_1 + 1))) else (none)) = some (r1, r2) := H
                            have A21 := Aside0.mk A210
                            clear A210
                            by_cases c22 : x7_1.length < 4398046511104
                            · rw [if_pos c22] at H
                              have LMc22 := Aside0.mk c22
                              clear c22
                              obtain ⟨y467, hy467⟩ : ∃ y_ : List (S43), y_ = (x7_1 ++ [(⟨t461, ji15, wrap64 ((wrap64 ((Int.tmod (rd l0 (ji15)) 10000) - (Int.tmod (rd l0 t461) 10000))) - t465), wrap64 ((wrap64 ((Int.tmod (rd l0 (ji15)) 10000) - (Int.tmod (rd l0 t461) 10000))) + t466)⟩ : S43)]) := ⟨_, rfl⟩
                              replace H : (ephemeristop_sEvents.l0 kj6 l0 ji3 y467 l1 (l1.length : Int) (wrap64 (x18_1 + 1))) = some (r1, r2) := by first | (rw [hy467]; with_reducible exact H) | (have H2_ := (Option.bind_some _ _).symm.trans H; rw [hy467]; with_reducible exact H2_) | (have H2_ := (Option.bind_some _ _).symm.trans H; with_reducible exact H2_) | with_reducible exact H | (rw [hy467]; exact H) | exact H
                              have Ny467 := Aside0.mk hy467
                              clear hy467
                              have H' := Aside0.mk H
                              clear H
                              have hcz23_0 : wc.cell? ⟨gb460, 0, none⟩ = some (.int .i64 ((rd_T43 l1 x18_1).f0)) := (blk_cell BK460.out 0).trans rfl
                              have hcz23_1 : wc.cell? ⟨gb460, 1, none⟩ = some (.int .i64 ((rd_T43 l1 x18_1).f1)) := (blk_cell BK460.out 1).trans rfl
                              have hcz23_2 : wc.cell? ⟨gb460, 2, none⟩ = some (.int .i64 ((rd_T43 l1 x18_1).f2)) := (blk_cell BK460.out 2).trans rfl
                              have hcz23_3 : wc.cell? ⟨gb460, 3, none⟩ = some (.int .i64 ((rd_T43 l1 x18_1).f3)) := (blk_cell BK460.out 3).trans rfl
                              have hfz23_0 := blk_frozen BK460.out 0
                              have hfz23_1 := blk_frozen BK460.out 1
                              have hfz23_2 := blk_frozen BK460.out 2
                              have hfz23_3 := blk_frozen BK460.out 3
                              try go_wp2_with (first | ((with_reducible refine gate_callee (f := 25) rfl ?_); refine goesL_ (some 32) rfl rfl Try.func25 (by kernel_rfl) rfl #[.int .i64 ((rd_T43 l1 x18_1).f0), .int .i64 ji3] rfl (by (try simp only [List.map_toArray, List.map_cons, List.map_nil]); first | done | (simp only [hji3]; rfl) | rfl | (simp only [List.length_drop, List.length_take]; rfl)) ?_; (with_reducible refine (ephemeristop_sAt.calls ((rd_T43 l1 x18_1).f0) ji3 t461 _ A12.out).mono ?_); rintro e w' ⟨rfl, ⟨nd, rfl⟩⟩; refine ⟨_, rfl, ?_⟩) | ((with_reducible refine gate_callee (f := 25) rfl ?_); refine goesL_ (some 39) rfl rfl Try.func25 (by kernel_rfl) rfl #[.int .i64 ((rd_T43 l1 x18_1).f1), .int .i64 (ji3 - 1)] rfl (by (try simp only [List.map_toArray, List.map_cons, List.map_nil]); first | done | (simp only [hji3]; rfl) | rfl | (simp only [List.length_drop, List.length_take]; rfl)) ?_; (with_reducible refine (ephemeristop_sAt.calls ((rd_T43 l1 x18_1).f1) (ji3 - 1) t462 _ (by have h_ := A13.out; rw [show wrap64 (ji3 - 1) = ji3 - 1 by unfold wrap64; omega] at h_; exact h_)).mono ?_); rintro e w' ⟨rfl, ⟨nd, rfl⟩⟩; refine ⟨_, rfl, ?_⟩))
                              (try (rw [drewN_self wc]; generalize hq_ : World.drewN wc _ = wc; have n0_ : Aside0 (Kd.R k43 43 wc w.heap.size (fun k_ => k_ ≠ gb460) u7 x7_1) := ⟨by rw [← hq_]; exact (by (with_reducible repeat (first | apply Kd.R_alloc | apply Kd.R_drewN | apply Kd.R_drew)); exact HO_7.out)⟩; have n1_ : Aside0 (wc.heap[gb460]? = some (.cells #[.int .i64 ((rd_T43 l1 x18_1).f0), .int .i64 ((rd_T43 l1 x18_1).f1), .int .i64 ((rd_T43 l1 x18_1).f2), .int .i64 ((rd_T43 l1 x18_1).f3)] 43 (0, 0))) := ⟨by rw [← hq_]; exact (by (with_reducible repeat (first | refine blk_drewN ?_ _ | refine blk_drew ?_ | refine blk_alloc ?_ _)); exact BK460.out)⟩; have n2_ : Aside0 (Below w.heap.size w wc) := ⟨by rw [← hq_]; exact (by repeat (first | (with_reducible first | exact HB.out | apply below_alloc | apply pw_below_drewN | apply below_drew1 | refine below_set ?_ GE460.out) | exact HB.out))⟩; clear HO_7 BK460 HB hq_; have HO_7 := n0_; have BK460 := n1_; have HB := n2_; clear n0_ n1_ n2_; have hcy460_0 : wc.cell? ⟨gb460, 0, none⟩ = some (.int .i64 ((rd_T43 l1 x18_1).f0)) := (blk_cell BK460.out 0).trans rfl; have hfy460_0 := blk_frozen BK460.out 0; have hcy460_1 : wc.cell? ⟨gb460, 1, none⟩ = some (.int .i64 ((rd_T43 l1 x18_1).f1)) := (blk_cell BK460.out 1).trans rfl; have hfy460_1 := blk_frozen BK460.out 1; have hcy460_2 : wc.cell? ⟨gb460, 2, none⟩ = some (.int .i64 ((rd_T43 l1 x18_1).f2)) := (blk_cell BK460.out 2).trans rfl; have hfy460_2 := blk_frozen BK460.out 2; have hcy460_3 : wc.cell? ⟨gb460, 3, none⟩ = some (.int .i64 ((rd_T43 l1 x18_1).f3)) := (blk_cell BK460.out 3).trans rfl; have hfy460_3 := blk_frozen BK460.out 3))
                              have n0_ := Aside0.mk (Kd.R_drew HO_7.out)
                              have n1_ := Aside0.mk (blk_drew BK460.out)
                              have n2_ := Aside0.mk (below_drew1 HB.out)
                              clear HO_7
                              clear BK460
                              clear HB
                              have HO_7 := n0_
                              have BK460 := n1_
                              have HB := n2_
                              clear n0_ n1_ n2_
                              have p463 : 0 ≤ ((ji15) : Int) := of_decide_eq_true (by first | (with_reducible assumption) | assumption)
                              have q463 : (ji15) < (l0.length : Int) := of_decide_eq_true (by first | (with_reducible assumption) | assumption)
                              obtain ⟨ad463, e463, hx463_0⟩ := Kd.at_int HR0.out (ji15) p463 q463
                              have hw463_0 := hx463_0
                              cases e463
                              replace hx463_0 := (HB.out.cell (World.block_lt_of_cell? w _ hx463_0)).trans hx463_0
                              replace p463 := eq_true p463
                              replace q463 := eq_true q463
                              have p464 : 0 ≤ (t461 : Int) := of_decide_eq_true (by first | (with_reducible assumption) | assumption)
                              have q464 : t461 < (l0.length : Int) := of_decide_eq_true (by first | (with_reducible assumption) | assumption)
                              obtain ⟨ad464, e464, hx464_0⟩ := Kd.at_int HR0.out t461 p464 q464
                              have hw464_0 := hx464_0
                              obtain rfl : ad463 = ad464 := (by injection e464)
                              replace hx464_0 := (HB.out.cell (World.block_lt_of_cell? w _ hx464_0)).trans hx464_0
                              replace p464 := eq_true p464
                              replace q464 := eq_true q464
                              refine start_ (n := 12) (S := fun w' => w'.cell? (ad463.add ((ji15)).toNat) = some (.int .i64 (rd l0 (ji15))) ∧ w'.cell? (ad463.add (t461).toNat) = some (.int .i64 (rd l0 t461))) (ds := []) #[false, false, false, false, false, false, false, false, false, false, false, false] (by kernel_rfl) rfl rfl ⟨((HB.out.cell (World.block_lt_of_cell? w _ hw463_0)).trans hw463_0), ((HB.out.cell (World.block_lt_of_cell? w _ hw464_0)).trans hw464_0)⟩ (fun hHeld => ?_); refine with_tabW ephemeristop_sEvents.tab9 ephemeristop_sEvents.bits9 (fun HT_ HW_ => ?_)
                              generalize wc.drew = w24 at HO_7 BK460 HB hx463_0 hx464_0 hHeld ⊢
                              refine pure_ (i := 0) (N := some 43) (v := ?_) (a' := ?_) #[true, false, false, false, false, false, false, false, false, false, false, false] rfl rfl (any_of HT_.out (by kernel_rfl)) (fun _ _ _ h => h) (Or.inl ⟨by rfl, ?_⟩) ?_ ?_
                              rotate_left
                              · intro w'
                                go_simp
                                with_reducible rfl
                              rotate_left
                              · simp only [Act.put, List.setIfInBounds_toArray, List.set_cons_zero, List.set_cons_succ, i64_w, i32_w]
                                rfl
                              refine pure_ (i := 1) (N := some 44) (v := ?_) (a' := ?_) #[true, true, false, false, false, false, false, false, false, false, false, false] rfl rfl (any_of HT_.out (by kernel_rfl)) (fun _ _ _ h => h) (Or.inl ⟨by rfl, ?_⟩) ?_ ?_
                              rotate_left
                              · intro w'
                                go_simp
                                with_reducible rfl
                              rotate_left
                              · simp only [Act.put, List.setIfInBounds_toArray, List.set_cons_zero, List.set_cons_succ, i64_w, i32_w]
                                rfl
                              refine pure_ (i := 2) (N := some 45) (v := ?_) (a' := ?_) #[true, true, true, false, false, false, false, false, false, false, false, false] rfl rfl (any_of HT_.out (by kernel_rfl)) (fun _ _ _ h => h) (Or.inl ⟨by rfl, ?_⟩) ?_ ?_
                              rotate_left
                              · intro w'
                                go_simp
                                with_reducible rfl
                              rotate_left
                              · simp only [Act.put, List.setIfInBounds_toArray, List.set_cons_zero, List.set_cons_succ, i64_w, i32_w]
                                rfl
                              refine pure_ (i := 5) (N := some 48) (v := ?_) (a' := ?_) #[true, true, true, false, false, true, false, false, false, false, false, false] rfl rfl (any_of HT_.out (by kernel_rfl)) (fun _ _ _ h => h) (Or.inl ⟨by rfl, ?_⟩) ?_ ?_
                              rotate_left
                              · intro w'
                                go_simp
                                with_reducible rfl
                              rotate_left
                              · simp only [Act.put, List.setIfInBounds_toArray, List.set_cons_zero, List.set_cons_succ, i64_w, i32_w]
                                rfl
                              refine pure_ (i := 6) (N := some 49) (v := ?_) (a' := ?_) #[true, true, true, false, false, true, true, false, false, false, false, false] rfl rfl (any_of HT_.out (by kernel_rfl)) (fun _ _ _ h => h) (Or.inl ⟨by rfl, ?_⟩) ?_ ?_
                              rotate_left
                              · intro w'
                                go_simp
                                with_reducible rfl
                              rotate_left
                              · simp only [Act.put, List.setIfInBounds_toArray, List.set_cons_zero, List.set_cons_succ, i64_w, i32_w]
                                rfl
                              refine pure_ (i := 7) (N := some 50) (v := ?_) (a' := ?_) #[true, true, true, false, false, true, true, true, false, false, false, false] rfl rfl (any_of HT_.out (by kernel_rfl)) (fun _ _ _ h => h) (Or.inl ⟨by rfl, ?_⟩) ?_ ?_
                              rotate_left
                              · intro w'
                                go_simp
                                with_reducible rfl
                              rotate_left
                              · simp only [Act.put, List.setIfInBounds_toArray, List.set_cons_zero, List.set_cons_succ, i64_w, i32_w]
                                rfl
                              refine take_ (i := 3) (N := some 46) (v := ?_) (a' := ?_) #[true, true, true, true, false, true, true, true, false, false, false, false] rfl rfl (take_ofW HT_.out HW_.out (by kernel_rfl)) (fun _ _ _ h => h) (Or.inl ⟨by rfl, ?_⟩) hHeld ?_ ?_
                              rotate_left
                              · rintro w' ⟨s0, s1⟩
                                go_simp
                                with_reducible rfl
                              rotate_left
                              · simp only [Act.put, List.setIfInBounds_toArray, List.set_cons_zero, List.set_cons_succ, i64_w, i32_w]
                                rfl
                              refine pure_ (i := 4) (N := some 47) (v := ?_) (a' := ?_) #[true, true, true, true, true, true, true, true, false, false, false, false] rfl rfl (any_of HT_.out (by kernel_rfl)) (fun _ _ _ h => h) (Or.inl ⟨by rfl, ?_⟩) ?_ ?_
                              rotate_left
                              · intro w'
                                go_simp
                                with_reducible rfl
                              rotate_left
                              · simp only [Act.put, List.setIfInBounds_toArray, List.set_cons_zero, List.set_cons_succ, i64_w, i32_w]
                                rfl
                              refine take_ (i := 8) (N := some 51) (v := ?_) (a' := ?_) #[true, true, true, true, true, true, true, true, true, false, false, false] rfl rfl (take_ofW HT_.out HW_.out (by kernel_rfl)) (fun _ _ _ h => h) (Or.inl ⟨by rfl, ?_⟩) hHeld ?_ ?_
                              rotate_left
                              · rintro w' ⟨s0, s1⟩
                                go_simp
                                with_reducible rfl
                              rotate_left
                              · simp only [Act.put, List.setIfInBounds_toArray, List.set_cons_zero, List.set_cons_succ, i64_w, i32_w]
                                rfl
                              refine pure_ (i := 9) (N := some 52) (v := ?_) (a' := ?_) #[true, true, true, true, true, true, true, true, true, true, false, false] rfl rfl (any_of HT_.out (by kernel_rfl)) (fun _ _ _ h => h) (Or.inl ⟨by rfl, ?_⟩) ?_ ?_
                              rotate_left
                              · intro w'
                                go_simp
                                with_reducible rfl
                              rotate_left
                              · simp only [Act.put, List.setIfInBounds_toArray, List.set_cons_zero, List.set_cons_succ, i64_w, i32_w]
                                rfl
                              refine pure_ (i := 10) (N := some 53) (v := ?_) (a' := ?_) #[true, true, true, true, true, true, true, true, true, true, true, false] rfl rfl (any_of HT_.out (by kernel_rfl)) (fun _ _ _ h => h) (Or.inl ⟨by rfl, ?_⟩) ?_ ?_
                              rotate_left
                              · intro w'
                                go_simp
                                with_reducible rfl
                              rotate_left
                              · simp only [Act.put, List.setIfInBounds_toArray, List.set_cons_zero, List.set_cons_succ, i64_w, i32_w]
                                rfl
                              refine pure_ (i := 11) (N := some 12) (v := ?_) (a' := ?_) #[true, true, true, true, true, true, true, true, true, true, true, true] rfl rfl (any_of HT_.out (by kernel_rfl)) (fun _ _ _ h => h) (Or.inl ⟨by rfl, ?_⟩) ?_ ?_
                              rotate_left
                              · intro w'
                                go_simp
                                with_reducible rfl
                              rotate_left
                              · simp only [Act.put, List.setIfInBounds_toArray, List.set_cons_zero, List.set_cons_succ, i64_w, i32_w]
                                rfl
                              refine done_ (done_of HT_.out (by kernel_rfl)) ?_
                              try go_wp2
                              have n0_ := Aside0.mk (Kd.R_drew HO_7.out)
                              have n1_ := Aside0.mk (blk_drew BK460.out)
                              have n2_ := Aside0.mk (below_drew1 HB.out)
                              clear HO_7
                              clear BK460
                              clear HB
                              have HO_7 := n0_
                              have BK460 := n1_
                              have HB := n2_
                              clear n0_ n1_ n2_
                              refine start_ (n := 17) (S := fun w' => w'.cell? ⟨gb460, 0, none⟩ = some (.int .i64 ((rd_T43 l1 x18_1).f0)) ∧ w'.cell? ⟨gb460, 1, none⟩ = some (.int .i64 ((rd_T43 l1 x18_1).f1)) ∧ w'.cell? ⟨gb460, 2, none⟩ = some (.int .i64 ((rd_T43 l1 x18_1).f2)) ∧ w'.cell? ⟨gb460, 3, none⟩ = some (.int .i64 ((rd_T43 l1 x18_1).f3))) (ds := []) #[false, false, false, false, false, false, false, false, false, false, false, false, false, false, false, false, false] (by kernel_rfl) rfl rfl ⟨(blk_cell BK460.out 0).trans rfl, (blk_cell BK460.out 1).trans rfl, (blk_cell BK460.out 2).trans rfl, (blk_cell BK460.out 3).trans rfl⟩ (fun hHeld => ?_); refine with_tabW ephemeristop_sEvents.tab10 ephemeristop_sEvents.bits10 (fun HT_ HW_ => ?_)
                              generalize w24.drew = w25 at HO_7 BK460 HB hHeld ⊢
                              refine pure_ (i := 0) (N := some 54) (v := ?_) (a' := ?_) #[true, false, false, false, false, false, false, false, false, false, false, false, false, false, false, false, false] rfl rfl (any_of HT_.out (by kernel_rfl)) (fun _ _ _ h => h) (Or.inl ⟨by rfl, ?_⟩) ?_ ?_
                              rotate_left
                              · intro w'
                                go_simp
                                with_reducible rfl
                              rotate_left
                              · simp only [Act.put, List.setIfInBounds_toArray, List.set_cons_zero, List.set_cons_succ, i64_w, i32_w]
                                rfl
                              refine pure_ (i := 1) (N := some 55) (v := ?_) (a' := ?_) #[true, true, false, false, false, false, false, false, false, false, false, false, false, false, false, false, false] rfl rfl (any_of HT_.out (by kernel_rfl)) (fun _ _ _ h => h) (Or.inl ⟨by rfl, ?_⟩) ?_ ?_
                              rotate_left
                              · intro w'
                                go_simp
                                with_reducible rfl
                              rotate_left
                              · simp only [Act.put, List.setIfInBounds_toArray, List.set_cons_zero, List.set_cons_succ, i64_w, i32_w]
                                rfl
                              refine pure_ (i := 2) (N := some 56) (v := ?_) (a' := ?_) #[true, true, true, false, false, false, false, false, false, false, false, false, false, false, false, false, false] rfl rfl (any_of HT_.out (by kernel_rfl)) (fun _ _ _ h => h) (Or.inl ⟨by rfl, ?_⟩) ?_ ?_
                              rotate_left
                              · intro w'
                                go_simp
                                with_reducible rfl
                              rotate_left
                              · simp only [Act.put, List.setIfInBounds_toArray, List.set_cons_zero, List.set_cons_succ, i64_w, i32_w]
                                rfl
                              refine pure_ (i := 3) (N := some 57) (v := ?_) (a' := ?_) #[true, true, true, true, false, false, false, false, false, false, false, false, false, false, false, false, false] rfl rfl (any_of HT_.out (by kernel_rfl)) (fun _ _ _ h => h) (Or.inl ⟨by rfl, ?_⟩) ?_ ?_
                              rotate_left
                              · intro w'
                                go_simp
                                with_reducible rfl
                              rotate_left
                              · simp only [Act.put, List.setIfInBounds_toArray, List.set_cons_zero, List.set_cons_succ, i64_w, i32_w]
                                rfl
                              refine pure_ (i := 4) (N := some 58) (v := ?_) (a' := ?_) #[true, true, true, true, true, false, false, false, false, false, false, false, false, false, false, false, false] rfl rfl (any_of HT_.out (by kernel_rfl)) (fun _ _ _ h => h) (Or.inl ⟨by rfl, ?_⟩) ?_ ?_
                              rotate_left
                              · intro w'
                                go_simp
                                with_reducible rfl
                              rotate_left
                              · simp only [Act.put, List.setIfInBounds_toArray, List.set_cons_zero, List.set_cons_succ, i64_w, i32_w]
                                rfl
                              refine pure_ (i := 8) (N := some 62) (v := ?_) (a' := ?_) #[true, true, true, true, true, false, false, false, true, false, false, false, false, false, false, false, false] rfl rfl (any_of HT_.out (by kernel_rfl)) (fun _ _ _ h => h) (Or.inl ⟨by rfl, ?_⟩) ?_ ?_
                              rotate_left
                              · intro w'
                                go_simp
                                with_reducible rfl
                              rotate_left
                              · simp only [Act.put, List.setIfInBounds_toArray, List.set_cons_zero, List.set_cons_succ, i64_w, i32_w]
                                rfl
                              refine pure_ (i := 9) (N := some 63) (v := ?_) (a' := ?_) #[true, true, true, true, true, false, false, false, true, true, false, false, false, false, false, false, false] rfl rfl (any_of HT_.out (by kernel_rfl)) (fun _ _ _ h => h) (Or.inl ⟨by rfl, ?_⟩) ?_ ?_
                              rotate_left
                              · intro w'
                                go_simp
                                with_reducible rfl
                              rotate_left
                              · simp only [Act.put, List.setIfInBounds_toArray, List.set_cons_zero, List.set_cons_succ, i64_w, i32_w]
                                rfl
                              refine take_ (i := 5) (N := some 59) (v := ?_) (a' := ?_) #[true, true, true, true, true, true, false, false, true, true, false, false, false, false, false, false, false] rfl rfl (take_ofW HT_.out HW_.out (by kernel_rfl)) (fun _ _ _ h => h) (Or.inl ⟨by rfl, ?_⟩) hHeld ?_ ?_
                              rotate_left
                              · rintro w' ⟨s0, s1, s2, s3⟩
                                go_simp
                                with_reducible rfl
                              rotate_left
                              · simp only [Act.put, List.setIfInBounds_toArray, List.set_cons_zero, List.set_cons_succ, i64_w, i32_w]
                                rfl
                              refine take_ (i := 10) (N := some 64) (v := ?_) (a' := ?_) #[true, true, true, true, true, true, false, false, true, true, true, false, false, false, false, false, false] rfl rfl (take_ofW HT_.out HW_.out (by kernel_rfl)) (fun _ _ _ h => h) (Or.inl ⟨by rfl, ?_⟩) hHeld ?_ ?_
                              rotate_left
                              · rintro w' ⟨s0, s1, s2, s3⟩
                                go_simp
                                with_reducible rfl
                              rotate_left
                              · simp only [Act.put, List.setIfInBounds_toArray, List.set_cons_zero, List.set_cons_succ, i64_w, i32_w]
                                rfl
                              refine one_ (i := 6) (N := some 60) #[true, true, true, true, true, true, true, false, true, true, true, false, false, false, false, false, false] rfl rfl (one_of HT_.out (by kernel_rfl)) (by decide) (fun K hK => ?_)
                              refine goes_ Try.func25 (by kernel_rfl) rfl #[.int .i64 ((rd_T43 l1 x18_1).f2), .int .i64 50] (by rfl) rfl rfl (by (try simp only [List.map_toArray, List.map_cons, List.map_nil]); first | done | rfl | (simp only [List.length_drop, List.length_take]; rfl)) ?_
                              with_reducible refine (ephemeristop_sAt.calls ((rd_T43 l1 x18_1).f2) 50 t465 _ A20.out).mono ?_
                              rintro e w' ⟨rfl, ⟨nd, rfl⟩⟩
                              refine ⟨_, rfl, ?_⟩
                              refine hK.out _ _ ⟨(blk_cell BK460.out 0).trans rfl, (blk_cell BK460.out 1).trans rfl, (blk_cell BK460.out 2).trans rfl, (blk_cell BK460.out 3).trans rfl⟩ (fun hHeld => ?_)
                              clear hK K
                              refine norm_ (a' := ?_) ?_ ?_
                              rotate_left
                              · show Act.put _ (some 60) _ = _
                                simp only [Act.put, List.setIfInBounds_toArray, List.set_cons_zero, List.set_cons_succ, i64_w, i32_w]
                                rfl
                              refine pure_ (i := 7) (N := some 61) (v := ?_) (a' := ?_) #[true, true, true, true, true, true, true, true, true, true, true, false, false, false, false, false, false] rfl rfl (any_of HT_.out (by kernel_rfl)) (fun _ _ _ h => h) (Or.inl ⟨by rfl, ?_⟩) ?_ ?_
                              rotate_left
                              · intro w'
                                go_simp
                                with_reducible rfl
                              rotate_left
                              · simp only [Act.put, List.setIfInBounds_toArray, List.set_cons_zero, List.set_cons_succ, i64_w, i32_w]
                                rfl
                              refine one_ (i := 11) (N := some 65) #[true, true, true, true, true, true, true, true, true, true, true, true, false, false, false, false, false] rfl rfl (one_of HT_.out (by kernel_rfl)) (by decide) (fun K hK => ?_)
                              refine goes_ Try.func25 (by kernel_rfl) rfl #[.int .i64 ((rd_T43 l1 x18_1).f3), .int .i64 50] (by rfl) rfl rfl (by (try simp only [List.map_toArray, List.map_cons, List.map_nil]); first | done | rfl | (simp only [List.length_drop, List.length_take]; rfl)) ?_
                              with_reducible refine (ephemeristop_sAt.calls ((rd_T43 l1 x18_1).f3) 50 t466 _ A21.out).mono ?_
                              rintro e w' ⟨rfl, ⟨nd, rfl⟩⟩
                              refine ⟨_, rfl, ?_⟩
                              refine hK.out _ _ ⟨(blk_cell BK460.out 0).trans rfl, (blk_cell BK460.out 1).trans rfl, (blk_cell BK460.out 2).trans rfl, (blk_cell BK460.out 3).trans rfl⟩ (fun hHeld => ?_)
                              clear hK K
                              refine norm_ (a' := ?_) ?_ ?_
                              rotate_left
                              · show Act.put _ (some 65) _ = _
                                simp only [Act.put, List.setIfInBounds_toArray, List.set_cons_zero, List.set_cons_succ, i64_w, i32_w]
                                rfl
                              refine pure_ (i := 12) (N := some 66) (v := ?_) (a' := ?_) #[true, true, true, true, true, true, true, true, true, true, true, true, true, false, false, false, false] rfl rfl (any_of HT_.out (by kernel_rfl)) (fun _ _ _ h => h) (Or.inl ⟨by rfl, ?_⟩) ?_ ?_
                              rotate_left
                              · intro w'
                                go_simp
                                with_reducible rfl
                              rotate_left
                              · simp only [Act.put, List.setIfInBounds_toArray, List.set_cons_zero, List.set_cons_succ, i64_w, i32_w]
                                rfl
                              refine pure_ (i := 13) (N := some 67) (v := ?_) (a' := ?_) #[true, true, true, true, true, true, true, true, true, true, true, true, true, true, false, false, false] rfl rfl (any_of HT_.out (by kernel_rfl)) (fun _ _ _ h => h) (Or.inl ⟨by rfl, ?_⟩) ?_ ?_
                              rotate_left
                              · intro w'
                                go_simp
                                with_reducible rfl
                              rotate_left
                              · simp only [Act.put, List.setIfInBounds_toArray, List.set_cons_zero, List.set_cons_succ, i64_w, i32_w]
                                rfl
                              refine one_ (i := 14) (N := some 68) #[true, true, true, true, true, true, true, true, true, true, true, true, true, true, true, false, false] rfl rfl (one_of HT_.out (by kernel_rfl)) (by decide) (fun K hK => ?_)
                              refine value_ (w1 := ?_) (v := ?_) (by rfl) rfl ?_ ?_
                              rotate_left 2
                              · go_simp
                                constructor
                                · rfl
                                · rfl
                              refine hK.out _ _ ⟨(blk_cell (blk_alloc BK460.out _) 0).trans rfl, (blk_cell (blk_alloc BK460.out _) 1).trans rfl, (blk_cell (blk_alloc BK460.out _) 2).trans rfl, (blk_cell (blk_alloc BK460.out _) 3).trans rfl⟩ (fun hHeld => ?_)
                              clear hK K
                              refine norm_ (a' := ?_) ?_ ?_
                              rotate_left
                              · show Act.put _ (some 68) _ = _
                                simp only [Act.put, List.setIfInBounds_toArray, List.set_cons_zero, List.set_cons_succ, i64_w, i32_w]
                                rfl
                              refine one_ (i := 15) (N := some 69) #[true, true, true, true, true, true, true, true, true, true, true, true, true, true, true, true, false] rfl rfl (one_of HT_.out (by kernel_rfl)) (by decide) (fun K hK => ?_)
                              refine Kd.R_append_step k43 (w0 := w) w.heap.size (by rfl) (.tmp 54) (.tmp 68) 22 43 (.agg #[(.int .i64 0), (.int .i64 0), (.int .i64 0), (.int .i64 0)]) 32 rfl Try.underlying22 info43 rfl (by decide) (by omega) u7 x7_1 (⟨t461, ji15, wrap64 ((wrap64 ((Int.tmod (rd l0 (ji15)) 10000) - (Int.tmod (rd l0 t461) 10000))) - t465), wrap64 ((wrap64 ((Int.tmod (rd l0 (ji15)) 10000) - (Int.tmod (rd l0 t461) 10000))) + t466)⟩ : S43) [.int .i64 t461, .int .i64 ji15, .int .i64 (wrap64 ((wrap64 ((Int.tmod (rd l0 (ji15)) 10000) - (Int.tmod (rd l0 t461) 10000))) - t465)), .int .i64 (wrap64 ((wrap64 ((Int.tmod (rd l0 (ji15)) 10000) - (Int.tmod (rd l0 t461) 10000))) + t466))] (fun k_ => k_ ≠ gb460) (fun _ => False) rfl rfl ?aP (fun _ hk => hk.elim) ?aF ?aO ?aB ?aS ?aL ?_
                              (case aP => exact k43_mkM _ _ _ (⟨t461, ji15, wrap64 ((wrap64 ((Int.tmod (rd l0 (ji15)) 10000) - (Int.tmod (rd l0 t461) 10000))) - t465), wrap64 ((wrap64 ((Int.tmod (rd l0 (ji15)) 10000) - (Int.tmod (rd l0 t461) 10000))) + t466)⟩ : S43))
                              (case aB => exact (by repeat (first | (with_reducible first | exact HB.out | apply below_alloc | apply pw_below_drewN | apply below_drew1 | refine below_set ?_ GE460.out) | exact HB.out)))
                              (case aF => exact (fun k_ hk => Kd.freshB (g := gb460) (o := .cells #[.int .i64 ((rd_T43 l1 x18_1).f0), .int .i64 ((rd_T43 l1 x18_1).f1), .int .i64 ((rd_T43 l1 x18_1).f2), .int .i64 ((rd_T43 l1 x18_1).f3)] 43 (0, 0)) (by (with_reducible repeat (first | refine blk_drewN ?_ _ | refine blk_drew ?_ | refine blk_alloc ?_ _)); exact BK460.out) k_ hk))
                              (case aO => exact (by (with_reducible repeat (first | apply Kd.R_alloc | apply Kd.R_drewN | apply Kd.R_drew)); exact HO_7.out))
                              (case aS => exact (below_size (by repeat (first | (with_reducible first | exact HB.out | apply below_alloc | apply pw_below_drewN | apply below_drew1 | refine below_set ?_ GE460.out) | exact HB.out))))
                              (case aL => have := LMc22.out; omega)
                              intro v468 w26 ho hb hg hat
                              rw [← Ny467.out] at ho
                              have n0_ := Aside0.mk (blk_grown (g := gb460) (o := .cells #[.int .i64 ((rd_T43 l1 x18_1).f0), .int .i64 ((rd_T43 l1 x18_1).f1), .int .i64 ((rd_T43 l1 x18_1).f2), .int .i64 ((rd_T43 l1 x18_1).f3)] 43 (0, 0)) (by (with_reducible repeat (first | refine blk_drewN ?_ _ | refine blk_drew ?_ | refine blk_alloc ?_ _)); exact BK460.out) hg (Kd.R_away HO_7.out (fun _ hk => hk)))
                              have n1_ := Aside0.mk (hb)
                              have n2_ := Aside0.mk (ho)
                              clear BK460
                              clear HB
                              clear HO_7
                              have BK460 := n0_
                              have HB := n1_
                              have HO469 := n2_
                              clear n0_ n1_ n2_
                              clear ho hb hg hat
                              refine hK.out _ _ ⟨(blk_cell BK460.out 0).trans rfl, (blk_cell BK460.out 1).trans rfl, (blk_cell BK460.out 2).trans rfl, (blk_cell BK460.out 3).trans rfl⟩ (fun hHeld => ?_)
                              clear hK K
                              refine norm_ (a' := ?_) ?_ ?_
                              rotate_left
                              · show Act.put _ (some 69) _ = _
                                simp only [Act.put, List.setIfInBounds_toArray, List.set_cons_zero, List.set_cons_succ, i64_w, i32_w]
                                rfl
                              refine pure_ (i := 16) (N := some 7) (v := ?_) (a' := ?_) #[true, true, true, true, true, true, true, true, true, true, true, true, true, true, true, true, true] rfl rfl (any_of HT_.out (by kernel_rfl)) (fun _ _ _ h => h) (Or.inl ⟨by rfl, ?_⟩) ?_ ?_
                              rotate_left
                              · intro w'
                                go_simp
                                with_reducible rfl
                              rotate_left
                              · simp only [Act.put, List.setIfInBounds_toArray, List.set_cons_zero, List.set_cons_succ, i64_w, i32_w]
                                rfl
                              refine done_ (done_of HT_.out (by kernel_rfl)) ?_
                              try go_wp2
                              go_roundg kj6
                              case measure => have := HK1.out; have := HJ6.out; omega
                              case rel => exact ⟨(y467), (wrap64 (x18_1 + 1)), (by first | rfl | (simp; done) | (simp [*]; done)), H', ⟨by have := HK1.out; have := HJ6.out; omega⟩, ⟨by (with_reducible repeat (first | apply Kd.R_alloc | apply Kd.R_drewN | apply Kd.R_drew)); exact Kd.R_mono HO469.out (fun _ hk => trivial)⟩, ⟨by repeat (first | (with_reducible first | exact HB.out | apply below_alloc | apply pw_below_drewN | apply below_drew1 | refine below_set ?_ GE460.out) | exact HB.out)⟩⟩
                            · rw [if_neg c22] at H
                              exact absurd H (by simp)
                          · rw [if_neg c19] at H
                            exact absurd H (by simp)
                        · rw [if_neg c18] at H
                          exact absurd H (by simp)
                      · rw [if_neg c17] at H
                        exact absurd H (by simp)
                    · rw [if_neg c16] at H
                      exact absurd H (by simp)
          · rw [if_neg c6] at H
            exact absurd H (by simp)
        · rw [if_neg c5] at H
          exact absurd H (by simp)
      · rw [if_neg c4] at H
        have c4b0 : decide (x18_1 < (l1.length : Int)) = false := decide_eq_false c4
        clear c4
        simp only [Option.some.injEq, Prod.mk.injEq] at H
        obtain ⟨rfl, rfl⟩ := H
        go_wp2
        go_ret2
        exact ⟨_, by first | rfl | (simp [errW_none, errW_some] <;> rfl) | (simp only [← hji3]; first | rfl | (simp [errW_none, errW_some] <;> rfl)) | (simp [*, errW_none, errW_some] <;> rfl), by (with_reducible repeat (first | apply Kd.R_alloc | apply Kd.R_drewN | apply Kd.R_drew)); exact HO_7.out, by repeat (first | (with_reducible first | exact HB.out | apply below_alloc | apply pw_below_drewN | apply below_drew1) | exact HB.out)⟩
end Go.Proofs.Ytfbjpdiaicaagaa.PAll
