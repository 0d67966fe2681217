/- Written by a program of this session: what one law needs. -/
import Derived.Test.YtcifakgcbgodiaaPhaseLitsn2
import Derived.Test.YtcifakgcbgodiaaPhaseLitsn18
import Derived.Test.YtcifakgcbgodiaaPhaseLitsn3
section
namespace Go.Proofs.Ytcifakgcbgodiaa.PAll
open Go.RowKit Go.Proofs.YtcifakgcbgodiaaW.PrintWords Go.Proofs.YtcifakgcbgodiaaW.PrintLast Go.Proofs.YtcifakgcbgodiaaW.PrintMore Go.Proofs.Ytcifakgcbgodiaa.More2
attribute [local go_sem] max2_int min2_int max_two min_two max_three min_three max_four min_four tdiv2e18_ tdiv1e18_ cellSS_  -- for this text's walks alone
set_option linter.unusedVariables false
set_option linter.unusedSimpArgs false
def ephemerislaw2_has.f (a0_0 : Int) (a0_1 : Int) (a1 : Int) (a2 : Int) : Option (Bool) := if a0_0 ≤ a1 then (if a1 ≤ a0_1 then (some (decide ((wrap64 (a0_1 - a0_0)) ≤ a2))) else (some false)) else (some false)
set_option maxHeartbeats 8000000 in
set_option maxRecDepth 100000 in
theorem ephemerislaw2_has.calls (a0_0 : Int) (a0_1 : Int) (a1 : Int) (a2 : Int) (r : Bool) (w : World) (h : ephemerislaw2_has.f a0_0 a0_1 a1 a2 = some r) :
    Calls Try.prog 57 #[.agg #[.int .i64 a0_0, .int .i64 a0_1], .int .i64 a1, .int .i64 a2] w fun e w' => e = .returned (.bool r) ∧ Below w.heap.size w w' := by
  have hu24 := Try.underlying24
  have HB := Aside0.mk (Below.refl w.heap.size w)
  have H : (if a0_0 ≤ a1 then (if a1 ≤ a0_1 then (some (decide ((wrap64 (a0_1 - a0_0)) ≤ a2))) else (some false)) else (some false)) = some r := h
  clear h
  by_cases c4 : a0_0 ≤ a1
  · rw [if_pos c4] at H
    have c4b0 : decide (a0_0 ≤ a1) = true := decide_eq_true c4
    clear c4
    by_cases c5 : a1 ≤ a0_1
    · rw [if_pos c5] at H
      have c5b0 : decide (a1 ≤ a0_1) = true := decide_eq_true c5
      clear c5
      obtain rfl := Option.some.inj H
      simp only [Option.some.injEq, Prod.mk.injEq] at H
      obtain ⟨rfl⟩ := H
      go_enter Try.func57, Try.ntmps57
      go_wp2_with (first | ((with_reducible refine gate_dst (N := 3) rfl ?_); refine box_event ?hg (N := 3) ?hd (cs := #[.int .i64 a0_0, .int .i64 a0_1]) (t := 24) ?hr ?_; (case hd => rfl); (case hg => rfl); (case hr => first | (go_simp; done) | (go_simp; rfl)); intro gb319 hg w6 hbox hb; have n0_ := Aside0.mk (below_step (by repeat (first | (with_reducible first | exact HB.out | apply below_alloc | apply pw_below_drewN | apply below_drew1) | exact HB.out)) hb); have n1_ := Aside0.mk (hbox); have n2_ := Aside0.mk ((by rw [hg]; exact (below_size (by repeat (first | (with_reducible first | exact HB.out | apply below_alloc | apply pw_below_drewN | apply below_drew1) | exact HB.out))) : w.heap.size ≤ gb319)); have n3_ := Aside0.mk ((by rw [hg]; exact (below_size (by repeat (first | (with_reducible first | exact HB.out | apply below_alloc | apply pw_below_drewN | apply below_drew1) | exact HB.out))) : w.heap.size ≤ gb319)); clear HB; have HB := n0_; have BK319 := n1_; have GW319 := n2_; have GE319 := n3_; clear n0_ n1_ n2_ n3_; clear hb hbox hg; have hcz7_0 : w6.cell? ⟨gb319, 0, none⟩ = some (.int .i64 a0_0) := (blk_cell BK319.out 0).trans rfl; have hcz7_1 : w6.cell? ⟨gb319, 1, none⟩ = some (.int .i64 a0_1) := (blk_cell BK319.out 1).trans rfl; have hfz7_0 := blk_frozen BK319.out 0; have hfz7_1 := blk_frozen BK319.out 1))
      go_ret
      exact ⟨by first | rfl | (simp [errW_none, errW_some] <;> rfl) | (simp [*, errW_none, errW_some] <;> rfl), by repeat (first | (with_reducible first | exact HB.out | apply below_alloc | apply pw_below_drewN | apply below_drew1 | refine below_set ?_ GE319.out) | exact HB.out)⟩
    · rw [if_neg c5] at H
      have c5b0 : decide (a1 ≤ a0_1) = false := decide_eq_false c5
      clear c5
      obtain rfl := Option.some.inj H
      simp only [Option.some.injEq, Prod.mk.injEq] at H
      obtain ⟨rfl⟩ := H
      go_enter Try.func57, Try.ntmps57
      go_wp2_with (first | ((with_reducible refine gate_dst (N := 3) rfl ?_); refine box_event ?hg (N := 3) ?hd (cs := #[.int .i64 a0_0, .int .i64 a0_1]) (t := 24) ?hr ?_; (case hd => rfl); (case hg => rfl); (case hr => first | (go_simp; done) | (go_simp; rfl)); intro gb319 hg w8 hbox hb; have n0_ := Aside0.mk (below_step (by repeat (first | (with_reducible first | exact HB.out | apply below_alloc | apply pw_below_drewN | apply below_drew1) | exact HB.out)) hb); have n1_ := Aside0.mk (hbox); have n2_ := Aside0.mk ((by rw [hg]; exact (below_size (by repeat (first | (with_reducible first | exact HB.out | apply below_alloc | apply pw_below_drewN | apply below_drew1) | exact HB.out))) : w.heap.size ≤ gb319)); have n3_ := Aside0.mk ((by rw [hg]; exact (below_size (by repeat (first | (with_reducible first | exact HB.out | apply below_alloc | apply pw_below_drewN | apply below_drew1) | exact HB.out))) : w.heap.size ≤ gb319)); clear HB; have HB := n0_; have BK319 := n1_; have GW319 := n2_; have GE319 := n3_; clear n0_ n1_ n2_ n3_; clear hb hbox hg; have hcz9_0 : w8.cell? ⟨gb319, 0, none⟩ = some (.int .i64 a0_0) := (blk_cell BK319.out 0).trans rfl; have hcz9_1 : w8.cell? ⟨gb319, 1, none⟩ = some (.int .i64 a0_1) := (blk_cell BK319.out 1).trans rfl; have hfz9_0 := blk_frozen BK319.out 0; have hfz9_1 := blk_frozen BK319.out 1))
      go_ret
      exact ⟨by first | rfl | (simp [errW_none, errW_some] <;> rfl) | (simp [*, errW_none, errW_some] <;> rfl), by repeat (first | (with_reducible first | exact HB.out | apply below_alloc | apply pw_below_drewN | apply below_drew1 | refine below_set ?_ GE319.out) | exact HB.out)⟩
  · rw [if_neg c4] at H
    have c4b0 : decide (a0_0 ≤ a1) = false := decide_eq_false c4
    clear c4
    obtain rfl := Option.some.inj H
    simp only [Option.some.injEq, Prod.mk.injEq] at H
    obtain ⟨rfl⟩ := H
    go_enter Try.func57, Try.ntmps57
    go_wp2_with (first | ((with_reducible refine gate_dst (N := 3) rfl ?_); refine box_event ?hg (N := 3) ?hd (cs := #[.int .i64 a0_0, .int .i64 a0_1]) (t := 24) ?hr ?_; (case hd => rfl); (case hg => rfl); (case hr => first | (go_simp; done) | (go_simp; rfl)); intro gb319 hg w10 hbox hb; have n0_ := Aside0.mk (below_step (by repeat (first | (with_reducible first | exact HB.out | apply below_alloc | apply pw_below_drewN | apply below_drew1) | exact HB.out)) hb); have n1_ := Aside0.mk (hbox); have n2_ := Aside0.mk ((by rw [hg]; exact (below_size (by repeat (first | (with_reducible first | exact HB.out | apply below_alloc | apply pw_below_drewN | apply below_drew1) | exact HB.out))) : w.heap.size ≤ gb319)); have n3_ := Aside0.mk ((by rw [hg]; exact (below_size (by repeat (first | (with_reducible first | exact HB.out | apply below_alloc | apply pw_below_drewN | apply below_drew1) | exact HB.out))) : w.heap.size ≤ gb319)); clear HB; have HB := n0_; have BK319 := n1_; have GW319 := n2_; have GE319 := n3_; clear n0_ n1_ n2_ n3_; clear hb hbox hg; have hcz11_0 : w10.cell? ⟨gb319, 0, none⟩ = some (.int .i64 a0_0) := (blk_cell BK319.out 0).trans rfl; have hcz11_1 : w10.cell? ⟨gb319, 1, none⟩ = some (.int .i64 a0_1) := (blk_cell BK319.out 1).trans rfl; have hfz11_0 := blk_frozen BK319.out 0; have hfz11_1 := blk_frozen BK319.out 1))
    go_ret
    exact ⟨by first | rfl | (simp [errW_none, errW_some] <;> rfl) | (simp [*, errW_none, errW_some] <;> rfl), by repeat (first | (with_reducible first | exact HB.out | apply below_alloc | apply pw_below_drewN | apply below_drew1 | refine below_set ?_ GE319.out) | exact HB.out)⟩
end Go.Proofs.Ytcifakgcbgodiaa.PAll
end
section
namespace Go.Proofs.Ytcifakgcbgodiaa.PAll
open Go.RowKit Go.Proofs.YtcifakgcbgodiaaW.PrintWords Go.Proofs.YtcifakgcbgodiaaW.PrintLast Go.Proofs.YtcifakgcbgodiaaW.PrintMore Go.Proofs.Ytcifakgcbgodiaa.More2
attribute [local go_sem] max2_int min2_int max_two min_two max_three min_three max_four min_four tdiv2e18_ tdiv1e18_ cellSS_  -- for this text's walks alone
set_option linter.unusedVariables false
set_option linter.unusedSimpArgs false
def ephemerislaw2_phaseWorks.f (k : Nat)  : Option (Bool) := (phase_Find.f k 0 0).bind fun bt320 => ((phase_Number.f k 2000000000).bind fun bt324 => (if bt320.2.2 = 0 then ((ephemerislaw2_has.f bt320.1 bt320.2.1 992260421 600000).bind fun t326 => (if t326 = true then (if bt324.2 = 0 then (some (bt324.1 == 0)) else (some false)) else (some false))) else (some false)))
theorem ephemerislaw2_phaseWorks.mono : ∀ k, LeO (ephemerislaw2_phaseWorks.f k ) (ephemerislaw2_phaseWorks.f (k + 1) ) := by
  intro  k
  unfold ephemerislaw2_phaseWorks.f
  repeat' first
      | (with_reducible exact phase_Find.mono _ _ _)
      | (with_reducible exact phase_Number.mono _ _)
      | (with_reducible exact LeO.refl _)
      | (with_reducible exact LeO.none _)
      | (with_reducible refine LeO.ite ?_ ?_)
      | (with_reducible refine LeO.bind ?_ (fun _ => ?_))
      | exact phase_Find.mono _ _ _
      | exact phase_Number.mono _ _
      | exact LeO.none _
      | refine LeO.ite ?_ ?_
      | refine LeO.bind ?_ (fun _ => ?_)
set_option maxHeartbeats 8000000 in
set_option maxRecDepth 100000 in
theorem ephemerislaw2_phaseWorks.calls (k : Nat)  (r : Bool) (w : World) (h : ephemerislaw2_phaseWorks.f k  = some r) (hT : r = true) :
    Calls Try.prog 54 #[] w fun e w' => e = .returned (.bool r) ∧ Below w.heap.size w w' := by
  have hu24 := Try.underlying24
  have HB := Aside0.mk (Below.refl w.heap.size w)
  have H : ((phase_Find.f k 0 0).bind fun bt320 => ((phase_Number.f k 2000000000).bind fun bt324 => (if bt320.2.2 = 0 then ((ephemerislaw2_has.f bt320.1 bt320.2.1 992260421 600000).bind fun t326 => (if t326 = true then (if bt324.2 = 0 then (some (bt324.1 == 0)) else (some false)) else (some false))) else (some false)))) = some r := h
  clear h
  replace H := Option.bind_eq_some_iff.mp H
  obtain ⟨⟨t320, t321, t322⟩, A10, H⟩ := H
  replace H : ((phase_Number.f k 2000000000).bind fun bt324 => (if t322 = 0 then ((ephemerislaw2_has.f t320 t321 992260421 600000).bind fun t326 => (if t326 = true then (if bt324.2 = 0 then (some (bt324.1 == 0)) else (some false)) else (some false))) else (some false))) = some r := H
  have A1 := Aside0.mk A10
  clear A10
  replace H := Option.bind_eq_some_iff.mp H
  obtain ⟨⟨t324, t325⟩, A20, H⟩ := H
  replace H : (if t322 = 0 then ((ephemerislaw2_has.f t320 t321 992260421 600000).bind fun t326 => (if t326 = true then (if t325 = 0 then (some (t324 == 0)) else (some false)) else (some false))) else (some false)) = some r := H
  have A2 := Aside0.mk A20
  clear A20
  by_cases c3 : t322 = 0
  · rw [if_pos c3] at H
    have c3b0 : (t322 == 0) = true := beq_iff_eq.mpr c3
    have c3b1 : (t322 != 0) = false := bne_eq_false_iff_eq.mpr c3
    clear c3
    replace H := Option.bind_eq_some_iff.mp H
    obtain ⟨t326, A40, H⟩ := H
    replace H : (if t326 = true then (if t325 = 0 then (some (t324 == 0)) else (some false)) else (some false)) = some r := H
    have A4 := Aside0.mk A40
    clear A40
    by_cases c5 : t326 = true
    · subst c5
      have H1 : (if t325 = 0 then (some (t324 == 0)) else (some false)) = some r := by rw [if_pos rfl] at H; exact H
      clear H
      have H := H1
      clear H1
      by_cases c6 : t325 = 0
      · rw [if_pos c6] at H
        have c6b0 : (t325 == 0) = true := beq_iff_eq.mpr c6
        have c6b1 : (t325 != 0) = false := bne_eq_false_iff_eq.mpr c6
        clear c6
        obtain rfl := Option.some.inj H
        simp only [Option.some.injEq, Prod.mk.injEq] at H
        obtain ⟨rfl⟩ := H
        go_enter Try.func54, Try.ntmps54
        go_wp2_with (first | ((with_reducible refine gate_callee (f := 37) rfl ?_); refine goesL_ (some 6) rfl rfl Try.func37 (by kernel_rfl) rfl #[.int .i64 0, .int .i64 0] rfl (by (try simp only [List.map_toArray, List.map_cons, List.map_nil]); first | done | rfl | (simp only [List.length_drop, List.length_take]; rfl)) ?_; (with_reducible refine (phase_Find.calls k 0 0 t320 t321 t322 _ A1.out).mono ?_); rintro e w7 ⟨rfl, hb⟩; refine ⟨_, rfl, ?_⟩; have n0_ := Aside0.mk (below_step (by repeat (first | (with_reducible first | exact HB.out | apply below_alloc | apply pw_below_drewN | apply below_drew1) | exact HB.out)) hb); clear HB; have HB := n0_; clear n0_; (try clear hb); (try clear hb2); (try clear hk); (try clear hi)) | ((with_reducible refine gate_dst (N := 1) rfl ?_); refine box_event ?hg (N := 1) ?hd (cs := #[.int .i64 0, .int .i64 0]) (t := 24) ?hr ?_; (case hd => rfl); (case hg => rfl); (case hr => first | (go_simp; done) | (go_simp; rfl)); intro gb323 hg w8 hbox hb; have n0_ := Aside0.mk (below_step (by repeat (first | (with_reducible first | exact HB.out | apply below_alloc | apply pw_below_drewN | apply below_drew1) | exact HB.out)) hb); have n1_ := Aside0.mk (hbox); have n2_ := Aside0.mk ((by rw [hg]; exact (below_size (by repeat (first | (with_reducible first | exact HB.out | apply below_alloc | apply pw_below_drewN | apply below_drew1) | exact HB.out))) : w.heap.size ≤ gb323)); have n3_ := Aside0.mk ((by rw [hg]; exact (below_size (by repeat (first | (with_reducible first | exact HB.out | apply below_alloc | apply pw_below_drewN | apply below_drew1) | exact HB.out))) : w.heap.size ≤ gb323)); clear HB; have HB := n0_; have BK323 := n1_; have GW323 := n2_; have GE323 := n3_; clear n0_ n1_ n2_ n3_; clear hb hbox hg; have hcz9_0 : w8.cell? ⟨gb323, 0, none⟩ = some (.int .i64 0) := (blk_cell BK323.out 0).trans rfl; have hcz9_1 : w8.cell? ⟨gb323, 1, none⟩ = some (.int .i64 0) := (blk_cell BK323.out 1).trans rfl; have hfz9_0 := blk_frozen BK323.out 0; have hfz9_1 := blk_frozen BK323.out 1) | ((with_reducible refine gate_callee (f := 39) rfl ?_); refine goesL_ (some 10) rfl rfl Try.func39 (by kernel_rfl) rfl #[.int .i64 2000000000] rfl (by (try simp only [List.map_toArray, List.map_cons, List.map_nil]); first | done | rfl | (simp only [List.length_drop, List.length_take]; rfl)) ?_; (with_reducible refine (phase_Number.calls k 2000000000 t324 t325 _ A2.out).mono ?_); rintro e w10 ⟨rfl, hb⟩; refine ⟨_, rfl, ?_⟩; have n0_ := Aside0.mk (blk_below (g := gb323) (o := .cells #[.int .i64 t320, .int .i64 t321] 24 (0, 0)) (by (with_reducible repeat (first | refine blk_drewN ?_ _ | refine blk_drew ?_ | refine blk_alloc ?_ _)); refine blk_put (cs := #[.int .i64 t320, .int .i64 0]) ?_ 1 _ rfl; (with_reducible repeat (first | refine blk_drewN ?_ _ | refine blk_drew ?_ | refine blk_alloc ?_ _)); refine blk_put (cs := #[.int .i64 0, .int .i64 0]) ?_ 0 _ rfl; (with_reducible repeat (first | refine blk_drewN ?_ _ | refine blk_drew ?_ | refine blk_alloc ?_ _)); exact BK323.out) hb); have n1_ := Aside0.mk (below_step (by repeat (first | (with_reducible first | exact HB.out | apply below_alloc | apply pw_below_drewN | apply below_drew1 | refine below_set ?_ GE323.out) | exact HB.out)) hb); clear BK323; clear HB; have BK323 := n0_; have HB := n1_; clear n0_ n1_; (try clear hb); (try clear hb2); (try clear hk); (try clear hi); have hcz11_0 : w10.cell? ⟨gb323, 0, none⟩ = some (.int .i64 t320) := (blk_cell BK323.out 0).trans rfl; have hcz11_1 : w10.cell? ⟨gb323, 1, none⟩ = some (.int .i64 t321) := (blk_cell BK323.out 1).trans rfl; have hfz11_0 := blk_frozen BK323.out 0; have hfz11_1 := blk_frozen BK323.out 1) | (go_at_call 57; (with_reducible refine (ephemerislaw2_has.calls t320 t321 992260421 600000 true _ A4.out).mono ?_); rintro e w12 ⟨rfl, hb⟩; have n0_ := Aside0.mk (blk_below (g := gb323) (o := .cells #[.int .i64 t320, .int .i64 t321] 24 (0, 0)) (by (with_reducible repeat (first | refine blk_drewN ?_ _ | refine blk_drew ?_ | refine blk_alloc ?_ _)); exact BK323.out) hb); have n1_ := Aside0.mk (below_step (by repeat (first | (with_reducible first | exact HB.out | apply below_alloc | apply pw_below_drewN | apply below_drew1 | refine below_set ?_ GE323.out) | exact HB.out)) hb); clear BK323; clear HB; have BK323 := n0_; have HB := n1_; clear n0_ n1_; (try clear hb); (try clear hb2); (try clear hk); (try clear hi)))
        go_ret
        exact ⟨by first | rfl | (simp [errW_none, errW_some] <;> rfl) | (simp [*, errW_none, errW_some] <;> rfl), by repeat (first | (with_reducible first | exact HB.out | apply below_alloc | apply pw_below_drewN | apply below_drew1 | refine below_set ?_ GE323.out) | exact HB.out)⟩
      · rw [if_neg c6] at H
        have c6b0 : (t325 == 0) = false := beq_eq_false_iff_ne.mpr c6
        have c6b1 : (t325 != 0) = true := bne_iff_ne.mpr c6
        obtain rfl := Option.some.inj H
        exact absurd hT (by decide)
    · replace c5 := Bool.eq_false_iff.mpr c5
      subst c5
      have H1 : (some false) = some r := by rw [if_neg (show ¬ (false = true) by decide)] at H; exact H
      clear H
      have H := H1
      clear H1
      obtain rfl := Option.some.inj H
      exact absurd hT (by decide)
  · rw [if_neg c3] at H
    have c3b0 : (t322 == 0) = false := beq_eq_false_iff_ne.mpr c3
    have c3b1 : (t322 != 0) = true := bne_iff_ne.mpr c3
    obtain rfl := Option.some.inj H
    exact absurd hT (by decide)
end Go.Proofs.Ytcifakgcbgodiaa.PAll
end
section
namespace Go.Proofs.Ytcifakgcbgodiaa.PAll
open Go.RowKit Go.Proofs.YtcifakgcbgodiaaW.PrintWords Go.Proofs.YtcifakgcbgodiaaW.PrintLast Go.Proofs.YtcifakgcbgodiaaW.PrintMore Go.Proofs.Ytcifakgcbgodiaa.More2
attribute [local go_sem] max2_int min2_int max_two min_two max_three min_three max_four min_four tdiv2e18_ tdiv1e18_ cellSS_  -- for this text's walks alone
set_option linter.unusedVariables false
set_option linter.unusedSimpArgs false
def ephemerisref2_ContainsUnit.f (a0_0 : Int) (a0_1 : Int) (a1 : Int) : Option (Bool) := (ephemerisref2_Part.f 1000000000 a1).bind fun t328 => (if (wrap64 (a0_0 * 1048576)) ≤ (wrap64 (t328 + 8192)) then (some (decide (t328 ≤ (wrap64 ((wrap64 (a0_1 * 1048576)) + 8192))))) else (some false))
set_option maxHeartbeats 8000000 in
set_option maxRecDepth 100000 in
theorem ephemerisref2_ContainsUnit.calls (a0_0 : Int) (a0_1 : Int) (a1 : Int) (r : Bool) (w : World) (h : ephemerisref2_ContainsUnit.f a0_0 a0_1 a1 = some r) :
    Calls Try.prog 56 #[.agg #[.int .i64 a0_0, .int .i64 a0_1], .int .i64 a1] w fun e w' => e = .returned (.bool r) ∧ Below w.heap.size w w' := by
  have hu24 := Try.underlying24
  have HB := Aside0.mk (Below.refl w.heap.size w)
  have H : ((ephemerisref2_Part.f 1000000000 a1).bind fun t328 => (if (wrap64 (a0_0 * 1048576)) ≤ (wrap64 (t328 + 8192)) then (some (decide (t328 ≤ (wrap64 ((wrap64 (a0_1 * 1048576)) + 8192))))) else (some false))) = some r := h
  clear h
  replace H := Option.bind_eq_some_iff.mp H
  obtain ⟨t328, A30, H⟩ := H
  replace H : (if (wrap64 (a0_0 * 1048576)) ≤ (wrap64 (t328 + 8192)) then (some (decide (t328 ≤ (wrap64 ((wrap64 (a0_1 * 1048576)) + 8192))))) else (some false)) = some r := H
  have A3 := Aside0.mk A30
  clear A30
  by_cases c4 : (wrap64 (a0_0 * 1048576)) ≤ (wrap64 (t328 + 8192))
  · rw [if_pos c4] at H
    have c4b0 : decide ((wrap64 (a0_0 * 1048576)) ≤ (wrap64 (t328 + 8192))) = true := decide_eq_true c4
    clear c4
    obtain rfl := Option.some.inj H
    simp only [Option.some.injEq, Prod.mk.injEq] at H
    obtain ⟨rfl⟩ := H
    go_enter Try.func56, Try.ntmps56
    go_wp2_with (first | ((with_reducible refine gate_dst (N := 2) rfl ?_); refine box_event ?hg (N := 2) ?hd (cs := #[.int .i64 a0_0, .int .i64 a0_1]) (t := 24) ?hr ?_; (case hd => rfl); (case hg => rfl); (case hr => first | (go_simp; done) | (go_simp; rfl)); intro gb327 hg w5 hbox hb; have n0_ := Aside0.mk (below_step (by repeat (first | (with_reducible first | exact HB.out | apply below_alloc | apply pw_below_drewN | apply below_drew1) | exact HB.out)) hb); have n1_ := Aside0.mk (hbox); have n2_ := Aside0.mk ((by rw [hg]; exact (below_size (by repeat (first | (with_reducible first | exact HB.out | apply below_alloc | apply pw_below_drewN | apply below_drew1) | exact HB.out))) : w.heap.size ≤ gb327)); have n3_ := Aside0.mk ((by rw [hg]; exact (below_size (by repeat (first | (with_reducible first | exact HB.out | apply below_alloc | apply pw_below_drewN | apply below_drew1) | exact HB.out))) : w.heap.size ≤ gb327)); clear HB; have HB := n0_; have BK327 := n1_; have GW327 := n2_; have GE327 := n3_; clear n0_ n1_ n2_ n3_; clear hb hbox hg) | ((with_reducible refine gate_callee (f := 33) rfl ?_); refine goesL_ (some 7) rfl rfl Try.func33 (by kernel_rfl) rfl #[.int .i64 1000000000, .int .i64 a1] rfl (by (try simp only [List.map_toArray, List.map_cons, List.map_nil]); first | done | rfl | (simp only [List.length_drop, List.length_take]; rfl)) ?_; (with_reducible refine (ephemerisref2_Part.calls 1000000000 a1 t328 _ A3.out).mono ?_); rintro e w' ⟨rfl, ⟨nd, rfl⟩⟩; refine ⟨_, rfl, ?_⟩; have hcz6_0 : w5.cell? ⟨gb327, 0, none⟩ = some (.int .i64 a0_0) := (blk_cell BK327.out 0).trans rfl; have hcz6_1 : w5.cell? ⟨gb327, 1, none⟩ = some (.int .i64 a0_1) := (blk_cell BK327.out 1).trans rfl; have hfz6_0 := blk_frozen BK327.out 0; have hfz6_1 := blk_frozen BK327.out 1))
    go_ret
    exact ⟨by first | rfl | (simp [errW_none, errW_some] <;> rfl) | (simp [*, errW_none, errW_some] <;> rfl), by repeat (first | (with_reducible first | exact HB.out | apply below_alloc | apply pw_below_drewN | apply below_drew1 | refine below_set ?_ GE327.out) | exact HB.out)⟩
  · rw [if_neg c4] at H
    have c4b0 : decide ((wrap64 (a0_0 * 1048576)) ≤ (wrap64 (t328 + 8192))) = false := decide_eq_false c4
    clear c4
    obtain rfl := Option.some.inj H
    simp only [Option.some.injEq, Prod.mk.injEq] at H
    obtain ⟨rfl⟩ := H
    go_enter Try.func56, Try.ntmps56
    go_wp2_with (first | ((with_reducible refine gate_dst (N := 2) rfl ?_); refine box_event ?hg (N := 2) ?hd (cs := #[.int .i64 a0_0, .int .i64 a0_1]) (t := 24) ?hr ?_; (case hd => rfl); (case hg => rfl); (case hr => first | (go_simp; done) | (go_simp; rfl)); intro gb327 hg w7 hbox hb; have n0_ := Aside0.mk (below_step (by repeat (first | (with_reducible first | exact HB.out | apply below_alloc | apply pw_below_drewN | apply below_drew1) | exact HB.out)) hb); have n1_ := Aside0.mk (hbox); have n2_ := Aside0.mk ((by rw [hg]; exact (below_size (by repeat (first | (with_reducible first | exact HB.out | apply below_alloc | apply pw_below_drewN | apply below_drew1) | exact HB.out))) : w.heap.size ≤ gb327)); have n3_ := Aside0.mk ((by rw [hg]; exact (below_size (by repeat (first | (with_reducible first | exact HB.out | apply below_alloc | apply pw_below_drewN | apply below_drew1) | exact HB.out))) : w.heap.size ≤ gb327)); clear HB; have HB := n0_; have BK327 := n1_; have GW327 := n2_; have GE327 := n3_; clear n0_ n1_ n2_ n3_; clear hb hbox hg) | ((with_reducible refine gate_callee (f := 33) rfl ?_); refine goesL_ (some 7) rfl rfl Try.func33 (by kernel_rfl) rfl #[.int .i64 1000000000, .int .i64 a1] rfl (by (try simp only [List.map_toArray, List.map_cons, List.map_nil]); first | done | rfl | (simp only [List.length_drop, List.length_take]; rfl)) ?_; (with_reducible refine (ephemerisref2_Part.calls 1000000000 a1 t328 _ A3.out).mono ?_); rintro e w' ⟨rfl, ⟨nd, rfl⟩⟩; refine ⟨_, rfl, ?_⟩; have hcz8_0 : w7.cell? ⟨gb327, 0, none⟩ = some (.int .i64 a0_0) := (blk_cell BK327.out 0).trans rfl; have hcz8_1 : w7.cell? ⟨gb327, 1, none⟩ = some (.int .i64 a0_1) := (blk_cell BK327.out 1).trans rfl; have hfz8_0 := blk_frozen BK327.out 0; have hfz8_1 := blk_frozen BK327.out 1))
    go_ret
    exact ⟨by first | rfl | (simp [errW_none, errW_some] <;> rfl) | (simp [*, errW_none, errW_some] <;> rfl), by repeat (first | (with_reducible first | exact HB.out | apply below_alloc | apply pw_below_drewN | apply below_drew1 | refine below_set ?_ GE327.out) | exact HB.out)⟩
end Go.Proofs.Ytcifakgcbgodiaa.PAll
end
section
namespace Go.Proofs.Ytcifakgcbgodiaa.PAll
open Go.RowKit Go.Proofs.YtcifakgcbgodiaaW.PrintWords Go.Proofs.YtcifakgcbgodiaaW.PrintLast Go.Proofs.YtcifakgcbgodiaaW.PrintMore Go.Proofs.Ytcifakgcbgodiaa.More2
attribute [local go_sem] max2_int min2_int max_two min_two max_three min_three max_four min_four tdiv2e18_ tdiv1e18_ cellSS_  -- for this text's walks alone
set_option linter.unusedVariables false
set_option linter.unusedSimpArgs false
def ephemerislaw2_PhaseLits.f (k : Nat) (a0 : Int) (a1 : Int) (a2 : Int) : Option (Bool) := (ephemerislaw2_phaseWorks.f k).bind fun t329 => (if t329 = true then ((phase_Lit.f k a0).bind fun bt330 => ((ephemerisref2_InstantErr.f a0).bind fun t334 => (if t334 = 0 then ((ephemerislaw2_at.f a1 17).bind fun t336 => ((ephemerisref2_MoonLon.f k a0 (wrap64 (t336 - 8))).bind fun t337 => ((ephemerislaw2_at.f a2 17).bind fun t338 => ((ephemerisref2_SunLon.f k a0 (wrap64 (t338 - 8))).bind fun t339 => ((ephemerisref2_Mod.f (wrap64 (t337 - t339)) 1048576000000000).bind fun t340 => ((ephemerisref2_SinCos.f k (wrap64 ((t340 / 1048576) * 1000000))).bind fun bt341 => (if bt330.2.2 = 0 then (if bt330.1 ≥ 0 then (if bt330.2.1 ≤ 1000000000 then ((ephemerisref2_ContainsUnit.f (wrap64 (bt330.1 - 10)) (wrap64 (bt330.2.1 + 10)) (wrap64 (576460752303423488 - (wrap64 (Int.tdiv bt341.2 2))))).bind fun t343 => (if t343 = true then (some (decide ((wrap64 (bt330.2.1 - bt330.1)) ≤ 160000))) else (some false))) else (some false)) else (some false)) else (some false)))))))) else ((ephemerislaw2_none.f bt330.1 bt330.2.1 bt330.2.2 t334).bind fun t335 => (some t335))))) else (some false))
set_option maxHeartbeats 8000000 in
set_option maxRecDepth 100000 in
theorem ephemerislaw2_PhaseLits.calls (k : Nat) (a0 : Int) (a1 : Int) (a2 : Int) (r : Bool) (w : World) (h : ephemerislaw2_PhaseLits.f k a0 a1 a2 = some r) (hT : r = true) :
    Calls Try.prog 13 #[.int .i64 a0, .int .i64 a1, .int .i64 a2] w fun e w' => e = .returned (.bool r) ∧ Below w.heap.size w w' := by
  have hu24 := Try.underlying24
  have HB := Aside0.mk (Below.refl w.heap.size w)
  have H : ((ephemerislaw2_phaseWorks.f k).bind fun t329 => (if t329 = true then ((phase_Lit.f k a0).bind fun bt330 => ((ephemerisref2_InstantErr.f a0).bind fun t334 => (if t334 = 0 then ((ephemerislaw2_at.f a1 17).bind fun t336 => ((ephemerisref2_MoonLon.f k a0 (wrap64 (t336 - 8))).bind fun t337 => ((ephemerislaw2_at.f a2 17).bind fun t338 => ((ephemerisref2_SunLon.f k a0 (wrap64 (t338 - 8))).bind fun t339 => ((ephemerisref2_Mod.f (wrap64 (t337 - t339)) 1048576000000000).bind fun t340 => ((ephemerisref2_SinCos.f k (wrap64 ((t340 / 1048576) * 1000000))).bind fun bt341 => (if bt330.2.2 = 0 then (if bt330.1 ≥ 0 then (if bt330.2.1 ≤ 1000000000 then ((ephemerisref2_ContainsUnit.f (wrap64 (bt330.1 - 10)) (wrap64 (bt330.2.1 + 10)) (wrap64 (576460752303423488 - (wrap64 (Int.tdiv bt341.2 2))))).bind fun t343 => (if t343 = true then (some (decide ((wrap64 (bt330.2.1 - bt330.1)) ≤ 160000))) else (some false))) else (some false)) else (some false)) else (some false)))))))) else ((ephemerislaw2_none.f bt330.1 bt330.2.1 bt330.2.2 t334).bind fun t335 => (some t335))))) else (some false))) = some r := h
  clear h
  replace H := Option.bind_eq_some_iff.mp H
  obtain ⟨t329, A40, H⟩ := H
  replace H : (if t329 = true then ((phase_Lit.f k a0).bind fun bt330 => ((ephemerisref2_InstantErr.f a0).bind fun t334 => (if t334 = 0 then ((ephemerislaw2_at.f a1 17).bind fun t336 => ((ephemerisref2_MoonLon.f k a0 (wrap64 (t336 - 8))).bind fun t337 => ((ephemerislaw2_at.f a2 17).bind fun t338 => ((ephemerisref2_SunLon.f k a0 (wrap64 (t338 - 8))).bind fun t339 => ((ephemerisref2_Mod.f (wrap64 (t337 - t339)) 1048576000000000).bind fun t340 => ((ephemerisref2_SinCos.f k (wrap64 ((t340 / 1048576) * 1000000))).bind fun bt341 => (if bt330.2.2 = 0 then (if bt330.1 ≥ 0 then (if bt330.2.1 ≤ 1000000000 then ((ephemerisref2_ContainsUnit.f (wrap64 (bt330.1 - 10)) (wrap64 (bt330.2.1 + 10)) (wrap64 (576460752303423488 - (wrap64 (Int.tdiv bt341.2 2))))).bind fun t343 => (if t343 = true then (some (decide ((wrap64 (bt330.2.1 - bt330.1)) ≤ 160000))) else (some false))) else (some false)) else (some false)) else (some false)))))))) else ((ephemerislaw2_none.f bt330.1 bt330.2.1 bt330.2.2 t334).bind fun t335 => (some t335))))) else (some false)) = some r := H
  have A4 := Aside0.mk A40
  clear A40
  by_cases c5 : t329 = true
  · subst c5
    have H1 : ((phase_Lit.f k a0).bind fun bt330 => ((ephemerisref2_InstantErr.f a0).bind fun t334 => (if t334 = 0 then ((ephemerislaw2_at.f a1 17).bind fun t336 => ((ephemerisref2_MoonLon.f k a0 (wrap64 (t336 - 8))).bind fun t337 => ((ephemerislaw2_at.f a2 17).bind fun t338 => ((ephemerisref2_SunLon.f k a0 (wrap64 (t338 - 8))).bind fun t339 => ((ephemerisref2_Mod.f (wrap64 (t337 - t339)) 1048576000000000).bind fun t340 => ((ephemerisref2_SinCos.f k (wrap64 ((t340 / 1048576) * 1000000))).bind fun bt341 => (if bt330.2.2 = 0 then (if bt330.1 ≥ 0 then (if bt330.2.1 ≤ 1000000000 then ((ephemerisref2_ContainsUnit.f (wrap64 (bt330.1 - 10)) (wrap64 (bt330.2.1 + 10)) (wrap64 (576460752303423488 - (wrap64 (Int.tdiv bt341.2 2))))).bind fun t343 => (if t343 = true then (some (decide ((wrap64 (bt330.2.1 - bt330.1)) ≤ 160000))) else (some false))) else (some false)) else (some false)) else (some false)))))))) else ((ephemerislaw2_none.f bt330.1 bt330.2.1 bt330.2.2 t334).bind fun t335 => (some t335))))) = some r := by rw [if_pos rfl] at H; exact H
    clear H
    have H := H1
    clear H1
    replace H := Option.bind_eq_some_iff.mp H
    obtain ⟨⟨t330, t331, t332⟩, A60, H⟩ := H
    replace H : ((ephemerisref2_InstantErr.f a0).bind fun t334 => (if t334 = 0 then ((ephemerislaw2_at.f a1 17).bind fun t336 => ((ephemerisref2_MoonLon.f k a0 (wrap64 (t336 - 8))).bind fun t337 => ((ephemerislaw2_at.f a2 17).bind fun t338 => ((ephemerisref2_SunLon.f k a0 (wrap64 (t338 - 8))).bind fun t339 => ((ephemerisref2_Mod.f (wrap64 (t337 - t339)) 1048576000000000).bind fun t340 => ((ephemerisref2_SinCos.f k (wrap64 ((t340 / 1048576) * 1000000))).bind fun bt341 => (if t332 = 0 then (if t330 ≥ 0 then (if t331 ≤ 1000000000 then ((ephemerisref2_ContainsUnit.f (wrap64 (t330 - 10)) (wrap64 (t331 + 10)) (wrap64 (576460752303423488 - (wrap64 (Int.tdiv bt341.2 2))))).bind fun t343 => (if t343 = true then (some (decide ((wrap64 (t331 - t330)) ≤ 160000))) else (some false))) else (some false)) else (some false)) else (some false)))))))) else ((ephemerislaw2_none.f t330 t331 t332 t334).bind fun t335 => (some t335)))) = some r := H
    have A6 := Aside0.mk A60
    clear A60
    replace H := Option.bind_eq_some_iff.mp H
    obtain ⟨t334, A70, H⟩ := H
    replace H : (if t334 = 0 then ((ephemerislaw2_at.f a1 17).bind fun t336 => ((ephemerisref2_MoonLon.f k a0 (wrap64 (t336 - 8))).bind fun t337 => ((ephemerislaw2_at.f a2 17).bind fun t338 => ((ephemerisref2_SunLon.f k a0 (wrap64 (t338 - 8))).bind fun t339 => ((ephemerisref2_Mod.f (wrap64 (t337 - t339)) 1048576000000000).bind fun t340 => ((ephemerisref2_SinCos.f k (wrap64 ((t340 / 1048576) * 1000000))).bind fun bt341 => (if t332 = 0 then (if t330 ≥ 0 then (if t331 ≤ 1000000000 then ((ephemerisref2_ContainsUnit.f (wrap64 (t330 - 10)) (wrap64 (t331 + 10)) (wrap64 (576460752303423488 - (wrap64 (Int.tdiv bt341.2 2))))).bind fun t343 => (if t343 = true then (some (decide ((wrap64 (t331 - t330)) ≤ 160000))) else (some false))) else (some false)) else (some false)) else (some false)))))))) else ((ephemerislaw2_none.f t330 t331 t332 t334).bind fun t335 => (some t335))) = some r := H
    have A7 := Aside0.mk A70
    clear A70
    have HC8 := Aside0.mk H
    clear H
    go_enter Try.func13, Try.ntmps13
    go_upto_if 23 with (first | ((with_reducible refine gate_callee (f := 54) rfl ?_); refine goesL_ (some 13) rfl rfl Try.func54 (by kernel_rfl) rfl #[] rfl (by (try simp only [List.map_toArray, List.map_cons, List.map_nil]); first | done | rfl | (simp only [List.length_drop, List.length_take]; rfl)) ?_; (with_reducible refine (ephemerislaw2_phaseWorks.calls k  true _ A4.out rfl).mono ?_); rintro e w9 ⟨rfl, hb⟩; refine ⟨_, rfl, ?_⟩; have n0_ := Aside0.mk (below_step (by repeat (first | (with_reducible first | exact HB.out | apply below_alloc | apply pw_below_drewN | apply below_drew1) | exact HB.out)) hb); clear HB; have HB := n0_; clear n0_; (try clear hb); (try clear hb2); (try clear hk); (try clear hi)) | ((with_reducible refine gate_callee (f := 40) rfl ?_); refine goesL_ (some 17) rfl rfl Try.func40 (by kernel_rfl) rfl #[.int .i64 a0] rfl (by (try simp only [List.map_toArray, List.map_cons, List.map_nil]); first | done | rfl | (simp only [List.length_drop, List.length_take]; rfl)) ?_; (with_reducible refine (phase_Lit.calls k a0 t330 t331 t332 _ A6.out).mono ?_); rintro e w10 ⟨rfl, hb⟩; refine ⟨_, rfl, ?_⟩; have n0_ := Aside0.mk (below_step (by repeat (first | (with_reducible first | exact HB.out | apply below_alloc | apply pw_below_drewN | apply below_drew1) | exact HB.out)) hb); clear HB; have HB := n0_; clear n0_; (try clear hb); (try clear hb2); (try clear hk); (try clear hi)) | ((with_reducible refine gate_dst (N := 7) rfl ?_); refine box_event ?hg (N := 7) ?hd (cs := #[.int .i64 0, .int .i64 0]) (t := 24) ?hr ?_; (case hd => rfl); (case hg => rfl); (case hr => first | (go_simp; done) | (go_simp; rfl)); intro gb333 hg w11 hbox hb; have n0_ := Aside0.mk (below_step (by repeat (first | (with_reducible first | exact HB.out | apply below_alloc | apply pw_below_drewN | apply below_drew1) | exact HB.out)) hb); have n1_ := Aside0.mk (hbox); have n2_ := Aside0.mk ((by rw [hg]; exact (below_size (by repeat (first | (with_reducible first | exact HB.out | apply below_alloc | apply pw_below_drewN | apply below_drew1) | exact HB.out))) : w.heap.size ≤ gb333)); have n3_ := Aside0.mk ((by rw [hg]; exact (below_size (by repeat (first | (with_reducible first | exact HB.out | apply below_alloc | apply pw_below_drewN | apply below_drew1) | exact HB.out))) : w.heap.size ≤ gb333)); clear HB; have HB := n0_; have BK333 := n1_; have GW333 := n2_; have GE333 := n3_; clear n0_ n1_ n2_ n3_; clear hb hbox hg; have hcz12_0 : w11.cell? ⟨gb333, 0, none⟩ = some (.int .i64 0) := (blk_cell BK333.out 0).trans rfl; have hcz12_1 : w11.cell? ⟨gb333, 1, none⟩ = some (.int .i64 0) := (blk_cell BK333.out 1).trans rfl; have hfz12_0 := blk_frozen BK333.out 0; have hfz12_1 := blk_frozen BK333.out 1) | ((with_reducible refine gate_callee (f := 17) rfl ?_); refine goesL_ (some 21) rfl rfl Try.func17 (by kernel_rfl) rfl #[.int .i64 a0] rfl (by (try simp only [List.map_toArray, List.map_cons, List.map_nil]); first | done | rfl | (simp only [List.length_drop, List.length_take]; rfl)) ?_; (with_reducible refine (ephemerisref2_InstantErr.calls a0 t334 _ A7.out).mono ?_); rintro e w' ⟨rfl, ⟨nd, rfl⟩⟩; refine ⟨_, rfl, ?_⟩))
    (try simp only [Act.put, List.setIfInBounds_toArray, List.set_cons_zero, List.set_cons_succ])
    have H := HC8.out
    clear HC8
    by_cases c13 : t334 = 0
    · rw [if_pos c13] at H
      have c13b0 : (t334 == 0) = true := beq_iff_eq.mpr c13
      have c13b1 : (t334 != 0) = false := bne_eq_false_iff_eq.mpr c13
      clear c13
      (first | rw [c13b0] | (simp only [i64_w, i32_w]; rw [c13b0]) | skip)
      replace H := Option.bind_eq_some_iff.mp H
      obtain ⟨t336, A140, H⟩ := H
      replace H : ((ephemerisref2_MoonLon.f k a0 (wrap64 (t336 - 8))).bind fun t337 => ((ephemerislaw2_at.f a2 17).bind fun t338 => ((ephemerisref2_SunLon.f k a0 (wrap64 (t338 - 8))).bind fun t339 => ((ephemerisref2_Mod.f (wrap64 (t337 - t339)) 1048576000000000).bind fun t340 => ((ephemerisref2_SinCos.f k (wrap64 ((t340 / 1048576) * 1000000))).bind fun bt341 => (if t332 = 0 then (if t330 ≥ 0 then (if t331 ≤ 1000000000 then ((ephemerisref2_ContainsUnit.f (wrap64 (t330 - 10)) (wrap64 (t331 + 10)) (wrap64 (576460752303423488 - (wrap64 (Int.tdiv bt341.2 2))))).bind fun t343 => (if t343 = true then (some (decide ((wrap64 (t331 - t330)) ≤ 160000))) else (some false))) else (some false)) else (some false)) else (some false))))))) = some r := H
      have A14 := Aside0.mk A140
      clear A140
      replace H := Option.bind_eq_some_iff.mp H
      obtain ⟨t337, A150, H⟩ := H
      replace H : ((ephemerislaw2_at.f a2 17).bind fun t338 => ((ephemerisref2_SunLon.f k a0 (wrap64 (t338 - 8))).bind fun t339 => ((ephemerisref2_Mod.f (wrap64 (t337 - t339)) 1048576000000000).bind fun t340 => ((ephemerisref2_SinCos.f k (wrap64 ((t340 / 1048576) * 1000000))).bind fun bt341 => (if t332 = 0 then (if t330 ≥ 0 then (if t331 ≤ 1000000000 then ((ephemerisref2_ContainsUnit.f (wrap64 (t330 - 10)) (wrap64 (t331 + 10)) (wrap64 (576460752303423488 - (wrap64 (Int.tdiv bt341.2 2))))).bind fun t343 => (if t343 = true then (some (decide ((wrap64 (t331 - t330)) ≤ 160000))) else (some false))) else (some false)) else (some false)) else (some false)))))) = some r := H
      have A15 := Aside0.mk A150
      clear A150
      replace H := Option.bind_eq_some_iff.mp H
      obtain ⟨t338, A160, H⟩ := H
      replace H : ((ephemerisref2_SunLon.f k a0 (wrap64 (t338 - 8))).bind fun t339 => ((ephemerisref2_Mod.f (wrap64 (t337 - t339)) 1048576000000000).bind fun t340 => ((ephemerisref2_SinCos.f k (wrap64 ((t340 / 1048576) * 1000000))).bind fun bt341 => (if t332 = 0 then (if t330 ≥ 0 then (if t331 ≤ 1000000000 then ((ephemerisref2_ContainsUnit.f (wrap64 (t330 - 10)) (wrap64 (t331 + 10)) (wrap64 (576460752303423488 - (wrap64 (Int.tdiv bt341.2 2))))).bind fun t343 => (if t343 = true then (some (decide ((wrap64 (t331 - t330)) ≤ 160000))) else (some false))) else (some false)) else (some false)) else (some false))))) = some r := H
      have A16 := Aside0.mk A160
      clear A160
      replace H := Option.bind_eq_some_iff.mp H
      obtain ⟨t339, A170, H⟩ := H
      replace H : ((ephemerisref2_Mod.f (wrap64 (t337 - t339)) 1048576000000000).bind fun t340 => ((ephemerisref2_SinCos.f k (wrap64 ((t340 / 1048576) * 1000000))).bind fun bt341 => (if t332 = 0 then (if t330 ≥ 0 then (if t331 ≤ 1000000000 then ((ephemerisref2_ContainsUnit.f (wrap64 (t330 - 10)) (wrap64 (t331 + 10)) (wrap64 (576460752303423488 - (wrap64 (Int.tdiv bt341.2 2))))).bind fun t343 => (if t343 = true then (some (decide ((wrap64 (t331 - t330)) ≤ 160000))) else (some false))) else (some false)) else (some false)) else (some false)))) = some r := H
      have A17 := Aside0.mk A170
      clear A170
      replace H := Option.bind_eq_some_iff.mp H
      obtain ⟨t340, A180, H⟩ := H
      replace H : ((ephemerisref2_SinCos.f k (wrap64 ((t340 / 1048576) * 1000000))).bind fun bt341 => (if t332 = 0 then (if t330 ≥ 0 then (if t331 ≤ 1000000000 then ((ephemerisref2_ContainsUnit.f (wrap64 (t330 - 10)) (wrap64 (t331 + 10)) (wrap64 (576460752303423488 - (wrap64 (Int.tdiv bt341.2 2))))).bind fun t343 => (if t343 = true then (some (decide ((wrap64 (t331 - t330)) ≤ 160000))) else (some false))) else (some false)) else (some false)) else (some false))) = some r := H
      have A18 := Aside0.mk A180
      clear A180
      replace H := Option.bind_eq_some_iff.mp H
      obtain ⟨⟨t341, t342⟩, A190, H⟩ := H
      replace H : (if t332 = 0 then (if t330 ≥ 0 then (if t331 ≤ 1000000000 then ((ephemerisref2_ContainsUnit.f (wrap64 (t330 - 10)) (wrap64 (t331 + 10)) (wrap64 (576460752303423488 - (wrap64 (Int.tdiv t342 2))))).bind fun t343 => (if t343 = true then (some (decide ((wrap64 (t331 - t330)) ≤ 160000))) else (some false))) else (some false)) else (some false)) else (some false)) = some r := H
      have A19 := Aside0.mk A190
      clear A190
      by_cases c20 : t332 = 0
      · rw [if_pos c20] at H
        have c20b0 : (t332 == 0) = true := beq_iff_eq.mpr c20
        have c20b1 : (t332 != 0) = false := bne_eq_false_iff_eq.mpr c20
        clear c20
        by_cases c21 : t330 ≥ 0
        · rw [if_pos c21] at H
          have c21b0 : decide (0 ≤ t330) = true := decide_eq_true c21
          clear c21
          by_cases c22 : t331 ≤ 1000000000
          · rw [if_pos c22] at H
            have c22b0 : decide (t331 ≤ 1000000000) = true := decide_eq_true c22
            clear c22
            replace H := Option.bind_eq_some_iff.mp H
            obtain ⟨t343, A230, H⟩ := H
            replace H : (if t343 = true then (some (decide ((wrap64 (t331 - t330)) ≤ 160000))) else (some false)) = some r := H
            have A23 := Aside0.mk A230
            clear A230
            by_cases c24 : t343 = true
            · subst c24
              have H1 : (some (decide ((wrap64 (t331 - t330)) ≤ 160000))) = some r := by rw [if_pos rfl] at H; exact H
              clear H
              have H := H1
              clear H1
              obtain rfl := Option.some.inj H
              simp only [Option.some.injEq, Prod.mk.injEq] at H
              obtain ⟨rfl⟩ := H
              go_wp2_with (first | ((with_reducible refine gate_callee (f := 19) rfl ?_); refine goesL_ (some 30) rfl rfl Try.func19 (by kernel_rfl) rfl #[.int .i64 a1, .int .i64 17] rfl (by (try simp only [List.map_toArray, List.map_cons, List.map_nil]); first | done | rfl | (simp only [List.length_drop, List.length_take]; rfl)) ?_; (with_reducible refine (ephemerislaw2_at.calls a1 17 t336 _ A14.out).mono ?_); rintro e w' ⟨rfl, ⟨nd, rfl⟩⟩; refine ⟨_, rfl, ?_⟩) | ((with_reducible refine gate_callee (f := 21) rfl ?_); refine goesL_ (some 32) rfl rfl Try.func21 (by kernel_rfl) rfl #[.int .i64 a0, .int .i64 (wrap64 (t336 - 8))] rfl (by (try simp only [List.map_toArray, List.map_cons, List.map_nil]); first | done | rfl | (simp only [List.length_drop, List.length_take]; rfl)) ?_; (with_reducible refine (ephemerisref2_MoonLon.calls k a0 (wrap64 (t336 - 8)) t337 _ A15.out).mono ?_); rintro e w25 ⟨rfl, hb⟩; refine ⟨_, rfl, ?_⟩; have n0_ := Aside0.mk (blk_below (g := gb333) (o := .cells #[.int .i64 t330, .int .i64 t331] 24 (0, 0)) (by (with_reducible repeat (first | refine blk_drewN ?_ _ | refine blk_drew ?_ | refine blk_alloc ?_ _)); refine blk_put (cs := #[.int .i64 t330, .int .i64 0]) ?_ 1 _ rfl; (with_reducible repeat (first | refine blk_drewN ?_ _ | refine blk_drew ?_ | refine blk_alloc ?_ _)); refine blk_put (cs := #[.int .i64 0, .int .i64 0]) ?_ 0 _ rfl; (with_reducible repeat (first | refine blk_drewN ?_ _ | refine blk_drew ?_ | refine blk_alloc ?_ _)); exact BK333.out) hb); have n1_ := Aside0.mk (below_step (by repeat (first | (with_reducible first | exact HB.out | apply below_alloc | apply pw_below_drewN | apply below_drew1 | refine below_set ?_ GE333.out) | exact HB.out)) hb); clear BK333; clear HB; have BK333 := n0_; have HB := n1_; clear n0_ n1_; (try clear hb); (try clear hb2); (try clear hk); (try clear hi)) | ((with_reducible refine gate_callee (f := 19) rfl ?_); refine goesL_ (some 35) rfl rfl Try.func19 (by kernel_rfl) rfl #[.int .i64 a2, .int .i64 17] rfl (by (try simp only [List.map_toArray, List.map_cons, List.map_nil]); first | done | rfl | (simp only [List.length_drop, List.length_take]; rfl)) ?_; (with_reducible refine (ephemerislaw2_at.calls a2 17 t338 _ A16.out).mono ?_); rintro e w' ⟨rfl, ⟨nd, rfl⟩⟩; refine ⟨_, rfl, ?_⟩) | ((with_reducible refine gate_callee (f := 26) rfl ?_); refine goesL_ (some 37) rfl rfl Try.func26 (by kernel_rfl) rfl #[.int .i64 a0, .int .i64 (wrap64 (t338 - 8))] rfl (by (try simp only [List.map_toArray, List.map_cons, List.map_nil]); first | done | rfl | (simp only [List.length_drop, List.length_take]; rfl)) ?_; (with_reducible refine (ephemerisref2_SunLon.calls k a0 (wrap64 (t338 - 8)) t339 _ A17.out).mono ?_); rintro e w26 ⟨rfl, hb⟩; refine ⟨_, rfl, ?_⟩; have n0_ := Aside0.mk (blk_below (g := gb333) (o := .cells #[.int .i64 t330, .int .i64 t331] 24 (0, 0)) (by (with_reducible repeat (first | refine blk_drewN ?_ _ | refine blk_drew ?_ | refine blk_alloc ?_ _)); exact BK333.out) hb); have n1_ := Aside0.mk (below_step (by repeat (first | (with_reducible first | exact HB.out | apply below_alloc | apply pw_below_drewN | apply below_drew1 | refine below_set ?_ GE333.out) | exact HB.out)) hb); clear BK333; clear HB; have BK333 := n0_; have HB := n1_; clear n0_ n1_; (try clear hb); (try clear hb2); (try clear hk); (try clear hi)) | ((with_reducible refine gate_callee (f := 25) rfl ?_); refine goesL_ (some 39) rfl rfl Try.func25 (by kernel_rfl) rfl #[.int .i64 (wrap64 (t337 - t339)), .int .i64 1048576000000000] rfl (by (try simp only [List.map_toArray, List.map_cons, List.map_nil]); first | done | rfl | (simp only [List.length_drop, List.length_take]; rfl)) ?_; (with_reducible refine (ephemerisref2_Mod.calls (wrap64 (t337 - t339)) 1048576000000000 t340 _ A18.out).mono ?_); rintro e w' ⟨rfl, ⟨nd, rfl⟩⟩; refine ⟨_, rfl, ?_⟩) | ((with_reducible refine gate_callee (f := 31) rfl ?_); refine goesL_ (some 44) rfl rfl Try.func31 (by kernel_rfl) rfl #[.int .i64 (wrap64 ((t340 / 1048576) * 1000000))] rfl (by (try simp only [List.map_toArray, List.map_cons, List.map_nil]); first | done | rfl | (simp only [List.length_drop, List.length_take]; rfl)) ?_; (with_reducible refine (ephemerisref2_SinCos.calls k (wrap64 ((t340 / 1048576) * 1000000)) t341 t342 _ A19.out).mono ?_); rintro e w' ⟨rfl, ⟨nd, rfl⟩⟩; refine ⟨_, rfl, ?_⟩; have hcz27_0 : w26.cell? ⟨gb333, 0, none⟩ = some (.int .i64 t330) := (blk_cell BK333.out 0).trans rfl; have hcz27_1 : w26.cell? ⟨gb333, 1, none⟩ = some (.int .i64 t331) := (blk_cell BK333.out 1).trans rfl; have hfz27_0 := blk_frozen BK333.out 0; have hfz27_1 := blk_frozen BK333.out 1) | (go_at_call 56; (with_reducible refine (ephemerisref2_ContainsUnit.calls (wrap64 (t330 - 10)) (wrap64 (t331 + 10)) (wrap64 (576460752303423488 - (wrap64 (Int.tdiv t342 2)))) true _ A23.out).mono ?_); rintro e w28 ⟨rfl, hb⟩; have n0_ := Aside0.mk (blk_below (g := gb333) (o := .cells #[.int .i64 t330, .int .i64 t331] 24 (0, 0)) (by (with_reducible repeat (first | refine blk_drewN ?_ _ | refine blk_drew ?_ | refine blk_alloc ?_ _)); exact BK333.out) hb); have n1_ := Aside0.mk (below_step (by repeat (first | (with_reducible first | exact HB.out | apply below_alloc | apply pw_below_drewN | apply below_drew1 | refine below_set ?_ GE333.out) | exact HB.out)) hb); clear BK333; clear HB; have BK333 := n0_; have HB := n1_; clear n0_ n1_; (try clear hb); (try clear hb2); (try clear hk); (try clear hi); have hcz29_0 : w28.cell? ⟨gb333, 0, none⟩ = some (.int .i64 t330) := (blk_cell BK333.out 0).trans rfl; have hcz29_1 : w28.cell? ⟨gb333, 1, none⟩ = some (.int .i64 t331) := (blk_cell BK333.out 1).trans rfl; have hfz29_0 := blk_frozen BK333.out 0; have hfz29_1 := blk_frozen BK333.out 1))
              go_ret
              exact ⟨by first | rfl | (simp [errW_none, errW_some] <;> rfl) | (simp [*, errW_none, errW_some] <;> rfl), by repeat (first | (with_reducible first | exact HB.out | apply below_alloc | apply pw_below_drewN | apply below_drew1 | refine below_set ?_ GE333.out) | exact HB.out)⟩
            · replace c24 := Bool.eq_false_iff.mpr c24
              subst c24
              have H1 : (some false) = some r := by rw [if_neg (show ¬ (false = true) by decide)] at H; exact H
              clear H
              have H := H1
              clear H1
              obtain rfl := Option.some.inj H
              exact absurd hT (by decide)
          · rw [if_neg c22] at H
            have c22b0 : decide (t331 ≤ 1000000000) = false := decide_eq_false c22
            clear c22
            obtain rfl := Option.some.inj H
            exact absurd hT (by decide)
        · rw [if_neg c21] at H
          have c21b0 : decide (0 ≤ t330) = false := decide_eq_false c21
          clear c21
          obtain rfl := Option.some.inj H
          exact absurd hT (by decide)
      · rw [if_neg c20] at H
        have c20b0 : (t332 == 0) = false := beq_eq_false_iff_ne.mpr c20
        have c20b1 : (t332 != 0) = true := bne_iff_ne.mpr c20
        obtain rfl := Option.some.inj H
        exact absurd hT (by decide)
    · rw [if_neg c13] at H
      have c13b0 : (t334 == 0) = false := beq_eq_false_iff_ne.mpr c13
      have c13b1 : (t334 != 0) = true := bne_iff_ne.mpr c13
      (first | rw [c13b0] | (simp only [i64_w, i32_w]; rw [c13b0]) | skip)
      replace H := Option.bind_eq_some_iff.mp H
      obtain ⟨t335, A300, H⟩ := H
      replace H : (some t335) = some r := H
      have A30 := Aside0.mk A300
      clear A300
      obtain rfl := Option.some.inj H
      simp only [Option.some.injEq, Prod.mk.injEq] at H
      obtain ⟨rfl⟩ := H
      have hcz31_0 : w11.cell? ⟨gb333, 0, none⟩ = some (.int .i64 0) := (blk_cell BK333.out 0).trans rfl
      have hcz31_1 : w11.cell? ⟨gb333, 1, none⟩ = some (.int .i64 0) := (blk_cell BK333.out 1).trans rfl
      have hfz31_0 := blk_frozen BK333.out 0
      have hfz31_1 := blk_frozen BK333.out 1
      go_wp2_with (first | ((with_reducible refine gate_callee (f := 18) rfl ?_); refine goesL_ (some 27) rfl rfl Try.func18 (by kernel_rfl) rfl #[.agg #[.int .i64 t330, .int .i64 t331], .int .i64 t332, .int .i64 t334] rfl (by (try simp only [List.map_toArray, List.map_cons, List.map_nil]); first | done | rfl | (simp only [List.length_drop, List.length_take]; rfl)) ?_; (with_reducible refine (ephemerislaw2_none.calls t330 t331 t332 t334 t335 _ A30.out).mono ?_); rintro e w32 ⟨rfl, hb⟩; refine ⟨_, rfl, ?_⟩; have n0_ := Aside0.mk (blk_below (g := gb333) (o := .cells #[.int .i64 t330, .int .i64 t331] 24 (0, 0)) (by (with_reducible repeat (first | refine blk_drewN ?_ _ | refine blk_drew ?_ | refine blk_alloc ?_ _)); refine blk_put (cs := #[.int .i64 t330, .int .i64 0]) ?_ 1 _ rfl; (with_reducible repeat (first | refine blk_drewN ?_ _ | refine blk_drew ?_ | refine blk_alloc ?_ _)); refine blk_put (cs := #[.int .i64 0, .int .i64 0]) ?_ 0 _ rfl; (with_reducible repeat (first | refine blk_drewN ?_ _ | refine blk_drew ?_ | refine blk_alloc ?_ _)); exact BK333.out) hb); have n1_ := Aside0.mk (below_step (by repeat (first | (with_reducible first | exact HB.out | apply below_alloc | apply pw_below_drewN | apply below_drew1 | refine below_set ?_ GE333.out) | exact HB.out)) hb); clear BK333; clear HB; have BK333 := n0_; have HB := n1_; clear n0_ n1_; (try clear hb); (try clear hb2); (try clear hk); (try clear hi)))
      go_ret
      exact ⟨by first | rfl | (simp [errW_none, errW_some] <;> rfl) | (simp [*, errW_none, errW_some] <;> rfl), by repeat (first | (with_reducible first | exact HB.out | apply below_alloc | apply pw_below_drewN | apply below_drew1 | refine below_set ?_ GE333.out) | exact HB.out)⟩
  · replace c5 := Bool.eq_false_iff.mpr c5
    subst c5
    have H1 : (some false) = some r := by rw [if_neg (show ¬ (false = true) by decide)] at H; exact H
    clear H
    have H := H1
    clear H1
    obtain rfl := Option.some.inj H
    exact absurd hT (by decide)
/-- THE ONE PURE STATEMENT of ephemerislaw2_PhaseLits: yours. -/
def ephemerislaw2_PhaseLits.Pure : Prop := ∀ (a0 : Int) (a1 : Int) (a2 : Int), (Lit.int .i64 a0).wf = true → (Lit.int .i64 a1).wf = true → (Lit.int .i64 a2).wf = true → ∃ k, ephemerislaw2_PhaseLits.f k a0 a1 a2 = some true
theorem ephemerislaw2_PhaseLits.walk (P : ephemerislaw2_PhaseLits.Pure) (a0 : Int) (a1 : Int) (a2 : Int) (w : World) (w0 : (Lit.int .i64 a0).wf = true) (w1 : (Lit.int .i64 a1).wf = true) (w2 : (Lit.int .i64 a2).wf = true) :
    Calls Try.prog 13 #[.int .i64 a0, .int .i64 a1, .int .i64 a2] w fun e w' => e = .returned (.bool true) ∧ Below w.heap.size w w' := by
  obtain ⟨k, h⟩ := P a0 a1 a2 w0 w1 w2
  refine (ephemerislaw2_PhaseLits.calls k a0 a1 a2 true w h rfl).mono ?_
  rintro e w' ⟨rfl, hd⟩
  exact ⟨rfl, hd⟩
end Go.Proofs.Ytcifakgcbgodiaa.PAll
end
