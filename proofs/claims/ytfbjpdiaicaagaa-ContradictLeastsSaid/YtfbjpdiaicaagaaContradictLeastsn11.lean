/- Written by a program of this session out of the translation. -/
import Derived.Test.YtfbjpdiaicaagaaContradictLeastsn3
import Derived.Test.YtfbjpdiaicaagaaContradictLeastsn9
import Derived.Test.YtfbjpdiaicaagaaContradictLeastsn10
namespace Go.Proofs.Ytfbjpdiaicaagaa.PAll
open Go.RowKit Go.Proofs.YtfbjpdiaicaagaaW.PrintWords Go.Proofs.YtfbjpdiaicaagaaW.PrintLast Go.Proofs.YtfbjpdiaicaagaaW.PrintMore Go.Proofs.Ytfbjpdiaicaagaa.More2
attribute [local go_sem] max2_int min2_int max_two min_two max_three min_three max_four min_four tdiv2e18_ tdiv1e18_ cellSS_  -- for this text's walks alone
set_option linter.unusedVariables false
set_option linter.unusedSimpArgs false
def ephemerislaw2_contradictWorks.f (k : Nat)  : Option (Bool) := (ephemerislaw2_three.f).bind fun t319 => (if t319.length < 4398046511104 then ((contradict_Least.f k 3 (t319 ++ [(⟨0, 2, 30, 40⟩ : S43)])).bind fun bt325 => ((ephemerislaw2_three.f).bind fun t329 => (if t329.length < 4398046511104 then ((contradict_Implied.f k 3 (t329 ++ [(⟨0, 2, 0, 40⟩ : S43)]) 2).bind fun bt335 => (if bt325.2 = 0 then (if (bt325.1.length : Int) = 3 then (if bt335.2 = 0 then (some bt335.1) else (some false)) else (some false)) else (some false))) else (none)))) else (none))
theorem ephemerislaw2_contradictWorks.mono : ∀ k, LeO (ephemerislaw2_contradictWorks.f k ) (ephemerislaw2_contradictWorks.f (k + 1) ) := by
  intro  k
  unfold ephemerislaw2_contradictWorks.f
  repeat' first
      | (with_reducible exact contradict_Implied.mono _ _ _ _)
      | (with_reducible exact contradict_Least.mono _ _ _)
      | (with_reducible exact LeO.refl _)
      | (with_reducible exact LeO.none _)
      | (with_reducible refine LeO.ite ?_ ?_)
      | (with_reducible refine LeO.bind ?_ (fun _ => ?_))
      | exact contradict_Implied.mono _ _ _ _
      | exact contradict_Least.mono _ _ _
      | exact LeO.none _
      | refine LeO.ite ?_ ?_
      | refine LeO.bind ?_ (fun _ => ?_)
set_option maxHeartbeats 8000000 in
set_option maxRecDepth 100000 in
theorem ephemerislaw2_contradictWorks.calls (k : Nat)  (r : Bool) (w : World) (h : ephemerislaw2_contradictWorks.f k  = some r) (hT : r = true) :
    Calls Try.prog 19 #[] w fun e w' => e = .returned (.bool r) ∧ Below w.heap.size w w' := by
  have hu43 := Try.underlying43
  have HB := Aside0.mk (Below.refl w.heap.size w)
  have H : ((ephemerislaw2_three.f).bind fun t319 => (if t319.length < 4398046511104 then ((contradict_Least.f k 3 (t319 ++ [(⟨0, 2, 30, 40⟩ : S43)])).bind fun bt325 => ((ephemerislaw2_three.f).bind fun t329 => (if t329.length < 4398046511104 then ((contradict_Implied.f k 3 (t329 ++ [(⟨0, 2, 0, 40⟩ : S43)]) 2).bind fun bt335 => (if bt325.2 = 0 then (if (bt325.1.length : Int) = 3 then (if bt335.2 = 0 then (some bt335.1) else (some false)) else (some false)) else (some false))) else (none)))) else (none))) = some r := h
  clear h
  replace H := Option.bind_eq_some_iff.mp H
  obtain ⟨t319, A10, H⟩ := H
  replace H : (if t319.length < 4398046511104 then ((contradict_Least.f k 3 (t319 ++ [(⟨0, 2, 30, 40⟩ : S43)])).bind fun bt325 => ((ephemerislaw2_three.f).bind fun t329 => (if t329.length < 4398046511104 then ((contradict_Implied.f k 3 (t329 ++ [(⟨0, 2, 0, 40⟩ : S43)]) 2).bind fun bt335 => (if bt325.2 = 0 then (if (bt325.1.length : Int) = 3 then (if bt335.2 = 0 then (some bt335.1) else (some false)) else (some false)) else (some false))) else (none)))) else (none)) = some r := H
  have A1 := Aside0.mk A10
  clear A10
  by_cases c2 : t319.length < 4398046511104
  · rw [if_pos c2] at H
    have LMc2 := Aside0.mk c2
    clear c2
    obtain ⟨y322, hy322⟩ : ∃ y_ : List (S43), y_ = (t319 ++ [(⟨0, 2, 30, 40⟩ : S43)]) := ⟨_, rfl⟩
    replace H : ((contradict_Least.f k 3 y322).bind fun bt325 => ((ephemerislaw2_three.f).bind fun t329 => (if t329.length < 4398046511104 then ((contradict_Implied.f k 3 (t329 ++ [(⟨0, 2, 0, 40⟩ : S43)]) 2).bind fun bt335 => (if bt325.2 = 0 then (if (bt325.1.length : Int) = 3 then (if bt335.2 = 0 then (some bt335.1) else (some false)) else (some false)) else (some false))) else (none)))) = some r := by first | (rw [hy322]; with_reducible exact H) | (have H2_ := (Option.bind_some _ _).symm.trans H; rw [hy322]; with_reducible exact H2_) | (have H2_ := (Option.bind_some _ _).symm.trans H; with_reducible exact H2_) | with_reducible exact H | (rw [hy322]; exact H) | exact H
    have Ny322 := Aside0.mk hy322
    clear hy322
    replace H := Option.bind_eq_some_iff.mp H
    obtain ⟨⟨t325, t326⟩, A30, H⟩ := H
    replace H : ((ephemerislaw2_three.f).bind fun t329 => (if t329.length < 4398046511104 then ((contradict_Implied.f k 3 (t329 ++ [(⟨0, 2, 0, 40⟩ : S43)]) 2).bind fun bt335 => (if t326 = 0 then (if (t325.length : Int) = 3 then (if bt335.2 = 0 then (some bt335.1) else (some false)) else (some false)) else (some false))) else (none))) = some r := H
    have A3 := Aside0.mk A30
    clear A30
    replace H := Option.bind_eq_some_iff.mp H
    obtain ⟨t329, A40, H⟩ := H
    replace H : (if t329.length < 4398046511104 then ((contradict_Implied.f k 3 (t329 ++ [(⟨0, 2, 0, 40⟩ : S43)]) 2).bind fun bt335 => (if t326 = 0 then (if (t325.length : Int) = 3 then (if bt335.2 = 0 then (some bt335.1) else (some false)) else (some false)) else (some false))) else (none)) = some r := H
    have A4 := Aside0.mk A40
    clear A40
    by_cases c5 : t329.length < 4398046511104
    · rw [if_pos c5] at H
      have LMc5 := Aside0.mk c5
      clear c5
      obtain ⟨y332, hy332⟩ : ∃ y_ : List (S43), y_ = (t329 ++ [(⟨0, 2, 0, 40⟩ : S43)]) := ⟨_, rfl⟩
      replace H : ((contradict_Implied.f k 3 y332 2).bind fun bt335 => (if t326 = 0 then (if (t325.length : Int) = 3 then (if bt335.2 = 0 then (some bt335.1) else (some false)) else (some false)) else (some false))) = some r := by first | (rw [hy332]; with_reducible exact H) | (have H2_ := (Option.bind_some _ _).symm.trans H; rw [hy332]; with_reducible exact H2_) | (have H2_ := (Option.bind_some _ _).symm.trans H; with_reducible exact H2_) | with_reducible exact H | (rw [hy332]; exact H) | exact H
      have Ny332 := Aside0.mk hy332
      clear hy332
      replace H := Option.bind_eq_some_iff.mp H
      obtain ⟨⟨t335, t336⟩, A60, H⟩ := H
      replace H : (if t326 = 0 then (if (t325.length : Int) = 3 then (if t336 = 0 then (some t335) else (some false)) else (some false)) else (some false)) = some r := H
      have A6 := Aside0.mk A60
      clear A60
      by_cases c7 : t326 = 0
      · rw [if_pos c7] at H
        have c7b0 : (t326 == 0) = true := beq_iff_eq.mpr c7
        have c7b1 : (t326 != 0) = false := bne_eq_false_iff_eq.mpr c7
        clear c7
        by_cases c8 : (t325.length : Int) = 3
        · rw [if_pos c8] at H
          have c8b0 : ((t325.length : Int) == 3) = true := beq_iff_eq.mpr c8
          have c8b1 : ((t325.length : Int) != 3) = false := bne_eq_false_iff_eq.mpr c8
          clear c8
          by_cases c9 : t336 = 0
          · rw [if_pos c9] at H
            have c9b0 : (t336 == 0) = true := beq_iff_eq.mpr c9
            have c9b1 : (t336 != 0) = false := bne_eq_false_iff_eq.mpr c9
            clear c9
            obtain rfl := Option.some.inj H
            simp only [Option.some.injEq, Prod.mk.injEq] at H
            obtain ⟨rfl⟩ := H
            go_enter Try.func19, Try.ntmps19
            go_wp2_with (first | ((with_reducible refine gate_callee (f := 27) rfl ?_); refine goesL_ (some 6) rfl rfl Try.func27 (by kernel_rfl) rfl #[] rfl (by (try simp only [List.map_toArray, List.map_cons, List.map_nil]); first | done | rfl | (simp only [List.length_drop, List.length_take]; rfl)) ?_; (with_reducible refine (ephemerislaw2_three.calls  t319 _ A1.out).mono ?_); rintro e w10 ⟨v320, rfl, ho0, hb⟩; refine ⟨_, rfl, ?_⟩; have n0_ := Aside0.mk (Kd.R_lower ho0 (below_size (by repeat (first | (with_reducible first | exact HB.out | apply below_alloc | apply pw_below_drewN | apply below_drew1) | exact HB.out)))); have n1_ := Aside0.mk (below_step (by repeat (first | (with_reducible first | exact HB.out | apply below_alloc | apply pw_below_drewN | apply below_drew1) | exact HB.out)) hb); clear HB; have HO321 := n0_; have HB := n1_; clear n0_ n1_; (try clear hb); (try clear hb2); (try clear hk); (try clear hi); (try clear ho0)) | ((with_reducible refine gate_builtin (b := .append) (xs := #[.tmp 6, .tmp 8]) rfl ?_); (try (refine gate_guard (by rfl) ?_; dsimp only)); at_builtin; refine Kd.R_append k43 (w0 := w) w.heap.size rfl (.tmp 6) (.tmp 8) 22 43 (.agg #[(.int .i64 0), (.int .i64 0), (.int .i64 0), (.int .i64 0)]) 32 rfl Try.underlying22 info43 rfl (by decide) (by omega) v320 t319 (⟨0, 2, 30, 40⟩ : S43) [.int .i64 0, .int .i64 2, .int .i64 30, .int .i64 40] (fun _ => True) (fun _ => False) rfl rfl ?aP (fun _ hk => hk.elim) ?aF ?aO ?aB ?aS ?aL ?_; (case aP => exact k43_mkM _ _ _ (⟨0, 2, 30, 40⟩ : S43)); (case aB => exact (by repeat (first | (with_reducible first | exact HB.out | apply below_alloc | apply pw_below_drewN | apply below_drew1) | exact HB.out))); (case aF => exact (fun _ _ => trivial)); (case aO => exact (by (with_reducible repeat (first | apply Kd.R_alloc | apply Kd.R_drewN | apply Kd.R_drew)); exact HO321.out)); (case aS => exact (below_size (by repeat (first | (with_reducible first | exact HB.out | apply below_alloc | apply pw_below_drewN | apply below_drew1) | exact HB.out)))); (case aL => have := LMc2.out; omega); intro v323 w11 ho hb hg hat; rw [← Ny322.out] at ho; have n0_ := Aside0.mk (hb); have n1_ := Aside0.mk (ho); clear HB; clear HO321; have HB := n0_; have HO324 := n1_; clear n0_ n1_; clear ho hb hg hat; obtain ⟨Ao12, co12, eo12⟩ := Kd.R_slice HO324.out; subst eo12) | ((with_reducible refine gate_callee (f := 20) rfl ?_); refine goesL_ (some 10) rfl rfl Try.func20 (by kernel_rfl) rfl #[.int .i64 3, .slice Ao12 y322.length co12] rfl (by (try simp only [List.map_toArray, List.map_cons, List.map_nil]); first | done | rfl | (simp only [List.length_drop, List.length_take]; rfl)) ?_; (with_reducible refine (contradict_Least.calls k 3 _ _ y322 t325 t326 _ ?side1 ?side2 A3.out).mono ?_); (case side1 => repeat (first | exact (Kd.R_reads' HO324.out).2.2 | (with_reducible refine Kd.C_alloc ?_ _) | (with_reducible refine Kd.C_drewN ?_ _) | (with_reducible refine Kd.C_drew ?_))); (case side2 => exact (Kd.R_reads' HO324.out).2.1); rintro e w13 ⟨v327, rfl, ho0, hb⟩; refine ⟨_, rfl, ?_⟩; have n0_ := Aside0.mk (Kd.R_below (by (with_reducible repeat (first | apply Kd.R_alloc | apply Kd.R_drewN | apply Kd.R_drew)); exact HO324.out) hb); have n1_ := Aside0.mk (Kd.R_lower ho0 (below_size (by repeat (first | (with_reducible first | exact HB.out | apply below_alloc | apply pw_below_drewN | apply below_drew1) | exact HB.out)))); have n2_ := Aside0.mk (below_step (by repeat (first | (with_reducible first | exact HB.out | apply below_alloc | apply pw_below_drewN | apply below_drew1) | exact HB.out)) hb); clear HO324; clear HB; have HO324 := n0_; have HO328 := n1_; have HB := n2_; clear n0_ n1_ n2_; (try clear hb); (try clear hb2); (try clear hk); (try clear hi); (try clear ho0)) | ((with_reducible refine gate_callee (f := 27) rfl ?_); refine goesL_ (some 14) rfl rfl Try.func27 (by kernel_rfl) rfl #[] rfl (by (try simp only [List.map_toArray, List.map_cons, List.map_nil]); first | done | rfl | (simp only [List.length_drop, List.length_take]; rfl)) ?_; (with_reducible refine (ephemerislaw2_three.calls  t329 _ A4.out).mono ?_); rintro e w14 ⟨v330, rfl, ho0, hb⟩; refine ⟨_, rfl, ?_⟩; have n0_ := Aside0.mk (Kd.R_elder' (by (with_reducible repeat (first | apply Kd.R_alloc | apply Kd.R_drewN | apply Kd.R_drew)); exact HO324.out) (Kd.R_base ho0) hb); have n1_ := Aside0.mk (Kd.R_below (by (with_reducible repeat (first | apply Kd.R_alloc | apply Kd.R_drewN | apply Kd.R_drew)); exact HO328.out) hb); have n2_ := Aside0.mk (Kd.R_lower (Kd.R_new' ho0 (Kd.R_lt (by (with_reducible repeat (first | apply Kd.R_alloc | apply Kd.R_drewN | apply Kd.R_drew)); exact HO324.out))) (below_size (by repeat (first | (with_reducible first | exact HB.out | apply below_alloc | apply pw_below_drewN | apply below_drew1) | exact HB.out)))); have n3_ := Aside0.mk (below_step (by repeat (first | (with_reducible first | exact HB.out | apply below_alloc | apply pw_below_drewN | apply below_drew1) | exact HB.out)) hb); clear HO324; clear HO328; clear HB; have HO324 := n0_; have HO328 := n1_; have HO331 := n2_; have HB := n3_; clear n0_ n1_ n2_ n3_; (try clear hb); (try clear hb2); (try clear hk); (try clear hi); (try clear ho0)) | ((with_reducible refine gate_builtin (b := .append) (xs := #[.tmp 14, .tmp 16]) rfl ?_); (try (refine gate_guard (by rfl) ?_; dsimp only)); at_builtin; refine Kd.R_append k43 (w0 := w) w.heap.size rfl (.tmp 14) (.tmp 16) 22 43 (.agg #[(.int .i64 0), (.int .i64 0), (.int .i64 0), (.int .i64 0)]) 32 rfl Try.underlying22 info43 rfl (by decide) (by omega) v330 t329 (⟨0, 2, 0, 40⟩ : S43) [.int .i64 0, .int .i64 2, .int .i64 0, .int .i64 40] (fun k_ => some k_ ≠ (.slice Ao12 y322.length co12 : Value).ownBlock) (fun _ => False) rfl rfl ?aP (fun _ hk => hk.elim) ?aF ?aO ?aB ?aS ?aL ?_; (case aP => exact k43_mkM _ _ _ (⟨0, 2, 0, 40⟩ : S43)); (case aB => exact (by repeat (first | (with_reducible first | exact HB.out | apply below_alloc | apply pw_below_drewN | apply below_drew1) | exact HB.out))); (case aF => exact (fun k_ hk => Kd.fresh' (Kd.R_lt (by (with_reducible repeat (first | apply Kd.R_alloc | apply Kd.R_drewN | apply Kd.R_drew)); exact HO324.out)) k_ hk)); (case aO => exact (by (with_reducible repeat (first | apply Kd.R_alloc | apply Kd.R_drewN | apply Kd.R_drew)); exact Kd.R_mono HO331.out (fun _ hk => hk.2))); (case aS => exact (below_size (by repeat (first | (with_reducible first | exact HB.out | apply below_alloc | apply pw_below_drewN | apply below_drew1) | exact HB.out)))); (case aL => have := LMc5.out; omega); intro v333 w15 ho hb hg hat; rw [← Ny332.out] at ho; have n0_ := Aside0.mk (Kd.R_after (ok := (fun _ => True)) (by (with_reducible repeat (first | apply Kd.R_alloc | apply Kd.R_drewN | apply Kd.R_drew)); exact HO324.out) hg hat); have n1_ := Aside0.mk (Kd.R_over' (by (with_reducible repeat (first | apply Kd.R_alloc | apply Kd.R_drewN | apply Kd.R_drew)); exact HO328.out) (Kd.R_typed (by (with_reducible repeat (first | apply Kd.R_alloc | apply Kd.R_drewN | apply Kd.R_drew)); exact HO331.out)) (by decide) hg); have n2_ := Aside0.mk (hb); have n3_ := Aside0.mk (ho); clear HO324; clear HO328; clear HB; clear HO331; have HO324 := n0_; have HO328 := n1_; have HB := n2_; have HO334 := n3_; clear n0_ n1_ n2_ n3_; clear ho hb hg hat; obtain ⟨Ao16, co16, eo16⟩ := Kd.R_slice HO334.out; subst eo16) | ((with_reducible refine gate_callee (f := 21) rfl ?_); refine goesL_ (some 18) rfl rfl Try.func21 (by kernel_rfl) rfl #[.int .i64 3, .slice Ao16 y332.length co16, .int .i64 2] rfl (by (try simp only [List.map_toArray, List.map_cons, List.map_nil]); first | done | rfl | (simp only [List.length_drop, List.length_take]; rfl)) ?_; (with_reducible refine (contradict_Implied.calls k 3 _ _ y332 2 t335 t336 _ ?side1 ?side2 A6.out).mono ?_); (case side1 => repeat (first | exact (Kd.R_reads' HO334.out).2.2 | (with_reducible refine Kd.C_alloc ?_ _) | (with_reducible refine Kd.C_drewN ?_ _) | (with_reducible refine Kd.C_drew ?_))); (case side2 => exact (Kd.R_reads' HO334.out).2.1); rintro e w17 ⟨rfl, hb⟩; refine ⟨_, rfl, ?_⟩; have n0_ := Aside0.mk (Kd.R_below (by (with_reducible repeat (first | apply Kd.R_alloc | apply Kd.R_drewN | apply Kd.R_drew)); exact HO324.out) hb); have n1_ := Aside0.mk (Kd.R_below (by (with_reducible repeat (first | apply Kd.R_alloc | apply Kd.R_drewN | apply Kd.R_drew)); exact HO328.out) hb); have n2_ := Aside0.mk (Kd.R_below (by (with_reducible repeat (first | apply Kd.R_alloc | apply Kd.R_drewN | apply Kd.R_drew)); exact HO334.out) hb); have n3_ := Aside0.mk (below_step (by repeat (first | (with_reducible first | exact HB.out | apply below_alloc | apply pw_below_drewN | apply below_drew1) | exact HB.out)) hb); clear HO324; clear HO328; clear HO334; clear HB; have HO324 := n0_; have HO328 := n1_; have HO334 := n2_; have HB := n3_; clear n0_ n1_ n2_ n3_; (try clear hb); (try clear hb2); (try clear hk); (try clear hi); obtain ⟨Ao18, co18, eo18⟩ := Kd.R_slice HO328.out; subst eo18))
            go_ret
            exact ⟨by first | rfl | (simp [errW_none, errW_some] <;> rfl) | (simp [*, errW_none, errW_some] <;> rfl), by repeat (first | (with_reducible first | exact HB.out | apply below_alloc | apply pw_below_drewN | apply below_drew1) | exact HB.out)⟩
          · rw [if_neg c9] at H
            have c9b0 : (t336 == 0) = false := beq_eq_false_iff_ne.mpr c9
            have c9b1 : (t336 != 0) = true := bne_iff_ne.mpr c9
            obtain rfl := Option.some.inj H
            exact absurd hT (by decide)
        · rw [if_neg c8] at H
          have c8b0 : ((t325.length : Int) == 3) = false := beq_eq_false_iff_ne.mpr c8
          have c8b1 : ((t325.length : Int) != 3) = true := bne_iff_ne.mpr c8
          obtain rfl := Option.some.inj H
          exact absurd hT (by decide)
      · rw [if_neg c7] at H
        have c7b0 : (t326 == 0) = false := beq_eq_false_iff_ne.mpr c7
        have c7b1 : (t326 != 0) = true := bne_iff_ne.mpr c7
        obtain rfl := Option.some.inj H
        exact absurd hT (by decide)
    · rw [if_neg c5] at H
      exact absurd H (by simp)
  · rw [if_neg c2] at H
    exact absurd H (by simp)
end Go.Proofs.Ytfbjpdiaicaagaa.PAll
