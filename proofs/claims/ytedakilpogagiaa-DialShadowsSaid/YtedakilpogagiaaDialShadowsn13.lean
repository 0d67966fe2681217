/- Written by a program of this session: what one law needs. -/
import Derived.Test.YtedakilpogagiaaDialShadowsn12
set_option maxHeartbeats 8000000
set_option maxRecDepth 100000
set_option linter.unusedSimpArgs false
set_option linter.unusedVariables false
section
namespace Go.Proofs.Ytedakilpogagiaa.PAll
open Go.RowKit YtedakilpogagiaaW.PrintWords YtedakilpogagiaaW.PrintLast YtedakilpogagiaaW.PrintMore More2 Sq
attribute [local go_sem] max2_int min2_int max_two min_two max_three min_three max_four min_four tdiv2e18_ tdiv1e18_ cellSS_  -- for this text's walks alone
def series_Angle.f (k : Nat) (a0_0 : Int) (a0_1 : Int) (l0_2 : List (S94)) (a0_3 : Int) (a1 : Int) : Option (Int × Int × Int) := (series_check.f k a0_0 a0_1 l0_2 a0_3 a1).bind fun t287 => (if t287 = 0 then ((series_sum.f k a0_0 a0_1 l0_2 a0_3 a1).bind fun bt288 => ((series_Turned.f k a0_1 a1).bind fun t290 => ((series_Reduced.f (wrap64 (bt288.1 + (wrap64 (Int.tdiv t290 1000000)))) (wrap64 ((wrap64 (bt288.2 + (wrap64 (Int.tdiv t290 1000000)))) + 1))).bind fun bt292 => (some (bt292.1, bt292.2, 0))))) else (some (0, 0, t287)))
def series_Angle.T4 : Bool × List (List Nat × List Nat) := (true, [([], []), ([], []), ([0, 1], [0, 1]), ([], []), ([3], [3]), ([], []), ([4, 5, 2], [4, 5]), ([6], [6]), ([], []), ([8, 2, 6, 0, 1, 2, 8], [2, 8]), ([7, 9, 0, 1, 2, 3, 4, 5, 6, 7, 8, 9], [7])])
def series_Angle.B4 : List Nat := [0, 0, 3, 0, 8, 0, 63, 127, 0, 383, 1023]
theorem series_Angle.tab4 : rtab .any (opsOf Try.f98 4) = series_Angle.T4 := by kernel_rfl
theorem series_Angle.bits4 : waitsOk series_Angle.T4.2 series_Angle.B4 = true := by kernel_rfl
theorem series_Angle.calls (k : Nat) (a0_0 : Int) (a0_1 : Int) (A0_2 : Option Addr) (c0_2 : Nat) (l0_2 : List (S94)) (a0_3 : Int) (a1 : Int) (r1 : Int) (r2 : Int) (r3 : Int) (w : World) (hr0_2 : Kd.C k94 w A0_2 l0_2.length l0_2) (hc0_2 : l0_2.length ≤ c0_2) (h : series_Angle.f k a0_0 a0_1 l0_2 a0_3 a1 = some (r1, r2, r3)) :
  Calls Try.prog 98 #[.agg #[.int .i64 a0_0, .int .i64 a0_1, .slice A0_2 l0_2.length c0_2, .int .i64 a0_3], .int .i64 a1] w fun e w' => e = .returned (.tuple #[.agg #[.int .i64 r1, .int .i64 r2], .int .i64 r3]) ∧ Below w.heap.size w w' := by
 have hu82 := Try.underlying82
 have hu23 := Try.underlying23
 have HR0_2 := Aside0.mk hr0_2
 have HC0_2 := Aside0.mk hc0_2
 clear hr0_2 hc0_2
 have HB := Aside0.mk (Below.refl w.heap.size w)
 have H : ((series_check.f k a0_0 a0_1 l0_2 a0_3 a1).bind fun t287 => (if t287 = 0 then ((series_sum.f k a0_0 a0_1 l0_2 a0_3 a1).bind fun bt288 => ((series_Turned.f k a0_1 a1).bind fun t290 => ((series_Reduced.f (wrap64 (bt288.1 + (wrap64 (Int.tdiv t290 1000000)))) (wrap64 ((wrap64 (bt288.2 + (wrap64 (Int.tdiv t290 1000000)))) + 1))).bind fun bt292 => (some (bt292.1, bt292.2, 0))))) else (some (0, 0, t287)))) = some (r1, r2, r3) := h
 clear h
 replace H := Option.bind_eq_some_iff.mp H
 obtain ⟨t287, A30, H⟩ := H
 replace H : (if t287 = 0 then ((series_sum.f k a0_0 a0_1 l0_2 a0_3 a1).bind fun bt288 => ((series_Turned.f k a0_1 a1).bind fun t290 => ((series_Reduced.f (wrap64 (bt288.1 + (wrap64 (Int.tdiv t290 1000000)))) (wrap64 ((wrap64 (bt288.2 + (wrap64 (Int.tdiv t290 1000000)))) + 1))).bind fun bt292 => (some (bt292.1, bt292.2, 0))))) else (some (0, 0, t287))) = some (r1, r2, r3) := H
 have A3 := Aside0.mk A30
 clear A30
 have HC4 := Aside0.mk H
 clear H
 go_enter Try.func98, Try.ntmps98
 go_upto_if 13 with (first | ((with_reducible refine gate_dst (N := 2) rfl ?_); refine box_event ?hg (N := 2) ?hd (cs := #[.int .i64 a0_0, .int .i64 a0_1, .slice A0_2 l0_2.length c0_2, .int .i64 a0_3]) (t := 82) ?hr ?_; (case hd => rfl); (case hg => rfl); (case hr => first | (go_simp; done) | (go_simp; rfl)); intro gb285 hg w5 hbox hb; have BK285 := Aside0.mk (hbox); have GW285 := ge_ hg HB; have GE285 := ge_ hg HB; replace HB := bs_ HB hb; clear hb hbox hg) | ((with_reducible refine gate_dst (N := 4) rfl ?_); refine box_event ?hg (N := 4) ?hd (cs := #[.int .i64 0, .int .i64 0]) (t := 23) ?hr ?_; (case hd => rfl); (case hg => rfl); (case hr => first | (go_simp; done) | (go_simp; rfl)); intro gb286 hg w6 hbox hb; have BK286 := Aside0.mk (hbox); have GW286 := ge_ hg HB; have GE286 := ge_ hg HB; have NB285_286 := nl_ hg BK285; have NB286_285 := ng_ hg BK285; replace BK285 := kb_ BK285 hb; replace HB := bs_ HB hb; clear hb hbox hg; have hnb7 := NB285_286.out; have hnc7 := NB286_285.out; have hcz8_0 : w6.cell? ⟨gb285, 0, none⟩ = some (.int .i64 a0_0) := (blk_cell BK285.out 0).trans rfl; have hcz8_1 : w6.cell? ⟨gb285, 1, none⟩ = some (.int .i64 a0_1) := (blk_cell BK285.out 1).trans rfl; have hcz8_2 : w6.cell? ⟨gb285, 2, none⟩ = some (.slice A0_2 l0_2.length c0_2) := (blk_cell BK285.out 2).trans rfl; have hcz8_3 : w6.cell? ⟨gb285, 3, none⟩ = some (.int .i64 a0_3) := (blk_cell BK285.out 3).trans rfl; have hfz8_0 := blk_frozen BK285.out 0; have hfz8_1 := blk_frozen BK285.out 1; have hfz8_2 := blk_frozen BK285.out 2; have hfz8_3 := blk_frozen BK285.out 3) | ((with_reducible refine gate_callee (f := 125) rfl ?_); refine goesL_ (some 11) rfl rfl Try.func125 (by kernel_rfl) rfl #[.agg #[.int .i64 a0_0, .int .i64 a0_1, .slice A0_2 l0_2.length c0_2, .int .i64 a0_3], .int .i64 a1] rfl (by (try simp only [List.map_toArray, List.map_cons, List.map_nil]); first | done | rfl | (simp only [List.length_drop, List.length_take]; rfl)) ?_; (with_reducible refine (series_check.calls k a0_0 a0_1 _ _ l0_2 a0_3 a1 t287 _ ?side1 ?side2 A3.out).mono ?_); (case side1 => repeat (first | exact (Kd.C_below HR0_2.out HB.out) | (with_reducible refine Kd.C_alloc ?_ _) | (with_reducible refine Kd.C_drewN ?_ _) | (with_reducible refine Kd.C_drew ?_))); (case side2 => exact HC0_2.out); rintro e w9 ⟨rfl, hb⟩; refine ⟨_, rfl, ?_⟩; replace BK285 := kb_ BK285 hb; replace BK286 := kb_ BK286 hb; replace HB := bs_ HB hb; (try clear hb); (try clear hb2); (try clear hk); (try clear hi)))
 (try simp only [Act.put, List.setIfInBounds_toArray, List.set_cons_zero, List.set_cons_succ])
 have H := HC4.out
 clear HC4
 by_cases c10 : t287 = 0
 ·rw [if_pos c10] at H
  have c10b0 : (t287 == 0) = true := beq_iff_eq.mpr c10
  have c10b1 : (t287 != 0) = false := bne_eq_false_iff_eq.mpr c10
  clear c10
  (first | rw [c10b0] | (simp only [i64_w, i32_w]; rw [c10b0]) | skip)
  replace H := Option.bind_eq_some_iff.mp H
  obtain ⟨⟨t288, t289⟩, A110, H⟩ := H
  replace H : ((series_Turned.f k a0_1 a1).bind fun t290 => ((series_Reduced.f (wrap64 (t288 + (wrap64 (Int.tdiv t290 1000000)))) (wrap64 ((wrap64 (t289 + (wrap64 (Int.tdiv t290 1000000)))) + 1))).bind fun bt292 => (some (bt292.1, bt292.2, 0)))) = some (r1, r2, r3) := H
  have A11 := Aside0.mk A110
  clear A110
  replace H := Option.bind_eq_some_iff.mp H
  obtain ⟨t290, A120, H⟩ := H
  replace H : ((series_Reduced.f (wrap64 (t288 + (wrap64 (Int.tdiv t290 1000000)))) (wrap64 ((wrap64 (t289 + (wrap64 (Int.tdiv t290 1000000)))) + 1))).bind fun bt292 => (some (bt292.1, bt292.2, 0))) = some (r1, r2, r3) := H
  have A12 := Aside0.mk A120
  clear A120
  replace H := Option.bind_eq_some_iff.mp H
  obtain ⟨⟨t292, t293⟩, A130, H⟩ := H
  replace H : (some (t292, t293, 0)) = some (r1, r2, r3) := H
  have A13 := Aside0.mk A130
  clear A130
  simp only [Option.some.injEq, Prod.mk.injEq] at H
  obtain ⟨rfl, rfl, rfl⟩ := H
  try go_wp2
  replace BK285 := Aside0.mk (blk_drew BK285.out)
  replace BK286 := Aside0.mk (blk_drew BK286.out)
  replace HB := Aside0.mk (below_drew1 HB.out)
  refine start_ (n := 11) (S := fun w' => w'.cell? ⟨gb285, 0, none⟩ = some (.int .i64 a0_0) ∧ w'.cell? ⟨gb285, 1, none⟩ = some (.int .i64 a0_1) ∧ w'.cell? ⟨gb285, 2, none⟩ = some (.slice A0_2 l0_2.length c0_2) ∧ w'.cell? ⟨gb285, 3, none⟩ = some (.int .i64 a0_3)) (ds := []) #[false, false, false, false, false, false, false, false, false, false, false] (by kernel_rfl) rfl rfl ⟨(blk_cell BK285.out 0).trans rfl, (blk_cell BK285.out 1).trans rfl, (blk_cell BK285.out 2).trans rfl, (blk_cell BK285.out 3).trans rfl⟩ (fun hHeld => ?_); refine with_tabW series_Angle.tab4 series_Angle.bits4 (fun HT_ HW_ => ?_)
  generalize w9.drew = w14 at BK285 BK286 HB hHeld ⊢
  refine pure_ (i := 1) (N := some 17) (v := ?_) (a' := ?_) #[false, true, false, false, false, false, false, false, false, false, false] rfl rfl (any_of HT_.out (by kernel_rfl)) (fun _ _ _ h => h) (Or.inl ⟨by rfl, ?_⟩) ?_ ?_
  rotate_left
  ·intro w'
   go_simp
   with_reducible rfl
  rotate_left
  ·simp only [Act.put, List.setIfInBounds_toArray, List.set_cons_zero, List.set_cons_succ, i64_w, i32_w]
   rfl
  refine pure_ (i := 3) (N := some 19) (v := ?_) (a' := ?_) #[false, true, false, true, false, false, false, false, false, false, false] rfl rfl (any_of HT_.out (by kernel_rfl)) (fun _ _ _ h => h) (Or.inl ⟨by rfl, ?_⟩) ?_ ?_
  rotate_left
  ·intro w'
   go_simp
   with_reducible rfl
  rotate_left
  ·simp only [Act.put, List.setIfInBounds_toArray, List.set_cons_zero, List.set_cons_succ, i64_w, i32_w]
   rfl
  refine pure_ (i := 5) (N := some 21) (v := ?_) (a' := ?_) #[false, true, false, true, false, true, false, false, false, false, false] rfl rfl (any_of HT_.out (by kernel_rfl)) (fun _ _ _ h => h) (Or.inl ⟨by rfl, ?_⟩) ?_ ?_
  rotate_left
  ·intro w'
   go_simp
   with_reducible rfl
  rotate_left
  ·simp only [Act.put, List.setIfInBounds_toArray, List.set_cons_zero, List.set_cons_succ, i64_w, i32_w]
   rfl
  refine take_ (i := 0) (N := some 16) (v := ?_) (a' := ?_) #[true, true, false, true, false, true, false, false, false, false, false] rfl rfl (take_ofW HT_.out HW_.out (by kernel_rfl)) (fun _ _ _ h => h) (Or.inl ⟨by rfl, ?_⟩) hHeld ?_ ?_
  rotate_left
  ·rintro w' ⟨s0, s1, s2, s3⟩
   go_simp
   with_reducible rfl
  rotate_left
  ·simp only [Act.put, List.setIfInBounds_toArray, List.set_cons_zero, List.set_cons_succ, i64_w, i32_w]
   rfl
  refine take_ (i := 4) (N := some 20) (v := ?_) (a' := ?_) #[true, true, false, true, true, true, false, false, false, false, false] rfl rfl (take_ofW HT_.out HW_.out (by kernel_rfl)) (fun _ _ _ h => h) (Or.inl ⟨by rfl, ?_⟩) hHeld ?_ ?_
  rotate_left
  ·rintro w' ⟨s0, s1, s2, s3⟩
   go_simp
   with_reducible rfl
  rotate_left
  ·simp only [Act.put, List.setIfInBounds_toArray, List.set_cons_zero, List.set_cons_succ, i64_w, i32_w]
   rfl
  refine join_ (σ := Nat) 2 #[true, true, true, true, true, true, true, true, true, false, false] (fun s_ => [(18, .agg #[.int .i64 t288, .int .i64 t289]), (22, .int .i64 t290), (7, .pointer (some ⟨s_, 0, none⟩)), (23, .int .i64 (wrap64 (Int.tdiv t290 1000000)))]) (fun s_ w' => (w'.cell? ⟨gb285, 0, none⟩ = some (.int .i64 a0_0) ∧ w'.cell? ⟨gb285, 1, none⟩ = some (.int .i64 a0_1) ∧ w'.cell? ⟨gb285, 2, none⟩ = some (.slice A0_2 l0_2.length c0_2) ∧ w'.cell? ⟨gb285, 3, none⟩ = some (.int .i64 a0_3)) ∧ (w'.heap[gb285]? = some (.cells #[.int .i64 a0_0, .int .i64 a0_1, .slice A0_2 l0_2.length c0_2, .int .i64 a0_3] 82 (0, 0))) ∧ (w'.heap[gb286]? = some (.cells #[.int .i64 0, .int .i64 0] 23 (0, 0))) ∧ (w'.heap[s_]? = some (.cells #[.int .i64 0, .int .i64 0] 23 (0, 0))) ∧ (w.heap.size ≤ s_) ∧ (w.heap.size ≤ s_) ∧ (gb285 ≠ s_) ∧ (s_ ≠ gb285) ∧ (gb286 ≠ s_) ∧ (s_ ≠ gb286) ∧ (Below w.heap.size w w')) ?_ ?_
  rotate_left
  ·intro hCont
   refine two_ (i := 2) (j := 8) (Ni := some 18) (Nj := some 7) #[true, true, true, true, true, true, false, false, false, false, false] #[true, true, false, true, true, true, false, false, true, false, false] rfl rfl rfl rfl (two_of HT_.out (by kernel_rfl)) (by decide) (by decide) (fun K hK => ?_) (fun K hK => ?_)
   ·skip
    refine goes_ Try.func126 (by kernel_rfl) rfl #[.agg #[.int .i64 a0_0, .int .i64 a0_1, .slice A0_2 l0_2.length c0_2, .int .i64 a0_3], .int .i64 a1] (by rfl) rfl rfl (by (try simp only [List.map_toArray, List.map_cons, List.map_nil]); first | done | rfl | (simp only [List.length_drop, List.length_take]; rfl)) ?_
    with_reducible refine (series_sum.calls k a0_0 a0_1 _ _ l0_2 a0_3 a1 t288 t289 _ ?side1 ?side2 A11.out).mono ?_
    (case side1 => repeat (first | exact (Kd.C_below HR0_2.out HB.out) | (with_reducible refine Kd.C_alloc ?_ _) | (with_reducible refine Kd.C_drewN ?_ _) | (with_reducible refine Kd.C_drew ?_)))
    (case side2 => exact HC0_2.out)
    rintro e w15 ⟨rfl, hb⟩
    refine ⟨_, rfl, ?_⟩
    replace BK285 := kb_ BK285 hb
    replace BK286 := kb_ BK286 hb
    replace HB := bs_ HB hb
    (try clear hb)
    (try clear hb2)
    (try clear hk)
    (try clear hi)
    refine hK.out _ _ ⟨(blk_cell BK285.out 0).trans rfl, (blk_cell BK285.out 1).trans rfl, (blk_cell BK285.out 2).trans rfl, (blk_cell BK285.out 3).trans rfl⟩ (fun hHeld => ?_)
    clear hK K
    refine norm_ (a' := ?_) ?_ ?_
    rotate_left
    ·show Act.put _ (some 18) _ = _
     simp only [Act.put, List.setIfInBounds_toArray, List.set_cons_zero, List.set_cons_succ, i64_w, i32_w]
     rfl
    refine two_ (i := 6) (j := 8) (Ni := some 22) (Nj := some 7) #[true, true, true, true, true, true, true, false, false, false, false] #[true, true, true, true, true, true, false, false, true, false, false] rfl rfl rfl rfl (two_of HT_.out (by kernel_rfl)) (by decide) (by decide) (fun K hK => ?_) (fun K hK => ?_)
    ·skip
     refine goes_ Try.func127 (by kernel_rfl) rfl #[.int .i64 a0_1, .int .i64 a1] (by rfl) rfl rfl (by (try simp only [List.map_toArray, List.map_cons, List.map_nil]); first | done | rfl | (simp only [List.length_drop, List.length_take]; rfl)) ?_
     with_reducible refine (series_Turned.calls k a0_1 a1 t290 _ A12.out).mono ?_
     rintro e w' ⟨rfl, ⟨nd, rfl⟩⟩
     refine ⟨_, rfl, ?_⟩
     refine hK.out _ _ ⟨(blk_cell BK285.out 0).trans rfl, (blk_cell BK285.out 1).trans rfl, (blk_cell BK285.out 2).trans rfl, (blk_cell BK285.out 3).trans rfl⟩ (fun hHeld => ?_)
     clear hK K
     refine norm_ (a' := ?_) ?_ ?_
     rotate_left
     ·show Act.put _ (some 22) _ = _
      simp only [Act.put, List.setIfInBounds_toArray, List.set_cons_zero, List.set_cons_succ, i64_w, i32_w]
      rfl
     refine pure_ (i := 7) (N := some 23) (v := ?_) (a' := ?_) #[true, true, true, true, true, true, true, true, false, false, false] rfl rfl (any_of HT_.out (by kernel_rfl)) (fun _ _ _ h => h) (Or.inl ⟨by rfl, ?_⟩) ?_ ?_
     rotate_left
     ·intro w'
      go_simp
      with_reducible rfl
     rotate_left
     ·simp only [Act.put, List.setIfInBounds_toArray, List.set_cons_zero, List.set_cons_succ, i64_w, i32_w]
      rfl
     refine one_ (i := 8) (N := some 7) #[true, true, true, true, true, true, true, true, true, false, false] rfl rfl (one_of HT_.out (by kernel_rfl)) (by decide) (fun K hK => ?_)
     refine box_step ?hg (N := 7) ?hd (cs := #[.int .i64 0, .int .i64 0]) (t := 23) ?hr ?_; (case hd => rfl); (case hg => rfl); (case hr => first | (go_simp; done) | (go_simp; rfl))
     intro gb291 hg w16 hbox hb
     have BK291 := Aside0.mk (hbox)
     have GW291 := ge_ hg HB
     have GE291 := ge_ hg HB
     have NB285_291 := nl_ hg BK285
     have NB291_285 := ng_ hg BK285
     have NB286_291 := nl_ hg BK286
     have NB291_286 := ng_ hg BK286
     replace BK285 := kb_ BK285 hb
     replace BK286 := kb_ BK286 hb
     replace HB := bs_ HB hb
     clear hb hbox hg
     refine hK.out _ _ ⟨(blk_cell BK285.out 0).trans rfl, (blk_cell BK285.out 1).trans rfl, (blk_cell BK285.out 2).trans rfl, (blk_cell BK285.out 3).trans rfl⟩ (fun hHeld => ?_)
     clear hK K
     refine norm_ (a' := ?_) ?_ ?_
     rotate_left
     ·show Act.put _ (some 7) _ = _
      simp only [Act.put, List.setIfInBounds_toArray, List.set_cons_zero, List.set_cons_succ, i64_w, i32_w]
      rfl
     exact norm_ (by simp only [putAll, Act.put, List.setIfInBounds_toArray, List.set_cons_zero, List.set_cons_succ]) (hCont (gb291) _ ⟨hHeld, (kk_ BK285), (kk_ BK286), (kk_ BK291), GW291.out, GE291.out, NB285_291.out, NB291_285.out, NB286_291.out, NB291_286.out, (be_ HB).out⟩)
    ·skip
     refine box_step ?hg (N := 7) ?hd (cs := #[.int .i64 0, .int .i64 0]) (t := 23) ?hr ?_; (case hd => rfl); (case hg => rfl); (case hr => first | (go_simp; done) | (go_simp; rfl))
     intro gb291 hg w16 hbox hb
     have BK291 := Aside0.mk (hbox)
     have GW291 := ge_ hg HB
     have GE291 := ge_ hg HB
     have NB285_291 := nl_ hg BK285
     have NB291_285 := ng_ hg BK285
     have NB286_291 := nl_ hg BK286
     have NB291_286 := ng_ hg BK286
     replace BK285 := kb_ BK285 hb
     replace BK286 := kb_ BK286 hb
     replace HB := bs_ HB hb
     clear hb hbox hg
     refine hK.out _ _ ⟨(blk_cell BK285.out 0).trans rfl, (blk_cell BK285.out 1).trans rfl, (blk_cell BK285.out 2).trans rfl, (blk_cell BK285.out 3).trans rfl⟩ (fun hHeld => ?_)
     clear hK K
     refine norm_ (a' := ?_) ?_ ?_
     rotate_left
     ·show Act.put _ (some 7) _ = _
      simp only [Act.put, List.setIfInBounds_toArray, List.set_cons_zero, List.set_cons_succ, i64_w, i32_w]
      rfl
     refine one_ (i := 6) (N := some 22) #[true, true, true, true, true, true, true, false, true, false, false] rfl rfl (one_of HT_.out (by kernel_rfl)) (by decide) (fun K hK => ?_)
     refine goes_ Try.func127 (by kernel_rfl) rfl #[.int .i64 a0_1, .int .i64 a1] (by rfl) rfl rfl (by (try simp only [List.map_toArray, List.map_cons, List.map_nil]); first | done | rfl | (simp only [List.length_drop, List.length_take]; rfl)) ?_
     with_reducible refine (series_Turned.calls k a0_1 a1 t290 _ A12.out).mono ?_
     rintro e w' ⟨rfl, ⟨nd, rfl⟩⟩
     refine ⟨_, rfl, ?_⟩
     refine hK.out _ _ ⟨(blk_cell BK285.out 0).trans rfl, (blk_cell BK285.out 1).trans rfl, (blk_cell BK285.out 2).trans rfl, (blk_cell BK285.out 3).trans rfl⟩ (fun hHeld => ?_)
     clear hK K
     refine norm_ (a' := ?_) ?_ ?_
     rotate_left
     ·show Act.put _ (some 22) _ = _
      simp only [Act.put, List.setIfInBounds_toArray, List.set_cons_zero, List.set_cons_succ, i64_w, i32_w]
      rfl
     refine pure_ (i := 7) (N := some 23) (v := ?_) (a' := ?_) #[true, true, true, true, true, true, true, true, true, false, false] rfl rfl (any_of HT_.out (by kernel_rfl)) (fun _ _ _ h => h) (Or.inl ⟨by rfl, ?_⟩) ?_ ?_
     rotate_left
     ·intro w'
      go_simp
      with_reducible rfl
     rotate_left
     ·simp only [Act.put, List.setIfInBounds_toArray, List.set_cons_zero, List.set_cons_succ, i64_w, i32_w]
      rfl
     exact norm_ (by simp only [putAll, Act.put, List.setIfInBounds_toArray, List.set_cons_zero, List.set_cons_succ]) (hCont (gb291) _ ⟨hHeld, (kk_ BK285), (kk_ BK286), (kk_ BK291), GW291.out, GE291.out, NB285_291.out, NB291_285.out, NB286_291.out, NB291_286.out, (be_ HB).out⟩)
   ·skip
    refine box_step ?hg (N := 7) ?hd (cs := #[.int .i64 0, .int .i64 0]) (t := 23) ?hr ?_; (case hd => rfl); (case hg => rfl); (case hr => first | (go_simp; done) | (go_simp; rfl))
    intro gb291 hg w15 hbox hb
    have BK291 := Aside0.mk (hbox)
    have GW291 := ge_ hg HB
    have GE291 := ge_ hg HB
    have NB285_291 := nl_ hg BK285
    have NB291_285 := ng_ hg BK285
    have NB286_291 := nl_ hg BK286
    have NB291_286 := ng_ hg BK286
    replace BK285 := kb_ BK285 hb
    replace BK286 := kb_ BK286 hb
    replace HB := bs_ HB hb
    clear hb hbox hg
    refine hK.out _ _ ⟨(blk_cell BK285.out 0).trans rfl, (blk_cell BK285.out 1).trans rfl, (blk_cell BK285.out 2).trans rfl, (blk_cell BK285.out 3).trans rfl⟩ (fun hHeld => ?_)
    clear hK K
    refine norm_ (a' := ?_) ?_ ?_
    rotate_left
    ·show Act.put _ (some 7) _ = _
     simp only [Act.put, List.setIfInBounds_toArray, List.set_cons_zero, List.set_cons_succ, i64_w, i32_w]
     rfl
    refine one_ (i := 2) (N := some 18) #[true, true, true, true, true, true, false, false, true, false, false] rfl rfl (one_of HT_.out (by kernel_rfl)) (by decide) (fun K hK => ?_)
    refine goes_ Try.func126 (by kernel_rfl) rfl #[.agg #[.int .i64 a0_0, .int .i64 a0_1, .slice A0_2 l0_2.length c0_2, .int .i64 a0_3], .int .i64 a1] (by rfl) rfl rfl (by (try simp only [List.map_toArray, List.map_cons, List.map_nil]); first | done | rfl | (simp only [List.length_drop, List.length_take]; rfl)) ?_
    with_reducible refine (series_sum.calls k a0_0 a0_1 _ _ l0_2 a0_3 a1 t288 t289 _ ?side1 ?side2 A11.out).mono ?_
    (case side1 => repeat (first | exact (Kd.C_below HR0_2.out HB.out) | (with_reducible refine Kd.C_alloc ?_ _) | (with_reducible refine Kd.C_drewN ?_ _) | (with_reducible refine Kd.C_drew ?_)))
    (case side2 => exact HC0_2.out)
    rintro e w16 ⟨rfl, hb⟩
    refine ⟨_, rfl, ?_⟩
    replace BK285 := kb_ BK285 hb
    replace BK286 := kb_ BK286 hb
    replace BK291 := kb_ BK291 hb
    replace HB := bs_ HB hb
    (try clear hb)
    (try clear hb2)
    (try clear hk)
    (try clear hi)
    refine hK.out _ _ ⟨(blk_cell BK285.out 0).trans rfl, (blk_cell BK285.out 1).trans rfl, (blk_cell BK285.out 2).trans rfl, (blk_cell BK285.out 3).trans rfl⟩ (fun hHeld => ?_)
    clear hK K
    refine norm_ (a' := ?_) ?_ ?_
    rotate_left
    ·show Act.put _ (some 18) _ = _
     simp only [Act.put, List.setIfInBounds_toArray, List.set_cons_zero, List.set_cons_succ, i64_w, i32_w]
     rfl
    refine one_ (i := 6) (N := some 22) #[true, true, true, true, true, true, true, false, true, false, false] rfl rfl (one_of HT_.out (by kernel_rfl)) (by decide) (fun K hK => ?_)
    refine goes_ Try.func127 (by kernel_rfl) rfl #[.int .i64 a0_1, .int .i64 a1] (by rfl) rfl rfl (by (try simp only [List.map_toArray, List.map_cons, List.map_nil]); first | done | rfl | (simp only [List.length_drop, List.length_take]; rfl)) ?_
    with_reducible refine (series_Turned.calls k a0_1 a1 t290 _ A12.out).mono ?_
    rintro e w' ⟨rfl, ⟨nd, rfl⟩⟩
    refine ⟨_, rfl, ?_⟩
    refine hK.out _ _ ⟨(blk_cell BK285.out 0).trans rfl, (blk_cell BK285.out 1).trans rfl, (blk_cell BK285.out 2).trans rfl, (blk_cell BK285.out 3).trans rfl⟩ (fun hHeld => ?_)
    clear hK K
    refine norm_ (a' := ?_) ?_ ?_
    rotate_left
    ·show Act.put _ (some 22) _ = _
     simp only [Act.put, List.setIfInBounds_toArray, List.set_cons_zero, List.set_cons_succ, i64_w, i32_w]
     rfl
    refine pure_ (i := 7) (N := some 23) (v := ?_) (a' := ?_) #[true, true, true, true, true, true, true, true, true, false, false] rfl rfl (any_of HT_.out (by kernel_rfl)) (fun _ _ _ h => h) (Or.inl ⟨by rfl, ?_⟩) ?_ ?_
    rotate_left
    ·intro w'
     go_simp
     with_reducible rfl
    rotate_left
    ·simp only [Act.put, List.setIfInBounds_toArray, List.set_cons_zero, List.set_cons_succ, i64_w, i32_w]
     rfl
    exact norm_ (by simp only [putAll, Act.put, List.setIfInBounds_toArray, List.set_cons_zero, List.set_cons_succ]) (hCont (gb291) _ ⟨hHeld, (kk_ BK285), (kk_ BK286), (kk_ BK291), GW291.out, GE291.out, NB285_291.out, NB291_285.out, NB286_291.out, NB291_286.out, (be_ HB).out⟩)
  rintro gb291 w17 ⟨hS_, h0_, h1_, h2_, h3_, h4_, h5_, h6_, h7_, h8_, h9_⟩
  have BK291 := Aside0.mk h2_
  have GW291 := Aside0.mk h3_
  have GE291 := Aside0.mk h4_
  have NB285_291 := Aside0.mk h5_
  have NB291_285 := Aside0.mk h6_
  have NB286_291 := Aside0.mk h7_
  have NB291_286 := Aside0.mk h8_
  replace BK285 := Aside0.mk h0_
  replace BK286 := Aside0.mk h1_
  replace HB := Aside0.mk h9_
  clear h0_ h1_ h2_ h3_ h4_ h5_ h6_ h7_ h8_ h9_
  have hHeld : w17.cell? ⟨gb285, 0, none⟩ = some (.int .i64 a0_0) ∧ w17.cell? ⟨gb285, 1, none⟩ = some (.int .i64 a0_1) ∧ w17.cell? ⟨gb285, 2, none⟩ = some (.slice A0_2 l0_2.length c0_2) ∧ w17.cell? ⟨gb285, 3, none⟩ = some (.int .i64 a0_3) := hS_
  refine norm_ (a' := ?_) ?_ ?_
  rotate_left
  ·simp only [putAll, Act.put, List.setIfInBounds_toArray, List.set_cons_zero, List.set_cons_succ]
   rfl
  refine one_ (i := 9) (N := none) #[true, true, true, true, true, true, true, true, true, true, false] rfl rfl (one_of HT_.out (by kernel_rfl)) (by decide) (fun K hK => ?_)
  have hs18 : w17.cell? ⟨gb291, 0, none⟩ = some (.int .i64 0) := (blk_cell BK291.out 0).trans rfl
  have hfs18 := blk_frozen BK291.out 0
  have hns18_0 := NB285_291.out
  have hns18_1 := NB286_291.out
  have hms18_0 := NB291_285.out
  have hms18_1 := NB291_286.out
  have hs19 : w17.cell? ⟨gb291, 1, none⟩ = some (.int .i64 0) := (blk_cell BK291.out 1).trans rfl
  have hfs19 := blk_frozen BK291.out 1
  have hns19_0 := NB285_291.out
  have hns19_1 := NB286_291.out
  have hms19_0 := NB291_285.out
  have hms19_1 := NB291_286.out
  refine skip_ (w1 := ?_) (by rfl) rfl ?_ ?_
  rotate_left
  ·go_simp
   rfl
  refine hK.out _ _ ⟨((cell_far (p := ⟨gb291, _, none⟩) NB285_291.out _).trans (((cell_far (p := ⟨gb291, _, none⟩) NB285_291.out _).trans (hHeld.1)))), ((cell_far (p := ⟨gb291, _, none⟩) NB285_291.out _).trans (((cell_far (p := ⟨gb291, _, none⟩) NB285_291.out _).trans (hHeld.2.1)))), ((cell_far (p := ⟨gb291, _, none⟩) NB285_291.out _).trans (((cell_far (p := ⟨gb291, _, none⟩) NB285_291.out _).trans (hHeld.2.2.1)))), ((cell_far (p := ⟨gb291, _, none⟩) NB285_291.out _).trans (((cell_far (p := ⟨gb291, _, none⟩) NB285_291.out _).trans (hHeld.2.2.2))))⟩ (fun hHeld => ?_)
  clear hK K
  refine pure_ (i := 10) (N := some 8) (v := ?_) (a' := ?_) #[true, true, true, true, true, true, true, true, true, true, true] rfl rfl (any_of HT_.out (by kernel_rfl)) (fun _ _ _ h => h) (Or.inl ⟨by rfl, ?_⟩) ?_ ?_
  rotate_left
  ·intro w'
   go_simp
   with_reducible rfl
  rotate_left
  ·simp only [Act.put, List.setIfInBounds_toArray, List.set_cons_zero, List.set_cons_succ, i64_w, i32_w]
   rfl
  refine done_ (done_of HT_.out (by kernel_rfl)) ?_
  have hnb20 := NB291_285.out
  have hnc20 := NB285_291.out
  have hnb21 := NB291_286.out
  have hnc21 := NB286_291.out
  have hcz22_0 : w17.cell? ⟨gb291, 0, none⟩ = some (.int .i64 0) := (blk_cell BK291.out 0).trans rfl
  have hcz22_1 : w17.cell? ⟨gb291, 1, none⟩ = some (.int .i64 0) := (blk_cell BK291.out 1).trans rfl
  have hfz22_0 := blk_frozen BK291.out 0
  have hfz22_1 := blk_frozen BK291.out 1
  try go_wp2_with (first | ((with_reducible refine gate_callee (f := 82) rfl ?_); refine goesL_ (some 34) rfl rfl Try.func82 (by kernel_rfl) rfl #[.agg #[.int .i64 (wrap64 (t288 + (wrap64 (Int.tdiv t290 1000000)))), .int .i64 (wrap64 ((wrap64 (t289 + (wrap64 (Int.tdiv t290 1000000)))) + 1))]] rfl (by (try simp only [List.map_toArray, List.map_cons, List.map_nil]); first | done | rfl | (simp only [List.length_drop, List.length_take]; rfl)) ?_; (with_reducible refine (series_Reduced.calls (wrap64 (t288 + (wrap64 (Int.tdiv t290 1000000)))) (wrap64 ((wrap64 (t289 + (wrap64 (Int.tdiv t290 1000000)))) + 1)) t292 t293 _ A13.out).mono ?_); rintro e w23 ⟨rfl, hb⟩; refine ⟨_, rfl, ?_⟩; have n0_ := kb_ BK285 hb; have n1_ := kb_ BK286 hb; have n2_ := Aside0.mk (blk_below (g := gb291) (o := .cells #[.int .i64 t288, .int .i64 t289] 23 (0, 0)) (by (with_reducible repeat (first | refine blk_drewN ?_ _ | refine blk_drew ?_ | refine blk_alloc ?_ _)); refine blk_put (cs := #[.int .i64 t288, .int .i64 0]) ?_ 1 _ rfl; (with_reducible repeat (first | refine blk_drewN ?_ _ | refine blk_drew ?_ | refine blk_alloc ?_ _)); refine blk_put (cs := #[.int .i64 0, .int .i64 0]) ?_ 0 _ rfl; (with_reducible repeat (first | refine blk_drewN ?_ _ | refine blk_drew ?_ | refine blk_alloc ?_ _)); exact BK291.out) hb); have n3_ := bs_ HB hb; clear BK285; clear BK286; clear BK291; clear HB; have BK285 := n0_; have BK286 := n1_; have BK291 := n2_; have HB := n3_; clear n0_ n1_ n2_ n3_; (try clear hb); (try clear hb2); (try clear hk); (try clear hi); have hnb24 := NB286_285.out; have hnc24 := NB285_286.out; have hcz25_0 : w23.cell? ⟨gb286, 0, none⟩ = some (.int .i64 0) := (blk_cell BK286.out 0).trans rfl; have hcz25_1 : w23.cell? ⟨gb286, 1, none⟩ = some (.int .i64 0) := (blk_cell BK286.out 1).trans rfl; have hfz25_0 := blk_frozen BK286.out 0; have hfz25_1 := blk_frozen BK286.out 1))
  refine bodyPost_ret (results_ct rfl _ _ gb286 23 #[.int .i64 t292, .int .i64 t293] (0, 0) _ rfl (by (with_reducible repeat (first | refine blk_drewN ?_ _ | refine blk_drew ?_ | refine blk_alloc ?_ _)); refine blk_put (cs := #[.int .i64 t292, .int .i64 0]) ?_ 1 _ rfl; (with_reducible repeat (first | refine blk_drewN ?_ _ | refine blk_drew ?_ | refine blk_alloc ?_ _)); refine blk_put (cs := #[.int .i64 0, .int .i64 0]) ?_ 0 _ rfl; (with_reducible repeat (first | refine blk_drewN ?_ _ | refine blk_drew ?_ | refine blk_alloc ?_ _)); exact BK286.out) Try.underlying23 rfl (by kernel_rfl)) rfl ?_
  exact ⟨by first | rfl | (simp [errW_none, errW_some] <;> rfl) | (simp [*, errW_none, errW_some] <;> rfl), (be_ HB).out⟩
 ·rw [if_neg c10] at H
  have c10b0 : (t287 == 0) = false := beq_eq_false_iff_ne.mpr c10
  have c10b1 : (t287 != 0) = true := bne_iff_ne.mpr c10
  (first | rw [c10b0] | (simp only [i64_w, i32_w]; rw [c10b0]) | skip)
  simp only [Option.some.injEq, Prod.mk.injEq] at H
  obtain ⟨rfl, rfl, rfl⟩ := H
  have hnb26 := NB286_285.out
  have hnc26 := NB285_286.out
  have hcz27_0 : w9.cell? ⟨gb286, 0, none⟩ = some (.int .i64 0) := (blk_cell BK286.out 0).trans rfl
  have hcz27_1 : w9.cell? ⟨gb286, 1, none⟩ = some (.int .i64 0) := (blk_cell BK286.out 1).trans rfl
  have hfz27_0 := blk_frozen BK286.out 0
  have hfz27_1 := blk_frozen BK286.out 1
  go_wp2
  refine bodyPost_ret (results_ct rfl _ _ gb286 23 #[.int .i64 0, .int .i64 0] (0, 0) _ rfl (by (with_reducible repeat (first | refine blk_drewN ?_ _ | refine blk_drew ?_ | refine blk_alloc ?_ _)); refine blk_put (cs := #[.int .i64 0, .int .i64 0]) ?_ 1 _ rfl; (with_reducible repeat (first | refine blk_drewN ?_ _ | refine blk_drew ?_ | refine blk_alloc ?_ _)); refine blk_put (cs := #[.int .i64 0, .int .i64 0]) ?_ 0 _ rfl; (with_reducible repeat (first | refine blk_drewN ?_ _ | refine blk_drew ?_ | refine blk_alloc ?_ _)); exact BK286.out) Try.underlying23 rfl (by kernel_rfl)) rfl ?_
  exact ⟨by first | rfl | (simp [errW_none, errW_some] <;> rfl) | (simp [*, errW_none, errW_some] <;> rfl), (be_ HB).out⟩
end Go.Proofs.Ytedakilpogagiaa.PAll
end
section
namespace Go.Proofs.Ytedakilpogagiaa.PAll
open Go.RowKit YtedakilpogagiaaW.PrintWords YtedakilpogagiaaW.PrintLast YtedakilpogagiaaW.PrintMore More2 Sq
attribute [local go_sem] max2_int min2_int max_two min_two max_three min_three max_four min_four tdiv2e18_ tdiv1e18_ cellSS_  -- for this text's walks alone
def sun_Longitude.f (k : Nat) (a0 : Int) : Option (Int × Int × Int) := (sun_Series.f).bind fun bt295 => ((series_Angle.f k bt295.1 bt295.2.1 bt295.2.2.1 bt295.2.2.2 a0).bind fun bt301 => (some (bt301.1, bt301.2.1, bt301.2.2)))
theorem sun_Longitude.calls (k : Nat) (a0 : Int) (r1 : Int) (r2 : Int) (r3 : Int) (w : World) (h : sun_Longitude.f k a0 = some (r1, r2, r3)) :
  Calls Try.prog 59 #[.int .i64 a0] w fun e w' => e = .returned (.tuple #[.agg #[.int .i64 r1, .int .i64 r2], .int .i64 r3]) ∧ Below w.heap.size w w' := by
 have hu23 := Try.underlying23
 have HB := Aside0.mk (Below.refl w.heap.size w)
 have H : ((sun_Series.f).bind fun bt295 => ((series_Angle.f k bt295.1 bt295.2.1 bt295.2.2.1 bt295.2.2.2 a0).bind fun bt301 => (some (bt301.1, bt301.2.1, bt301.2.2)))) = some (r1, r2, r3) := h
 clear h
 replace H := Option.bind_eq_some_iff.mp H
 obtain ⟨⟨t295, t296, t297, t300⟩, A20, H⟩ := H
 replace H : ((series_Angle.f k t295 t296 t297 t300 a0).bind fun bt301 => (some (bt301.1, bt301.2.1, bt301.2.2))) = some (r1, r2, r3) := H
 have A2 := Aside0.mk A20
 clear A20
 replace H := Option.bind_eq_some_iff.mp H
 obtain ⟨⟨t301, t302, t303⟩, A30, H⟩ := H
 replace H : (some (t301, t302, t303)) = some (r1, r2, r3) := H
 have A3 := Aside0.mk A30
 clear A30
 simp only [Option.some.injEq, Prod.mk.injEq] at H
 obtain ⟨rfl, rfl, rfl⟩ := H
 go_enter Try.func59, Try.ntmps59
 go_wp2_with (first | ((with_reducible refine gate_dst (N := 2) rfl ?_); refine box_event ?hg (N := 2) ?hd (cs := #[.int .i64 0, .int .i64 0]) (t := 23) ?hr ?_; (case hd => rfl); (case hg => rfl); (case hr => first | (go_simp; done) | (go_simp; rfl)); intro gb294 hg w4 hbox hb; have BK294 := Aside0.mk (hbox); have GW294 := ge_ hg HB; have GE294 := ge_ hg HB; replace HB := bs_ HB hb; clear hb hbox hg) | ((with_reducible refine gate_callee (f := 97) rfl ?_); refine goesL_ (some 4) rfl rfl Try.func97 (by kernel_rfl) rfl #[] rfl (by (try simp only [List.map_toArray, List.map_cons, List.map_nil]); first | done | rfl | (simp only [List.length_drop, List.length_take]; rfl)) ?_; (with_reducible refine (sun_Series.calls  t295 t296 t297 t300 _ A2.out).mono ?_); rintro e w5 ⟨v298, rfl, ho0, hb⟩; refine ⟨_, rfl, ?_⟩; have HO299 := Aside0.mk (Kd.R_lower ho0 (below_size (be_ HB).out)); replace BK294 := kb_ BK294 hb; replace HB := bs_ HB hb; (try clear hb); (try clear hb2); (try clear hk); (try clear hi); (try clear ho0); obtain ⟨Ao6, co6, eo6⟩ := Kd.R_slice HO299.out; subst eo6) | ((with_reducible refine gate_callee (f := 98) rfl ?_); refine goesL_ (some 6) rfl rfl Try.func98 (by kernel_rfl) rfl #[.agg #[.int .i64 t295, .int .i64 t296, .slice Ao6 t297.length co6, .int .i64 t300], .int .i64 a0] rfl (by (try simp only [List.map_toArray, List.map_cons, List.map_nil]); first | done | rfl | (simp only [List.length_drop, List.length_take]; rfl)) ?_; (with_reducible refine (series_Angle.calls k t295 t296 _ _ t297 t300 a0 t301 t302 t303 _ ?side1 ?side2 A3.out).mono ?_); (case side1 => repeat (first | exact (Kd.R_reads' HO299.out).2.2 | (with_reducible refine Kd.C_alloc ?_ _) | (with_reducible refine Kd.C_drewN ?_ _) | (with_reducible refine Kd.C_drew ?_))); (case side2 => exact (Kd.R_reads' HO299.out).2.1); rintro e w7 ⟨rfl, hb⟩; refine ⟨_, rfl, ?_⟩; have n0_ := Aside0.mk (Kd.R_below (by (with_reducible repeat (first | apply Kd.R_alloc | apply Kd.R_drewN | apply Kd.R_drew)); exact HO299.out) hb); have n1_ := kb_ BK294 hb; have n2_ := bs_ HB hb; clear HO299; clear BK294; clear HB; have HO299 := n0_; have BK294 := n1_; have HB := n2_; clear n0_ n1_ n2_; (try clear hb); (try clear hb2); (try clear hk); (try clear hi); have hcz8_0 : w7.cell? ⟨gb294, 0, none⟩ = some (.int .i64 0) := (blk_cell BK294.out 0).trans rfl; have hcz8_1 : w7.cell? ⟨gb294, 1, none⟩ = some (.int .i64 0) := (blk_cell BK294.out 1).trans rfl; have hfz8_0 := blk_frozen BK294.out 0; have hfz8_1 := blk_frozen BK294.out 1))
 refine bodyPost_ret (results_ct rfl _ _ gb294 23 #[.int .i64 t301, .int .i64 t302] (0, 0) _ rfl (by (with_reducible repeat (first | refine blk_drewN ?_ _ | refine blk_drew ?_ | refine blk_alloc ?_ _)); refine blk_put (cs := #[.int .i64 t301, .int .i64 0]) ?_ 1 _ rfl; (with_reducible repeat (first | refine blk_drewN ?_ _ | refine blk_drew ?_ | refine blk_alloc ?_ _)); refine blk_put (cs := #[.int .i64 0, .int .i64 0]) ?_ 0 _ rfl; (with_reducible repeat (first | refine blk_drewN ?_ _ | refine blk_drew ?_ | refine blk_alloc ?_ _)); exact BK294.out) Try.underlying23 rfl (by kernel_rfl)) rfl ?_
 exact ⟨by first | rfl | (simp [errW_none, errW_some] <;> rfl) | (simp [*, errW_none, errW_some] <;> rfl), (be_ HB).out⟩
end Go.Proofs.Ytedakilpogagiaa.PAll
end
section
namespace Go.Proofs.Ytedakilpogagiaa.PAll
open Go Go.RowKit YtedakilpogagiaaW.PrintWords Sx
def sun_At.f (k : Nat) (a0 : Int) : Option (Int × Int × Int × Int × Int) :=
  ob (sun_Longitude.f k a0) fun t1 =>
  oif ((t1.snd.snd != 0) = true) (
   some (0, 0, 0, 0, t1.snd.snd)) (
   ob (sun_Equator.f k t1.fst t1.snd.fst 0 0) fun t2 =>
   some (t2.fst, t2.snd.fst, t2.snd.snd.fst, t2.snd.snd.snd.fst, t2.snd.snd.snd.snd))
def sun_At.OQ {R : Type} (k : Nat) : OraQ R := fun g args K => match g with
  | 16 => (match args with | [.agg ⟨[.int .i64 a0_0, .int .i64 a0_1]⟩, .agg ⟨[.int .i64 a1_0, .int .i64 a1_1]⟩] => (sun_Equator.f k a0_0 a0_1 a1_0 a1_1).bind fun q => K (.tuple ⟨[.agg ⟨[.int .i64 q.1, .int .i64 q.2.1]⟩, .agg ⟨[.int .i64 q.2.2.1, .int .i64 q.2.2.2.1]⟩, .int .i64 q.2.2.2.2]⟩) | _ => none)
  | 59 => (match args with | [.int .i64 a0] => (sun_Longitude.f k a0).bind fun q => K (.tuple ⟨[.agg ⟨[.int .i64 q.1, .int .i64 q.2.1]⟩, .int .i64 q.2.2]⟩) | _ => none)
  | _ => none
theorem sun_At.OQ_ok (k : Nat) (Φ : World → Prop) (base : Nat) {R : Type} : OraQOk Try.prog (fun _ => undef) Φ base (sun_At.OQ (R := R) k) := by
  intro g args K r h
  unfold sun_At.OQ at h
  split at h
  · split at h
    · obtain ⟨q, hq, h⟩ := Option.bind_eq_some_iff.mp h
      exact ⟨_, h, callQ_of rfl rfl fun w => (sun_Equator.calls k _ _ _ _ _ _ _ _ _ w hq).mono fun e w' he => ⟨he.1, he.2⟩⟩
    · cases h
  · split at h
    · obtain ⟨q, hq, h⟩ := Option.bind_eq_some_iff.mp h
      exact ⟨_, h, callQ_of rfl rfl fun w => (sun_Longitude.calls k _ _ _ _ w hq).mono fun e w' he => ⟨he.1, he.2⟩⟩
    · cases h
  · cases h
def sun_At.F (v : Value) (_ : Mem) : Option (Int × Int × Int × Int × Int) := match v with | .tuple ⟨[.agg ⟨[.int .i64 r1, .int .i64 r2]⟩, .agg ⟨[.int .i64 r3, .int .i64 r4]⟩, .int .i64 r5]⟩ => some (r1, r2, r3, r4, r5) | _ => none
theorem sun_At.run (k : Nat) (a0 : Int) : runM Try.prog (liftQ (sun_At.OQ k)) (drawQ Try.prog (sun_At.OQ k)) (fun _ => none) (atEnd Try.prog Try.f23 sun_At.F) 5000 [.code (Try.f23.body.getD .skip)] ([.int .i64 a0] ++ List.replicate (Try.f23.ntmps - ([.int .i64 a0] : List Value).length) undef) [] = sun_At.f k a0 := by kernel_rfl
theorem sun_At.calls (k : Nat) (a0 : Int) (r1 : Int) (r2 : Int) (r3 : Int) (r4 : Int) (r5 : Int) (w : World) (h : sun_At.f k a0 = some (r1, r2, r3, r4, r5)) :
    Calls Try.prog 23 #[.int .i64 a0] w fun e w' => e = .returned (.tuple #[.agg #[.int .i64 r1, .int .i64 r2], .agg #[.int .i64 r3, .int .i64 r4], .int .i64 r5]) ∧ Below w.heap.size w w' := by
  refine calls_closed (OQ := sun_At.OQ k) (LF := fun _ => none) (F := sun_At.F) (r := (r1, r2, r3, r4, r5)) (Checked.mixed Try.checked) (fun Φ base _ => sun_At.OQ_ok k Φ base) (LS := fun _ => True) (fun Φ base _ c _ live len f e => by cases e) Try.func23 rfl (fun _ _ => trivial) rfl (fun u m hu => ?_) rfl (((sun_At.run k a0).trans h)) w
  unfold sun_At.F at hu
  split at hu
  · cases hu; rfl
  · cases hu
end Go.Proofs.Ytedakilpogagiaa.PAll
end
section
namespace Go.Proofs.Ytedakilpogagiaa.PAll
open Go.RowKit YtedakilpogagiaaW.PrintWords YtedakilpogagiaaW.PrintLast YtedakilpogagiaaW.PrintMore More2 Sq
attribute [local go_sem] max2_int min2_int max_two min_two max_three min_three max_four min_four tdiv2e18_ tdiv1e18_ cellSS_  -- for this text's walks alone
theorem eqA23 (d : Nat) (w : World) (x0 y0 : Int) (x1 y1 : Int) :
  (Op.equalIn (d + 2) 23 (.agg #[.int .i64 x0, .int .i64 x1]) (.agg #[.int .i64 y0, .int .i64 y1])).run Try.prog w = .ok (x0 == y0 && (x1 == y1)) w := by
 refine eqA_of Try.underlying23 (by kernel_rfl) ?_
 refine eqf_cons (by rfl) (by go_simp; rfl) (by go_simp; rfl) (by go_simp) ?_
 exact eqf_last (by rfl) (by go_simp; rfl) (by go_simp; rfl) (by go_simp)
end Go.Proofs.Ytedakilpogagiaa.PAll
end
section
namespace Go.Proofs.Ytedakilpogagiaa.PAll
open Go.RowKit YtedakilpogagiaaW.PrintWords YtedakilpogagiaaW.PrintLast YtedakilpogagiaaW.PrintMore More2 Sq
attribute [local go_sem] max2_int min2_int max_two min_two max_three min_three max_four min_four tdiv2e18_ tdiv1e18_ cellSS_  -- for this text's walks alone
attribute [local go_sem high] eqA23
def ephemerislaw2_none.f (a0_0 : Int) (a0_1 : Int) (a1 : Int) (a2 : Int) : Option (Bool) := if a1 = a2 then (some (a0_0 == 0 && (a0_1 == 0))) else (some false)
theorem ephemerislaw2_none.calls (a0_0 : Int) (a0_1 : Int) (a1 : Int) (a2 : Int) (r : Bool) (w : World) (h : ephemerislaw2_none.f a0_0 a0_1 a1 a2 = some r) :
  Calls Try.prog 18 #[.agg #[.int .i64 a0_0, .int .i64 a0_1], .int .i64 a1, .int .i64 a2] w fun e w' => e = .returned (.bool r) ∧ Below w.heap.size w w' := by
 have hu23 := Try.underlying23
 have HB := Aside0.mk (Below.refl w.heap.size w)
 have H : (if a1 = a2 then (some (a0_0 == 0 && (a0_1 == 0))) else (some false)) = some r := h
 clear h
 by_cases c4 : a1 = a2
 ·rw [if_pos c4] at H
  have c4b0 : (a1 == a2) = true := beq_iff_eq.mpr c4
  have c4b1 : (a1 != a2) = false := bne_eq_false_iff_eq.mpr c4
  clear c4
  obtain rfl := Option.some.inj H
  simp only [Option.some.injEq, Prod.mk.injEq] at H
  obtain ⟨rfl⟩ := H
  go_enter Try.func18, Try.ntmps18
  go_wp2_with (first | ((with_reducible refine gate_dst (N := 3) rfl ?_); refine box_event ?hg (N := 3) ?hd (cs := #[.int .i64 a0_0, .int .i64 a0_1]) (t := 23) ?hr ?_; (case hd => rfl); (case hg => rfl); (case hr => first | (go_simp; done) | (go_simp; rfl)); intro gb310 hg w5 hbox hb; have BK310 := Aside0.mk (hbox); have GW310 := ge_ hg HB; have GE310 := ge_ hg HB; replace HB := bs_ HB hb; clear hb hbox hg; have hcz6_0 : w5.cell? ⟨gb310, 0, none⟩ = some (.int .i64 a0_0) := (blk_cell BK310.out 0).trans rfl; have hcz6_1 : w5.cell? ⟨gb310, 1, none⟩ = some (.int .i64 a0_1) := (blk_cell BK310.out 1).trans rfl; have hfz6_0 := blk_frozen BK310.out 0; have hfz6_1 := blk_frozen BK310.out 1))
  go_ret
  exact ⟨by first | rfl | (simp [errW_none, errW_some] <;> rfl) | (simp [*, errW_none, errW_some] <;> rfl), (be_ HB).out⟩
 ·rw [if_neg c4] at H
  have c4b0 : (a1 == a2) = false := beq_eq_false_iff_ne.mpr c4
  have c4b1 : (a1 != a2) = true := bne_iff_ne.mpr c4
  obtain rfl := Option.some.inj H
  simp only [Option.some.injEq, Prod.mk.injEq] at H
  obtain ⟨rfl⟩ := H
  go_enter Try.func18, Try.ntmps18
  go_wp2_with (first | ((with_reducible refine gate_dst (N := 3) rfl ?_); refine box_event ?hg (N := 3) ?hd (cs := #[.int .i64 a0_0, .int .i64 a0_1]) (t := 23) ?hr ?_; (case hd => rfl); (case hg => rfl); (case hr => first | (go_simp; done) | (go_simp; rfl)); intro gb310 hg w7 hbox hb; have BK310 := Aside0.mk (hbox); have GW310 := ge_ hg HB; have GE310 := ge_ hg HB; replace HB := bs_ HB hb; clear hb hbox hg))
  go_ret
  exact ⟨by first | rfl | (simp [errW_none, errW_some] <;> rfl) | (simp [*, errW_none, errW_some] <;> rfl), (be_ HB).out⟩
end Go.Proofs.Ytedakilpogagiaa.PAll
end
section
namespace Go.Proofs.Ytedakilpogagiaa.PAll
open Go.RowKit YtedakilpogagiaaW.PrintWords YtedakilpogagiaaW.PrintLast YtedakilpogagiaaW.PrintMore More2 Sq
attribute [local go_sem] max2_int min2_int max_two min_two max_three min_three max_four min_four tdiv2e18_ tdiv1e18_ cellSS_  -- for this text's walks alone
def ephemerisref2_Mul.f (a0 : Int) (a1 : Int) : Option (Int) := if a0 < 0 then (if a1 < 0 then (some (wrap64 ((-(-1)) * (wrap64 ((wrap64 (((wrap64 (-a0)) / 1073741824) * ((wrap64 (-a1)) / 1073741824))) + ((wrap64 ((wrap64 ((wrap64 (((wrap64 (-a0)) / 1073741824) * (Go.bits .and .i64 (wrap64 (-a1)) 1073741823))) + (wrap64 ((Go.bits .and .i64 (wrap64 (-a0)) 1073741823) * ((wrap64 (-a1)) / 1073741824))))) + ((wrap64 ((Go.bits .and .i64 (wrap64 (-a0)) 1073741823) * (Go.bits .and .i64 (wrap64 (-a1)) 1073741823))) / 1073741824))) / 1073741824)))))) else (some (wrap64 ((-1) * (wrap64 ((wrap64 (((wrap64 (-a0)) / 1073741824) * (a1 / 1073741824))) + ((wrap64 ((wrap64 ((wrap64 (((wrap64 (-a0)) / 1073741824) * (Go.bits .and .i64 a1 1073741823))) + (wrap64 ((Go.bits .and .i64 (wrap64 (-a0)) 1073741823) * (a1 / 1073741824))))) + ((wrap64 ((Go.bits .and .i64 (wrap64 (-a0)) 1073741823) * (Go.bits .and .i64 a1 1073741823))) / 1073741824))) / 1073741824))))))) else (if a1 < 0 then (some (wrap64 ((-1) * (wrap64 ((wrap64 ((a0 / 1073741824) * ((wrap64 (-a1)) / 1073741824))) + ((wrap64 ((wrap64 ((wrap64 ((a0 / 1073741824) * (Go.bits .and .i64 (wrap64 (-a1)) 1073741823))) + (wrap64 ((Go.bits .and .i64 a0 1073741823) * ((wrap64 (-a1)) / 1073741824))))) + ((wrap64 ((Go.bits .and .i64 a0 1073741823) * (Go.bits .and .i64 (wrap64 (-a1)) 1073741823))) / 1073741824))) / 1073741824)))))) else (some (wrap64 (1 * (wrap64 ((wrap64 ((a0 / 1073741824) * (a1 / 1073741824))) + ((wrap64 ((wrap64 ((wrap64 ((a0 / 1073741824) * (Go.bits .and .i64 a1 1073741823))) + (wrap64 ((Go.bits .and .i64 a0 1073741823) * (a1 / 1073741824))))) + ((wrap64 ((Go.bits .and .i64 a0 1073741823) * (Go.bits .and .i64 a1 1073741823))) / 1073741824))) / 1073741824)))))))
theorem ephemerisref2_Mul.calls (a0 : Int) (a1 : Int) (r : Int) (w : World) (h : ephemerisref2_Mul.f a0 a1 = some r) :
  Calls Try.prog 42 #[.int .i64 a0, .int .i64 a1] w fun e w' => e = .returned (.int .i64 r) ∧ Drawn0 w w' := by
 have H : (if a0 < 0 then (if a1 < 0 then (some (wrap64 ((-(-1)) * (wrap64 ((wrap64 (((wrap64 (-a0)) / 1073741824) * ((wrap64 (-a1)) / 1073741824))) + ((wrap64 ((wrap64 ((wrap64 (((wrap64 (-a0)) / 1073741824) * (Go.bits .and .i64 (wrap64 (-a1)) 1073741823))) + (wrap64 ((Go.bits .and .i64 (wrap64 (-a0)) 1073741823) * ((wrap64 (-a1)) / 1073741824))))) + ((wrap64 ((Go.bits .and .i64 (wrap64 (-a0)) 1073741823) * (Go.bits .and .i64 (wrap64 (-a1)) 1073741823))) / 1073741824))) / 1073741824)))))) else (some (wrap64 ((-1) * (wrap64 ((wrap64 (((wrap64 (-a0)) / 1073741824) * (a1 / 1073741824))) + ((wrap64 ((wrap64 ((wrap64 (((wrap64 (-a0)) / 1073741824) * (Go.bits .and .i64 a1 1073741823))) + (wrap64 ((Go.bits .and .i64 (wrap64 (-a0)) 1073741823) * (a1 / 1073741824))))) + ((wrap64 ((Go.bits .and .i64 (wrap64 (-a0)) 1073741823) * (Go.bits .and .i64 a1 1073741823))) / 1073741824))) / 1073741824))))))) else (if a1 < 0 then (some (wrap64 ((-1) * (wrap64 ((wrap64 ((a0 / 1073741824) * ((wrap64 (-a1)) / 1073741824))) + ((wrap64 ((wrap64 ((wrap64 ((a0 / 1073741824) * (Go.bits .and .i64 (wrap64 (-a1)) 1073741823))) + (wrap64 ((Go.bits .and .i64 a0 1073741823) * ((wrap64 (-a1)) / 1073741824))))) + ((wrap64 ((Go.bits .and .i64 a0 1073741823) * (Go.bits .and .i64 (wrap64 (-a1)) 1073741823))) / 1073741824))) / 1073741824)))))) else (some (wrap64 (1 * (wrap64 ((wrap64 ((a0 / 1073741824) * (a1 / 1073741824))) + ((wrap64 ((wrap64 ((wrap64 ((a0 / 1073741824) * (Go.bits .and .i64 a1 1073741823))) + (wrap64 ((Go.bits .and .i64 a0 1073741823) * (a1 / 1073741824))))) + ((wrap64 ((Go.bits .and .i64 a0 1073741823) * (Go.bits .and .i64 a1 1073741823))) / 1073741824))) / 1073741824)))))))) = some r := h
 clear h
 by_cases c3 : a0 < 0
 ·rw [if_pos c3] at H
  have c3b0 : decide (a0 < 0) = true := decide_eq_true c3
  clear c3
  by_cases c4 : a1 < 0
  ·rw [if_pos c4] at H
   have c4b0 : decide (a1 < 0) = true := decide_eq_true c4
   clear c4
   obtain rfl := Option.some.inj H
   simp only [Option.some.injEq, Prod.mk.injEq] at H
   obtain ⟨rfl⟩ := H
   go_enter Try.func42, Try.ntmps42
   go_wp2
   go_ret
   exact ⟨by first | rfl | (simp; done) | (simp [*]; done), by repeat (first | exact Drawn0.refl _ | apply Drawn0.step)⟩
  ·rw [if_neg c4] at H
   have c4b0 : decide (a1 < 0) = false := decide_eq_false c4
   clear c4
   obtain rfl := Option.some.inj H
   simp only [Option.some.injEq, Prod.mk.injEq] at H
   obtain ⟨rfl⟩ := H
   go_enter Try.func42, Try.ntmps42
   go_wp2
   go_ret
   exact ⟨by first | rfl | (simp; done) | (simp [*]; done), by repeat (first | exact Drawn0.refl _ | apply Drawn0.step)⟩
 ·rw [if_neg c3] at H
  have c3b0 : decide (a0 < 0) = false := decide_eq_false c3
  clear c3
  by_cases c5 : a1 < 0
  ·rw [if_pos c5] at H
   have c5b0 : decide (a1 < 0) = true := decide_eq_true c5
   clear c5
   obtain rfl := Option.some.inj H
   simp only [Option.some.injEq, Prod.mk.injEq] at H
   obtain ⟨rfl⟩ := H
   go_enter Try.func42, Try.ntmps42
   go_wp2
   go_ret
   exact ⟨by first | rfl | (simp; done) | (simp [*]; done), by repeat (first | exact Drawn0.refl _ | apply Drawn0.step)⟩
  ·rw [if_neg c5] at H
   have c5b0 : decide (a1 < 0) = false := decide_eq_false c5
   clear c5
   obtain rfl := Option.some.inj H
   simp only [Option.some.injEq, Prod.mk.injEq] at H
   obtain ⟨rfl⟩ := H
   go_enter Try.func42, Try.ntmps42
   go_wp2
   go_ret
   exact ⟨by first | rfl | (simp; done) | (simp [*]; done), by repeat (first | exact Drawn0.refl _ | apply Drawn0.step)⟩
end Go.Proofs.Ytedakilpogagiaa.PAll
end
section
namespace Go.Proofs.Ytedakilpogagiaa.PAll
open Go.RowKit YtedakilpogagiaaW.PrintWords YtedakilpogagiaaW.PrintLast YtedakilpogagiaaW.PrintMore More2 Sq
attribute [local go_sem] max2_int min2_int max_two min_two max_three min_three max_four min_four tdiv2e18_ tdiv1e18_ cellSS_  -- for this text's walks alone
def ephemerisref2_Mod.f (a0 : Int) (a1 : Int) : Option (Int) := if a1 = 0 then (none) else (if (Int.tmod a0 a1) < 0 then (some (wrap64 ((Int.tmod a0 a1) + a1))) else (some (Int.tmod a0 a1)))
theorem ephemerisref2_Mod.calls (a0 : Int) (a1 : Int) (r : Int) (w : World) (h : ephemerisref2_Mod.f a0 a1 = some r) :
  Calls Try.prog 20 #[.int .i64 a0, .int .i64 a1] w fun e w' => e = .returned (.int .i64 r) ∧ Drawn0 w w' := by
 have H : (if a1 = 0 then (none) else (if (Int.tmod a0 a1) < 0 then (some (wrap64 ((Int.tmod a0 a1) + a1))) else (some (Int.tmod a0 a1)))) = some r := h
 clear h
 by_cases c3 : a1 = 0
 ·rw [if_pos c3] at H
  exact absurd H (by simp)
 ·rw [if_neg c3] at H
  have c3b0 : (a1 == 0) = false := beq_eq_false_iff_ne.mpr c3
  have c3b1 : (a1 != 0) = true := bne_iff_ne.mpr c3
  by_cases c4 : (Int.tmod a0 a1) < 0
  ·rw [if_pos c4] at H
   have c4b0 : decide ((Int.tmod a0 a1) < 0) = true := decide_eq_true c4
   clear c4
   obtain rfl := Option.some.inj H
   simp only [Option.some.injEq, Prod.mk.injEq] at H
   obtain ⟨rfl⟩ := H
   go_enter Try.func20, Try.ntmps20
   go_wp2
   go_ret
   exact ⟨by first | rfl | (simp; done) | (simp [*]; done), by repeat (first | exact Drawn0.refl _ | apply Drawn0.step)⟩
  ·rw [if_neg c4] at H
   have c4b0 : decide ((Int.tmod a0 a1) < 0) = false := decide_eq_false c4
   clear c4
   obtain rfl := Option.some.inj H
   simp only [Option.some.injEq, Prod.mk.injEq] at H
   obtain ⟨rfl⟩ := H
   go_enter Try.func20, Try.ntmps20
   go_wp2
   go_ret
   exact ⟨by first | rfl | (simp; done) | (simp [*]; done), by repeat (first | exact Drawn0.refl _ | apply Drawn0.step)⟩
end Go.Proofs.Ytedakilpogagiaa.PAll
end
section
namespace Go.Proofs.Ytedakilpogagiaa.PAll
open Go.RowKit YtedakilpogagiaaW.PrintWords YtedakilpogagiaaW.PrintLast YtedakilpogagiaaW.PrintMore More2 Sq
attribute [local go_sem] max2_int min2_int max_two min_two max_three min_three max_four min_four tdiv2e18_ tdiv1e18_ cellSS_  -- for this text's walks alone
def ephemerisref2_SinCos.l0 : Nat → Int → Int → Int → Option (Int × Int)
 | 0, _, _, _ => none
 | k + 1, x6, x7, x41 => if x41 < 12 then ((ephemerisref2_Mul.f x6 (wrap64 (1152921504606846976 - x7))).bind fun t317 => ((ephemerisref2_Mul.f x6 x6).bind fun t318 => (ephemerisref2_SinCos.l0 k (wrap64 (2 * t317)) (wrap64 (2 * t318)) (wrap64 (x41 + 1))))) else (some (x6, wrap64 (1152921504606846976 - x7)))
def ephemerisref2_SinCos.f (k : Nat) (a0 : Int) : Option (Int × Int) := (ephemerisref2_Mod.f a0 1000000000000000).bind fun t311 => ((ephemerisref2_Mul.f ((wrap64 ((wrap64 (t311 * 7244)) + (wrap64 (Int.tdiv (wrap64 ((wrap64 (Int.tdiv t311 1000000)) * 19458077)) 1000)))) / 4096) ((wrap64 ((wrap64 (t311 * 7244)) + (wrap64 (Int.tdiv (wrap64 ((wrap64 (Int.tdiv t311 1000000)) * 19458077)) 1000)))) / 4096)).bind fun t312 => ((ephemerisref2_Mul.f ((wrap64 ((wrap64 (t311 * 7244)) + (wrap64 (Int.tdiv (wrap64 ((wrap64 (Int.tdiv t311 1000000)) * 19458077)) 1000)))) / 4096) t312).bind fun t313 => ((ephemerisref2_Mul.f ((wrap64 ((wrap64 (t311 * 7244)) + (wrap64 (Int.tdiv (wrap64 ((wrap64 (Int.tdiv t311 1000000)) * 19458077)) 1000)))) / 4096) t312).bind fun t314 => ((ephemerisref2_Mul.f t314 t312).bind fun t315 => ((ephemerisref2_Mul.f t312 t312).bind fun t316 => (ephemerisref2_SinCos.l0 k (wrap64 ((wrap64 (((wrap64 ((wrap64 (t311 * 7244)) + (wrap64 (Int.tdiv (wrap64 ((wrap64 (Int.tdiv t311 1000000)) * 19458077)) 1000)))) / 4096) - (wrap64 (Int.tdiv t313 6)))) + (wrap64 (Int.tdiv t315 120)))) (wrap64 ((wrap64 (Int.tdiv t312 2)) - (wrap64 (Int.tdiv t316 24)))) 0))))))
theorem ephemerisref2_SinCos.calls (k : Nat) (a0 : Int) (r1 : Int) (r2 : Int) (w : World) (h : ephemerisref2_SinCos.f k a0 = some (r1, r2)) :
  Calls Try.prog 40 #[.int .i64 a0] w fun e w' => e = .returned (.tuple #[.int .i64 r1, .int .i64 r2]) ∧ Drawn0 w w' := by
 have H : ((ephemerisref2_Mod.f a0 1000000000000000).bind fun t311 => ((ephemerisref2_Mul.f ((wrap64 ((wrap64 (t311 * 7244)) + (wrap64 (Int.tdiv (wrap64 ((wrap64 (Int.tdiv t311 1000000)) * 19458077)) 1000)))) / 4096) ((wrap64 ((wrap64 (t311 * 7244)) + (wrap64 (Int.tdiv (wrap64 ((wrap64 (Int.tdiv t311 1000000)) * 19458077)) 1000)))) / 4096)).bind fun t312 => ((ephemerisref2_Mul.f ((wrap64 ((wrap64 (t311 * 7244)) + (wrap64 (Int.tdiv (wrap64 ((wrap64 (Int.tdiv t311 1000000)) * 19458077)) 1000)))) / 4096) t312).bind fun t313 => ((ephemerisref2_Mul.f ((wrap64 ((wrap64 (t311 * 7244)) + (wrap64 (Int.tdiv (wrap64 ((wrap64 (Int.tdiv t311 1000000)) * 19458077)) 1000)))) / 4096) t312).bind fun t314 => ((ephemerisref2_Mul.f t314 t312).bind fun t315 => ((ephemerisref2_Mul.f t312 t312).bind fun t316 => (ephemerisref2_SinCos.l0 k (wrap64 ((wrap64 (((wrap64 ((wrap64 (t311 * 7244)) + (wrap64 (Int.tdiv (wrap64 ((wrap64 (Int.tdiv t311 1000000)) * 19458077)) 1000)))) / 4096) - (wrap64 (Int.tdiv t313 6)))) + (wrap64 (Int.tdiv t315 120)))) (wrap64 ((wrap64 (Int.tdiv t312 2)) - (wrap64 (Int.tdiv t316 24)))) 0))))))) = some (r1, r2) := h
 clear h
 replace H := Option.bind_eq_some_iff.mp H
 obtain ⟨t311, A20, H⟩ := H
 replace H : ((ephemerisref2_Mul.f ((wrap64 ((wrap64 (t311 * 7244)) + (wrap64 (Int.tdiv (wrap64 ((wrap64 (Int.tdiv t311 1000000)) * 19458077)) 1000)))) / 4096) ((wrap64 ((wrap64 (t311 * 7244)) + (wrap64 (Int.tdiv (wrap64 ((wrap64 (Int.tdiv t311 1000000)) * 19458077)) 1000)))) / 4096)).bind fun t312 => ((ephemerisref2_Mul.f ((wrap64 ((wrap64 (t311 * 7244)) + (wrap64 (Int.tdiv (wrap64 ((wrap64 (Int.tdiv t311 1000000)) * 19458077)) 1000)))) / 4096) t312).bind fun t313 => ((ephemerisref2_Mul.f ((wrap64 ((wrap64 (t311 * 7244)) + (wrap64 (Int.tdiv (wrap64 ((wrap64 (Int.tdiv t311 1000000)) * 19458077)) 1000)))) / 4096) t312).bind fun t314 => ((ephemerisref2_Mul.f t314 t312).bind fun t315 => ((ephemerisref2_Mul.f t312 t312).bind fun t316 => (ephemerisref2_SinCos.l0 k (wrap64 ((wrap64 (((wrap64 ((wrap64 (t311 * 7244)) + (wrap64 (Int.tdiv (wrap64 ((wrap64 (Int.tdiv t311 1000000)) * 19458077)) 1000)))) / 4096) - (wrap64 (Int.tdiv t313 6)))) + (wrap64 (Int.tdiv t315 120)))) (wrap64 ((wrap64 (Int.tdiv t312 2)) - (wrap64 (Int.tdiv t316 24)))) 0)))))) = some (r1, r2) := H
 have A2 := Aside0.mk A20
 clear A20
 replace H := Option.bind_eq_some_iff.mp H
 obtain ⟨t312, A30, H⟩ := H
 replace H : ((ephemerisref2_Mul.f ((wrap64 ((wrap64 (t311 * 7244)) + (wrap64 (Int.tdiv (wrap64 ((wrap64 (Int.tdiv t311 1000000)) * 19458077)) 1000)))) / 4096) t312).bind fun t313 => ((ephemerisref2_Mul.f ((wrap64 ((wrap64 (t311 * 7244)) + (wrap64 (Int.tdiv (wrap64 ((wrap64 (Int.tdiv t311 1000000)) * 19458077)) 1000)))) / 4096) t312).bind fun t314 => ((ephemerisref2_Mul.f t314 t312).bind fun t315 => ((ephemerisref2_Mul.f t312 t312).bind fun t316 => (ephemerisref2_SinCos.l0 k (wrap64 ((wrap64 (((wrap64 ((wrap64 (t311 * 7244)) + (wrap64 (Int.tdiv (wrap64 ((wrap64 (Int.tdiv t311 1000000)) * 19458077)) 1000)))) / 4096) - (wrap64 (Int.tdiv t313 6)))) + (wrap64 (Int.tdiv t315 120)))) (wrap64 ((wrap64 (Int.tdiv t312 2)) - (wrap64 (Int.tdiv t316 24)))) 0))))) = some (r1, r2) := H
 have A3 := Aside0.mk A30
 clear A30
 replace H := Option.bind_eq_some_iff.mp H
 obtain ⟨t313, A40, H⟩ := H
 replace H : ((ephemerisref2_Mul.f ((wrap64 ((wrap64 (t311 * 7244)) + (wrap64 (Int.tdiv (wrap64 ((wrap64 (Int.tdiv t311 1000000)) * 19458077)) 1000)))) / 4096) t312).bind fun t314 => ((ephemerisref2_Mul.f t314 t312).bind fun t315 => ((ephemerisref2_Mul.f t312 t312).bind fun t316 => (ephemerisref2_SinCos.l0 k (wrap64 ((wrap64 (((wrap64 ((wrap64 (t311 * 7244)) + (wrap64 (Int.tdiv (wrap64 ((wrap64 (Int.tdiv t311 1000000)) * 19458077)) 1000)))) / 4096) - (wrap64 (Int.tdiv t313 6)))) + (wrap64 (Int.tdiv t315 120)))) (wrap64 ((wrap64 (Int.tdiv t312 2)) - (wrap64 (Int.tdiv t316 24)))) 0)))) = some (r1, r2) := H
 have A4 := Aside0.mk A40
 clear A40
 replace H := Option.bind_eq_some_iff.mp H
 obtain ⟨t314, A50, H⟩ := H
 replace H : ((ephemerisref2_Mul.f t314 t312).bind fun t315 => ((ephemerisref2_Mul.f t312 t312).bind fun t316 => (ephemerisref2_SinCos.l0 k (wrap64 ((wrap64 (((wrap64 ((wrap64 (t311 * 7244)) + (wrap64 (Int.tdiv (wrap64 ((wrap64 (Int.tdiv t311 1000000)) * 19458077)) 1000)))) / 4096) - (wrap64 (Int.tdiv t313 6)))) + (wrap64 (Int.tdiv t315 120)))) (wrap64 ((wrap64 (Int.tdiv t312 2)) - (wrap64 (Int.tdiv t316 24)))) 0))) = some (r1, r2) := H
 have A5 := Aside0.mk A50
 clear A50
 replace H := Option.bind_eq_some_iff.mp H
 obtain ⟨t315, A60, H⟩ := H
 replace H : ((ephemerisref2_Mul.f t312 t312).bind fun t316 => (ephemerisref2_SinCos.l0 k (wrap64 ((wrap64 (((wrap64 ((wrap64 (t311 * 7244)) + (wrap64 (Int.tdiv (wrap64 ((wrap64 (Int.tdiv t311 1000000)) * 19458077)) 1000)))) / 4096) - (wrap64 (Int.tdiv t313 6)))) + (wrap64 (Int.tdiv t315 120)))) (wrap64 ((wrap64 (Int.tdiv t312 2)) - (wrap64 (Int.tdiv t316 24)))) 0)) = some (r1, r2) := H
 have A6 := Aside0.mk A60
 clear A60
 replace H := Option.bind_eq_some_iff.mp H
 obtain ⟨t316, A70, H⟩ := H
 replace H : (ephemerisref2_SinCos.l0 k (wrap64 ((wrap64 (((wrap64 ((wrap64 (t311 * 7244)) + (wrap64 (Int.tdiv (wrap64 ((wrap64 (Int.tdiv t311 1000000)) * 19458077)) 1000)))) / 4096) - (wrap64 (Int.tdiv t313 6)))) + (wrap64 (Int.tdiv t315 120)))) (wrap64 ((wrap64 (Int.tdiv t312 2)) - (wrap64 (Int.tdiv t316 24)))) 0) = some (r1, r2) := H
 have A7 := Aside0.mk A70
 clear A70
 have H' := Aside0.mk H
 clear H
 go_enter Try.func40, Try.ntmps40
 go_wp2_with (first | ((with_reducible refine gate_callee (f := 20) rfl ?_); refine goesL_ (some 9) rfl rfl Try.func20 (by kernel_rfl) rfl #[.int .i64 a0, .int .i64 1000000000000000] rfl (by (try simp only [List.map_toArray, List.map_cons, List.map_nil]); first | done | rfl | (simp only [List.length_drop, List.length_take]; rfl)) ?_; (with_reducible refine (ephemerisref2_Mod.calls a0 1000000000000000 t311 _ A2.out).mono ?_); rintro e w' ⟨rfl, ⟨nd, rfl⟩⟩; refine ⟨_, rfl, ?_⟩) | ((with_reducible refine gate_callee (f := 42) rfl ?_); refine goesL_ (some 20) rfl rfl Try.func42 (by kernel_rfl) rfl #[.int .i64 ((wrap64 ((wrap64 (t311 * 7244)) + (wrap64 (Int.tdiv (wrap64 ((wrap64 (Int.tdiv t311 1000000)) * 19458077)) 1000)))) / 4096), .int .i64 ((wrap64 ((wrap64 (t311 * 7244)) + (wrap64 (Int.tdiv (wrap64 ((wrap64 (Int.tdiv t311 1000000)) * 19458077)) 1000)))) / 4096)] rfl (by (try simp only [List.map_toArray, List.map_cons, List.map_nil]); first | done | rfl | (simp only [List.length_drop, List.length_take]; rfl)) ?_; (with_reducible refine (ephemerisref2_Mul.calls ((wrap64 ((wrap64 (t311 * 7244)) + (wrap64 (Int.tdiv (wrap64 ((wrap64 (Int.tdiv t311 1000000)) * 19458077)) 1000)))) / 4096) ((wrap64 ((wrap64 (t311 * 7244)) + (wrap64 (Int.tdiv (wrap64 ((wrap64 (Int.tdiv t311 1000000)) * 19458077)) 1000)))) / 4096) t312 _ A3.out).mono ?_); rintro e w' ⟨rfl, ⟨nd, rfl⟩⟩; refine ⟨_, rfl, ?_⟩) | ((with_reducible refine gate_callee (f := 42) rfl ?_); refine goesL_ (some 24) rfl rfl Try.func42 (by kernel_rfl) rfl #[.int .i64 ((wrap64 ((wrap64 (t311 * 7244)) + (wrap64 (Int.tdiv (wrap64 ((wrap64 (Int.tdiv t311 1000000)) * 19458077)) 1000)))) / 4096), .int .i64 t312] rfl (by (try simp only [List.map_toArray, List.map_cons, List.map_nil]); first | done | rfl | (simp only [List.length_drop, List.length_take]; rfl)) ?_; (with_reducible refine (ephemerisref2_Mul.calls ((wrap64 ((wrap64 (t311 * 7244)) + (wrap64 (Int.tdiv (wrap64 ((wrap64 (Int.tdiv t311 1000000)) * 19458077)) 1000)))) / 4096) t312 t313 _ A4.out).mono ?_); rintro e w' ⟨rfl, ⟨nd, rfl⟩⟩; refine ⟨_, rfl, ?_⟩) | ((with_reducible refine gate_callee (f := 42) rfl ?_); refine goesL_ (some 29) rfl rfl Try.func42 (by kernel_rfl) rfl #[.int .i64 ((wrap64 ((wrap64 (t311 * 7244)) + (wrap64 (Int.tdiv (wrap64 ((wrap64 (Int.tdiv t311 1000000)) * 19458077)) 1000)))) / 4096), .int .i64 t312] rfl (by (try simp only [List.map_toArray, List.map_cons, List.map_nil]); first | done | rfl | (simp only [List.length_drop, List.length_take]; rfl)) ?_; (with_reducible refine (ephemerisref2_Mul.calls ((wrap64 ((wrap64 (t311 * 7244)) + (wrap64 (Int.tdiv (wrap64 ((wrap64 (Int.tdiv t311 1000000)) * 19458077)) 1000)))) / 4096) t312 t314 _ A5.out).mono ?_); rintro e w' ⟨rfl, ⟨nd, rfl⟩⟩; refine ⟨_, rfl, ?_⟩) | ((with_reducible refine gate_callee (f := 42) rfl ?_); refine goesL_ (some 31) rfl rfl Try.func42 (by kernel_rfl) rfl #[.int .i64 t314, .int .i64 t312] rfl (by (try simp only [List.map_toArray, List.map_cons, List.map_nil]); first | done | rfl | (simp only [List.length_drop, List.length_take]; rfl)) ?_; (with_reducible refine (ephemerisref2_Mul.calls t314 t312 t315 _ A6.out).mono ?_); rintro e w' ⟨rfl, ⟨nd, rfl⟩⟩; refine ⟨_, rfl, ?_⟩) | ((with_reducible refine gate_callee (f := 42) rfl ?_); refine goesL_ (some 38) rfl rfl Try.func42 (by kernel_rfl) rfl #[.int .i64 t312, .int .i64 t312] rfl (by (try simp only [List.map_toArray, List.map_cons, List.map_nil]); first | done | rfl | (simp only [List.length_drop, List.length_take]; rfl)) ?_; (with_reducible refine (ephemerisref2_Mul.calls t312 t312 t316 _ A7.out).mono ?_); rintro e w' ⟨rfl, ⟨nd, rfl⟩⟩; refine ⟨_, rfl, ?_⟩))
 go_loopg [6, 7, 41] k (fun kq v6 v7 v41 w' => ∃ (x6_1 : Int) (x7_1 : Int) (x41_1 : Int), v6 = .int .i64 x6_1 ∧ v7 = .int .i64 x7_1 ∧ v41 = .int .i64 x41_1 ∧ Aside0 (ephemerisref2_SinCos.l0 kq x6_1 x7_1 x41_1 = some (r1, r2)) ∧ Aside0 (kq ≤ k) ∧ Drawn0 w w')
 case atStart => exact ⟨(wrap64 ((wrap64 (((wrap64 ((wrap64 (t311 * 7244)) + (wrap64 (Int.tdiv (wrap64 ((wrap64 (Int.tdiv t311 1000000)) * 19458077)) 1000)))) / 4096) - (wrap64 (Int.tdiv t313 6)))) + (wrap64 (Int.tdiv t315 120)))), (wrap64 ((wrap64 (Int.tdiv t312 2)) - (wrap64 (Int.tdiv t316 24)))), (0), (by first | rfl | (simp; done) | (simp [*]; done)), (by first | rfl | (simp; done) | (simp [*]; done)), (by first | rfl | (simp; done) | (simp [*]; done)), H', ⟨Nat.le_refl _⟩, by repeat (first | exact Drawn0.refl _ | apply Drawn0.step)⟩
 case round =>
  clear H'
  try clear c2
  try clear p2
  try clear c4
  try clear p6
  obtain ⟨x6_1, x7_1, x41_1, rfl, rfl, rfl, HA, HK1, ⟨m1, rfl⟩⟩ := hrel
  cases gk with
  | zero => exact absurd HA.out (by simp [ephemerisref2_SinCos.l0])
  | succ k1 =>
   have H := HA.out
   clear HA
   simp only [ephemerisref2_SinCos.l0] at H
   by_cases c8 : x41_1 < 12
   ·rw [if_pos c8] at H
    have c8b0 : decide (x41_1 < 12) = true := decide_eq_true c8
    clear c8
    replace H := Option.bind_eq_some_iff.mp H
    obtain ⟨t317, A90, H⟩ := H
    replace H : ((ephemerisref2_Mul.f x6_1 x6_1).bind fun t318 => (ephemerisref2_SinCos.l0 k1 (wrap64 (2 * t317)) (wrap64 (2 * t318)) (wrap64 (x41_1 + 1)))) = some (r1, r2) := H
    have A9 := Aside0.mk A90
    clear A90
    replace H := Option.bind_eq_some_iff.mp H
    obtain ⟨t318, A100, H⟩ := H
    replace H : (ephemerisref2_SinCos.l0 k1 (wrap64 (2 * t317)) (wrap64 (2 * t318)) (wrap64 (x41_1 + 1))) = some (r1, r2) := H
    have A10 := Aside0.mk A100
    clear A100
    have H' := Aside0.mk H
    clear H
    go_wp2_with (first | ((with_reducible refine gate_callee (f := 42) rfl ?_); refine goesL_ (some 46) rfl rfl Try.func42 (by kernel_rfl) rfl #[.int .i64 x6_1, .int .i64 (wrap64 (1152921504606846976 - x7_1))] rfl (by (try simp only [List.map_toArray, List.map_cons, List.map_nil]); first | done | rfl | (simp only [List.length_drop, List.length_take]; rfl)) ?_; (with_reducible refine (ephemerisref2_Mul.calls x6_1 (wrap64 (1152921504606846976 - x7_1)) t317 _ A9.out).mono ?_); rintro e w' ⟨rfl, ⟨nd, rfl⟩⟩; refine ⟨_, rfl, ?_⟩) | ((with_reducible refine gate_callee (f := 42) rfl ?_); refine goesL_ (some 50) rfl rfl Try.func42 (by kernel_rfl) rfl #[.int .i64 x6_1, .int .i64 x6_1] rfl (by (try simp only [List.map_toArray, List.map_cons, List.map_nil]); first | done | rfl | (simp only [List.length_drop, List.length_take]; rfl)) ?_; (with_reducible refine (ephemerisref2_Mul.calls x6_1 x6_1 t318 _ A10.out).mono ?_); rintro e w' ⟨rfl, ⟨nd, rfl⟩⟩; refine ⟨_, rfl, ?_⟩))
    go_roundg k1
    case measure => have := HK1.out; omega
    case rel => exact ⟨(wrap64 (2 * t317)), (wrap64 (2 * t318)), (wrap64 (x41_1 + 1)), (by first | rfl | (simp; done) | (simp [*]; done)), (by first | rfl | (simp; done) | (simp [*]; done)), (by first | rfl | (simp; done) | (simp [*]; done)), H', ⟨by have := HK1.out; omega⟩, by repeat (first | exact Drawn0.refl _ | apply Drawn0.step)⟩
   ·rw [if_neg c8] at H
    have c8b0 : decide (x41_1 < 12) = false := decide_eq_false c8
    clear c8
    simp only [Option.some.injEq, Prod.mk.injEq] at H
    obtain ⟨rfl, rfl⟩ := H
    go_wp2
    go_ret2
    exact ⟨by first | rfl | (simp; done) | (simp [*]; done), by repeat (first | exact Drawn0.refl _ | apply Drawn0.step)⟩
end Go.Proofs.Ytedakilpogagiaa.PAll
end
section
namespace Go.Proofs.Ytedakilpogagiaa.PAll
open Go Go.RowKit YtedakilpogagiaaW.PrintWords Sx
def ephemerisref2_InArc.f (k : Nat) (a0_0 : Int) (a0_1 : Int) (a1 : Int) (a2 : Int) : Option (Bool) :=
  oif (decide (a0_0 < 0) = true) (
   some (false)) (
   oif (decide (a0_0 ≥ 1000000000) = true) (
    some (false)) (
    oif (decide (IntKind.i64.wrap (a0_1 - a0_0) > 400000000) = true) (
     some (false)) (
     ob (ephemerisref2_SinCos.f k (IntKind.i64.wrap (a0_0.tmod 1000000000 * 1000000))) fun t1 =>
     ob (ephemerisref2_SinCos.f k (IntKind.i64.wrap (a0_1.tmod 1000000000 * 1000000))) fun t2 =>
     ob (ephemerisref2_Mul.f t1.snd a1) fun t3 =>
     ob (ephemerisref2_Mul.f t1.fst a2) fun t4 =>
     oif (decide (IntKind.i64.wrap (t3 - t4) ≥ -2147483648) = true) (
      ob (ephemerisref2_Mul.f t2.fst a2) fun t5 =>
      ob (ephemerisref2_Mul.f t2.snd a1) fun t6 =>
      oif (decide (IntKind.i64.wrap (t5 - t6) ≥ -2147483648) = true) (
       ob (ephemerisref2_Mul.f t1.snd a2) fun t7 =>
       ob (ephemerisref2_Mul.f t1.fst a1) fun t8 =>
       ob (ephemerisref2_Mul.f t2.snd a2) fun t9 =>
       ob (ephemerisref2_Mul.f t2.fst a1) fun t10 =>
       some (decide (IntKind.i64.wrap (IntKind.i64.wrap (IntKind.i64.wrap (t7 + t8) + t9) + t10) > -2147483648))) (
       some (false))) (
      some (false)))))
def ephemerisref2_InArc.OQ {R : Type} (k : Nat) : OraQ R := fun g args K => match g with
  | 40 => (match args with | [.int .i64 a0] => (ephemerisref2_SinCos.f k a0).bind fun q => K (.tuple ⟨[.int .i64 q.1, .int .i64 q.2]⟩) | _ => none)
  | 42 => (match args with | [.int .i64 a0, .int .i64 a1] => (ephemerisref2_Mul.f a0 a1).bind fun q => K (.int .i64 q) | _ => none)
  | _ => none
theorem ephemerisref2_InArc.OQ_ok (k : Nat) (Φ : World → Prop) (base : Nat) {R : Type} : OraQOk Try.prog (fun _ => undef) Φ base (ephemerisref2_InArc.OQ (R := R) k) := by
  intro g args K r h
  unfold ephemerisref2_InArc.OQ at h
  split at h
  · split at h
    · obtain ⟨q, hq, h⟩ := Option.bind_eq_some_iff.mp h
      exact ⟨_, h, callQ_of rfl rfl fun w => (ephemerisref2_SinCos.calls k _ _ _ w hq).mono fun e w' he => ⟨he.1, he.2.below⟩⟩
    · cases h
  · split at h
    · obtain ⟨q, hq, h⟩ := Option.bind_eq_some_iff.mp h
      exact ⟨_, h, callQ_of rfl rfl fun w => (ephemerisref2_Mul.calls _ _ _ w hq).mono fun e w' he => ⟨he.1, he.2.below⟩⟩
    · cases h
  · cases h
def ephemerisref2_InArc.F (v : Value) (_ : Mem) : Option (Bool) := match v with | .bool r => some (r) | _ => none
theorem ephemerisref2_InArc.run (k : Nat) (a0_0 : Int) (a0_1 : Int) (a1 : Int) (a2 : Int) : runM Try.prog (liftQ (ephemerisref2_InArc.OQ k)) (drawQ Try.prog (ephemerisref2_InArc.OQ k)) (fun _ => none) (atEnd Try.prog Try.f21 ephemerisref2_InArc.F) 5000 [.code (Try.f21.body.getD .skip)] ([.agg ⟨[.int .i64 a0_0, .int .i64 a0_1]⟩, .int .i64 a1, .int .i64 a2] ++ List.replicate (Try.f21.ntmps - ([.agg ⟨[.int .i64 a0_0, .int .i64 a0_1]⟩, .int .i64 a1, .int .i64 a2] : List Value).length) undef) [] = ephemerisref2_InArc.f k a0_0 a0_1 a1 a2 := by kernel_rfl
theorem ephemerisref2_InArc.calls (k : Nat) (a0_0 : Int) (a0_1 : Int) (a1 : Int) (a2 : Int) (r : Bool) (w : World) (h : ephemerisref2_InArc.f k a0_0 a0_1 a1 a2 = some (r)) :
    Calls Try.prog 21 #[.agg #[.int .i64 a0_0, .int .i64 a0_1], .int .i64 a1, .int .i64 a2] w fun e w' => e = .returned (.bool r) ∧ Below w.heap.size w w' := by
  refine calls_closed (OQ := ephemerisref2_InArc.OQ k) (LF := fun _ => none) (F := ephemerisref2_InArc.F) (r := (r)) (Checked.mixed Try.checked) (fun Φ base _ => ephemerisref2_InArc.OQ_ok k Φ base) (LS := fun _ => True) (fun Φ base _ c _ live len f e => by cases e) Try.func21 rfl (fun _ _ => trivial) rfl (fun u m hu => ?_) rfl (((ephemerisref2_InArc.run k a0_0 a0_1 a1 a2).trans h)) w
  unfold ephemerisref2_InArc.F at hu
  split at hu
  · cases hu; rfl
  · cases hu
end Go.Proofs.Ytedakilpogagiaa.PAll
end
section
namespace Go.Proofs.Ytedakilpogagiaa.PAll
open Go.RowKit YtedakilpogagiaaW.PrintWords YtedakilpogagiaaW.PrintLast YtedakilpogagiaaW.PrintMore More2 Sq
attribute [local go_sem] max2_int min2_int max_two min_two max_three min_three max_four min_four tdiv2e18_ tdiv1e18_ cellSS_  -- for this text's walks alone
def ephemerisref2_InstantErr.f (a0 : Int) : Option (Int) := if a0 < (-345600000000000) then (some 3) else (if a0 ≥ 345600086400000 then (some 3) else (some 0))
theorem ephemerisref2_InstantErr.calls (a0 : Int) (r : Int) (w : World) (h : ephemerisref2_InstantErr.f a0 = some r) :
  Calls Try.prog 24 #[.int .i64 a0] w fun e w' => e = .returned (.int .i64 r) ∧ Drawn0 w w' := by
 have H : (if a0 < (-345600000000000) then (some 3) else (if a0 ≥ 345600086400000 then (some 3) else (some 0))) = some r := h
 clear h
 by_cases c2 : a0 < (-345600000000000)
 ·rw [if_pos c2] at H
  have c2b0 : decide (a0 < (-345600000000000)) = true := decide_eq_true c2
  clear c2
  obtain rfl := Option.some.inj H
  simp only [Option.some.injEq, Prod.mk.injEq] at H
  obtain ⟨rfl⟩ := H
  go_enter Try.func24, Try.ntmps24
  go_wp2
  go_ret
  exact ⟨by first | rfl | (simp; done) | (simp [*]; done), by repeat (first | exact Drawn0.refl _ | apply Drawn0.step)⟩
 ·rw [if_neg c2] at H
  have c2b0 : decide (a0 < (-345600000000000)) = false := decide_eq_false c2
  clear c2
  by_cases c3 : a0 ≥ 345600086400000
  ·rw [if_pos c3] at H
   have c3b0 : decide (345600086400000 ≤ a0) = true := decide_eq_true c3
   clear c3
   obtain rfl := Option.some.inj H
   simp only [Option.some.injEq, Prod.mk.injEq] at H
   obtain ⟨rfl⟩ := H
   go_enter Try.func24, Try.ntmps24
   go_wp2
   go_ret
   exact ⟨by first | rfl | (simp; done) | (simp [*]; done), by repeat (first | exact Drawn0.refl _ | apply Drawn0.step)⟩
  ·rw [if_neg c3] at H
   have c3b0 : decide (345600086400000 ≤ a0) = false := decide_eq_false c3
   clear c3
   obtain rfl := Option.some.inj H
   simp only [Option.some.injEq, Prod.mk.injEq] at H
   obtain ⟨rfl⟩ := H
   go_enter Try.func24, Try.ntmps24
   go_wp2
   go_ret
   exact ⟨by first | rfl | (simp; done) | (simp [*]; done), by repeat (first | exact Drawn0.refl _ | apply Drawn0.step)⟩
end Go.Proofs.Ytedakilpogagiaa.PAll
end
section
namespace Go.Proofs.Ytedakilpogagiaa.PAll
open Go.RowKit YtedakilpogagiaaW.PrintWords YtedakilpogagiaaW.PrintLast YtedakilpogagiaaW.PrintMore More2 Sq
attribute [local go_sem] max2_int min2_int max_two min_two max_three min_three max_four min_four tdiv2e18_ tdiv1e18_ cellSS_  -- for this text's walks alone
def ephemerisref2_argument.f (a0 : Int) : Option (Int) := (ephemerisref2_Mod.f a0 1048576000000000).bind fun t319 => (some (wrap64 ((wrap64 ((t319 / 1048576) * 1000000)) + ((wrap64 ((Go.bits .and .i64 t319 1048575) * 1000000)) / 1048576))))
theorem ephemerisref2_argument.calls (a0 : Int) (r : Int) (w : World) (h : ephemerisref2_argument.f a0 = some r) :
  Calls Try.prog 72 #[.int .i64 a0] w fun e w' => e = .returned (.int .i64 r) ∧ Drawn0 w w' := by
 have H : ((ephemerisref2_Mod.f a0 1048576000000000).bind fun t319 => (some (wrap64 ((wrap64 ((t319 / 1048576) * 1000000)) + ((wrap64 ((Go.bits .and .i64 t319 1048575) * 1000000)) / 1048576))))) = some r := h
 clear h
 replace H := Option.bind_eq_some_iff.mp H
 obtain ⟨t319, A20, H⟩ := H
 replace H : (some (wrap64 ((wrap64 ((t319 / 1048576) * 1000000)) + ((wrap64 ((Go.bits .and .i64 t319 1048575) * 1000000)) / 1048576)))) = some r := H
 have A2 := Aside0.mk A20
 clear A20
 obtain rfl := Option.some.inj H
 simp only [Option.some.injEq, Prod.mk.injEq] at H
 obtain ⟨rfl⟩ := H
 go_enter Try.func72, Try.ntmps72
 go_wp2_with (first | ((with_reducible refine gate_callee (f := 20) rfl ?_); refine goesL_ (some 4) rfl rfl Try.func20 (by kernel_rfl) rfl #[.int .i64 a0, .int .i64 1048576000000000] rfl (by (try simp only [List.map_toArray, List.map_cons, List.map_nil]); first | done | rfl | (simp only [List.length_drop, List.length_take]; rfl)) ?_; (with_reducible refine (ephemerisref2_Mod.calls a0 1048576000000000 t319 _ A2.out).mono ?_); rintro e w' ⟨rfl, ⟨nd, rfl⟩⟩; refine ⟨_, rfl, ?_⟩))
 go_ret
 exact ⟨by first | rfl | (simp; done) | (simp [*]; done), by repeat (first | exact Drawn0.refl _ | apply Drawn0.step)⟩
end Go.Proofs.Ytedakilpogagiaa.PAll
end
