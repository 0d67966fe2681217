/- Written by a program of this session: what one law needs. -/
import Derived.Test.YtedakilpogagiaaSunAtsn2
import Derived.Test.YtedakilpogagiaaSunAtsn3
import Derived.Test.YtedakilpogagiaaSunAtsn16
import Derived.Test.YtedakilpogagiaaSunAtsn17
import Derived.Test.YtedakilpogagiaaSunAtsn7
import Derived.Test.YtedakilpogagiaaChecked
import Derived.Test.YtedakilpogagiaaSunAtsn0
section
namespace Go.Proofs.Ytedakilpogagiaa.PAll
open Go.RowKit Go.Proofs.YtedakilpogagiaaW.PrintWords Go.Proofs.YtedakilpogagiaaW.PrintLast Go.Proofs.YtedakilpogagiaaW.PrintMore Go.Proofs.Ytedakilpogagiaa.More2 Go.Proofs.Ytedakilpogagiaa.Sq
attribute [local go_sem] max2_int min2_int max_two min_two max_three min_three max_four min_four tdiv2e18_ tdiv1e18_ cellSS_  -- for this text's walks alone
set_option linter.unusedVariables false
set_option linter.unusedSimpArgs false
def ephemerisref2_sunSum.f  : Option (Int × Int × (List (S94)) × Int) := some (775342092, 2737909333333, (([(⟨5318339, 84888545, 2737778555556⟩ : S94), (⟨55536, 169777090, 5475557111112⟩ : S94)] : List (S94))), 2000)
set_option maxHeartbeats 8000000 in
set_option maxRecDepth 100000 in
theorem ephemerisref2_sunSum.calls  (r1 : Int) (r2 : Int) (r3 : List (S94)) (r4 : Int) (w : World) (h : ephemerisref2_sunSum.f  = some (r1, r2, r3, r4)) :
  Calls Try.prog 92 #[] w fun e w' => ∃ v2_ : Value, e = .returned (.agg #[.int .i64 r1, .int .i64 r2, v2_, .int .i64 r4]) ∧ Kd.R k94 94 w' w.heap.size (fun _ => True) v2_ r3 ∧ Below w.heap.size w w' := by
 have hu82 := Try.underlying82
 have hu94 := Try.underlying94
 have HB := Aside0.mk (Below.refl w.heap.size w)
 have H : (some (775342092, 2737909333333, (([(⟨5318339, 84888545, 2737778555556⟩ : S94), (⟨55536, 169777090, 5475557111112⟩ : S94)] : List (S94))), 2000)) = some (r1, r2, r3, r4) := h
 clear h
 obtain ⟨y392, hy392⟩ : ∃ y_ : List (S94), y_ = (([(⟨5318339, 84888545, 2737778555556⟩ : S94), (⟨55536, 169777090, 5475557111112⟩ : S94)] : List (S94))) := ⟨_, rfl⟩
 replace H : (some (775342092, 2737909333333, y392, 2000)) = some (r1, r2, r3, r4) := by first | (rw [hy392]; with_reducible exact H) | (have H2_ := (Option.bind_some _ _).symm.trans H; rw [hy392]; with_reducible exact H2_) | (have H2_ := (Option.bind_some _ _).symm.trans H; with_reducible exact H2_) | with_reducible exact H | (rw [hy392]; exact H) | exact H
 have Ny392 := Aside0.mk hy392
 clear hy392
 simp only [Option.some.injEq, Prod.mk.injEq] at H
 obtain ⟨rfl, rfl, rfl, rfl⟩ := H
 go_enter Try.func92, Try.ntmps92
 go_wp2_with (first | ((with_reducible refine gate_dst (N := 0) rfl ?_); refine box_event ?hg (N := 0) ?hd (cs := #[.int .i64 0, .int .i64 0, .slice none 0 0, .int .i64 0]) (t := 82) ?hr ?_; (case hd => rfl); (case hg => rfl); (case hr => first | (go_simp; done) | (go_simp; rfl)); intro gb391 hg w1 hbox hb; have BK391 := Aside0.mk (hbox); have GW391 := ge_ hg HB; have GE391 := ge_ hg HB; replace HB := bs_ HB hb; clear hb hbox hg) | ((with_reducible refine gate_dst (N := 3) rfl ?_); refine Kd.R_lit k94 _ 94 ?hg (N := 3) ?hd (xs := ([(⟨5318339, 84888545, 2737778555556⟩ : S94), (⟨55536, 169777090, 5475557111112⟩ : S94)] : List (S94))) (inner := [.int .i64 5318339, .int .i64 84888545, .int .i64 2737778555556, .int .i64 55536, .int .i64 169777090, .int .i64 5475557111112]) (ok := fun _ => True) (okp := fun _ => True) ?hr ?hp (fun _ hk => hk) trivial (Below.refl _ _) (Nat.le_refl _) (by simp) ?_; (case hd => rfl); (case hg => rfl); (case hr => first | (go_simp; done) | (go_simp; rfl)); (case hp => exact (Reps.c3 (show Kd.M k94 _ _ _ (⟨5318339, 84888545, 2737778555556⟩ : S94) [.int .i64 5318339, .int .i64 84888545, .int .i64 2737778555556] from (k94_mkM _ _ _ (⟨5318339, 84888545, 2737778555556⟩ : S94) )) (Reps.c3 (show Kd.M k94 _ _ _ (⟨55536, 169777090, 5475557111112⟩ : S94) [.int .i64 55536, .int .i64 169777090, .int .i64 5475557111112] from (k94_mkM _ _ _ (⟨55536, 169777090, 5475557111112⟩ : S94) )) (Reps.none _ _)))); intro v393 w2 ho3 hb hg_ hnew_; clear hg_ hnew_; (first | rw [← Ny392.out] at ho3 | (simp only [Int.reduceToNat] at ho3; rw [← Ny392.out] at ho3)); have HO394 := Aside0.mk (Kd.R_lower ho3 (below_size (be_ HB).out)); replace BK391 := kb_ BK391 hb; replace HB := bs_ HB hb; clear hb ho3; obtain ⟨Ao4, co4, eo4⟩ := Kd.R_slice HO394.out; subst eo4; have hcz5_0 : w2.cell? ⟨gb391, 0, none⟩ = some (.int .i64 0) := (blk_cell BK391.out 0).trans rfl; have hcz5_1 : w2.cell? ⟨gb391, 1, none⟩ = some (.int .i64 0) := (blk_cell BK391.out 1).trans rfl; have hcz5_2 : w2.cell? ⟨gb391, 2, none⟩ = some (.slice none 0 0) := (blk_cell BK391.out 2).trans rfl; have hcz5_3 : w2.cell? ⟨gb391, 3, none⟩ = some (.int .i64 0) := (blk_cell BK391.out 3).trans rfl; have hfz5_0 := blk_frozen BK391.out 0; have hfz5_1 := blk_frozen BK391.out 1; have hfz5_2 := blk_frozen BK391.out 2; have hfz5_3 := blk_frozen BK391.out 3))
 refine bodyPost_ret (results_cell_row rfl _ _ gb391 82 #[.int .i64 775342092, .int .i64 2737909333333, .slice Ao4 y392.length co4, .int .i64 2000] (0, 0) _ rfl (by (with_reducible repeat (first | refine blk_drewN ?_ _ | refine blk_drew ?_ | refine blk_alloc ?_ _)); refine blk_put (cs := #[.int .i64 775342092, .int .i64 2737909333333, .slice Ao4 y392.length co4, .int .i64 0]) ?_ 3 _ rfl; (with_reducible repeat (first | refine blk_drewN ?_ _ | refine blk_drew ?_ | refine blk_alloc ?_ _)); refine blk_put (cs := #[.int .i64 775342092, .int .i64 2737909333333, .slice none 0 0, .int .i64 0]) ?_ 2 _ rfl; (with_reducible repeat (first | refine blk_drewN ?_ _ | refine blk_drew ?_ | refine blk_alloc ?_ _)); refine blk_put (cs := #[.int .i64 775342092, .int .i64 0, .slice none 0 0, .int .i64 0]) ?_ 1 _ rfl; (with_reducible repeat (first | refine blk_drewN ?_ _ | refine blk_drew ?_ | refine blk_alloc ?_ _)); refine blk_put (cs := #[.int .i64 0, .int .i64 0, .slice none 0 0, .int .i64 0]) ?_ 0 _ rfl; (with_reducible repeat (first | refine blk_drewN ?_ _ | refine blk_drew ?_ | refine blk_alloc ?_ _)); exact BK391.out) Try.underlying82 rfl (by kernel_rfl)) rfl ?_
 exact ⟨_, by first | rfl | (simp [errW_none, errW_some] <;> rfl) | (simp [*, errW_none, errW_some] <;> rfl), by (with_reducible repeat (first | apply Kd.R_alloc | apply Kd.R_drewN | apply Kd.R_drew)); exact Kd.R_mono (Kd.R_far (p := ⟨gb391, 3, none⟩) (Kd.R_far (p := ⟨gb391, 2, none⟩) (Kd.R_far (p := ⟨gb391, 1, none⟩) (Kd.R_far (p := ⟨gb391, 0, none⟩) (Kd.R_types HO394.out BK391.out (by decide)) (fun _ hk => hk.2) (.int .i64 775342092)) (fun _ hk => hk.2) (.int .i64 2737909333333)) (fun _ hk => hk.2) (.slice Ao4 y392.length co4)) (fun _ hk => hk.2) (.int .i64 2000)) (fun _ hk => trivial), (be_ HB).out⟩
end Go.Proofs.Ytedakilpogagiaa.PAll
end
section
namespace Go.Proofs.Ytedakilpogagiaa.PAll
open Go.RowKit Go.Proofs.YtedakilpogagiaaW.PrintWords Go.Proofs.YtedakilpogagiaaW.PrintLast Go.Proofs.YtedakilpogagiaaW.PrintMore Go.Proofs.Ytedakilpogagiaa.More2 Go.Proofs.Ytedakilpogagiaa.Sq
attribute [local go_sem] max2_int min2_int max_two min_two max_three min_three max_four min_four tdiv2e18_ tdiv1e18_ cellSS_  -- for this text's walks alone
set_option linter.unusedVariables false
set_option linter.unusedSimpArgs false
def ephemerisref2_SunLon.f (k : Nat) (a0 : Int) (a1 : Int) : Option (Int) := (ephemerisref2_sunSum.f).bind fun bt395 => ((ephemerisref2_Whole.f k bt395.1 bt395.2.1 bt395.2.2.1 bt395.2.2.2 a0).bind fun t401 => ((ephemerisref2_Mod.f (wrap64 (t401 + (wrap64 ((wrap64 (250 * a1)) * 1048576)))) 1048576000000000).bind fun t402 => (some t402)))
set_option maxHeartbeats 8000000 in
set_option maxRecDepth 100000 in
theorem ephemerisref2_SunLon.calls (k : Nat) (a0 : Int) (a1 : Int) (r : Int) (w : World) (h : ephemerisref2_SunLon.f k a0 a1 = some r) :
  Calls Try.prog 51 #[.int .i64 a0, .int .i64 a1] w fun e w' => e = .returned (.int .i64 r) ∧ Below w.heap.size w w' := by
 have HB := Aside0.mk (Below.refl w.heap.size w)
 have H : ((ephemerisref2_sunSum.f).bind fun bt395 => ((ephemerisref2_Whole.f k bt395.1 bt395.2.1 bt395.2.2.1 bt395.2.2.2 a0).bind fun t401 => ((ephemerisref2_Mod.f (wrap64 (t401 + (wrap64 ((wrap64 (250 * a1)) * 1048576)))) 1048576000000000).bind fun t402 => (some t402)))) = some r := h
 clear h
 replace H := Option.bind_eq_some_iff.mp H
 obtain ⟨⟨t395, t396, t397, t400⟩, A30, H⟩ := H
 replace H : ((ephemerisref2_Whole.f k t395 t396 t397 t400 a0).bind fun t401 => ((ephemerisref2_Mod.f (wrap64 (t401 + (wrap64 ((wrap64 (250 * a1)) * 1048576)))) 1048576000000000).bind fun t402 => (some t402))) = some r := H
 have A3 := Aside0.mk A30
 clear A30
 replace H := Option.bind_eq_some_iff.mp H
 obtain ⟨t401, A40, H⟩ := H
 replace H : ((ephemerisref2_Mod.f (wrap64 (t401 + (wrap64 ((wrap64 (250 * a1)) * 1048576)))) 1048576000000000).bind fun t402 => (some t402)) = some r := H
 have A4 := Aside0.mk A40
 clear A40
 replace H := Option.bind_eq_some_iff.mp H
 obtain ⟨t402, A50, H⟩ := H
 replace H : (some t402) = some r := H
 have A5 := Aside0.mk A50
 clear A50
 obtain rfl := Option.some.inj H
 simp only [Option.some.injEq, Prod.mk.injEq] at H
 obtain ⟨rfl⟩ := H
 go_enter Try.func51, Try.ntmps51
 go_wp2_with (first | ((with_reducible refine gate_callee (f := 92) rfl ?_); refine goesL_ (some 5) rfl rfl Try.func92 (by kernel_rfl) rfl #[] rfl (by (try simp only [List.map_toArray, List.map_cons, List.map_nil]); first | done | rfl | (simp only [List.length_drop, List.length_take]; rfl)) ?_; (with_reducible refine (ephemerisref2_sunSum.calls  t395 t396 t397 t400 _ A3.out).mono ?_); rintro e w6 ⟨v398, rfl, ho0, hb⟩; refine ⟨_, rfl, ?_⟩; have HO399 := Aside0.mk (Kd.R_lower ho0 (below_size (be_ HB).out)); replace HB := bs_ HB hb; (try clear hb); (try clear hb2); (try clear hk); (try clear hi); (try clear ho0); obtain ⟨Ao7, co7, eo7⟩ := Kd.R_slice HO399.out; subst eo7) | ((with_reducible refine gate_callee (f := 90) rfl ?_); refine goesL_ (some 7) rfl rfl Try.func90 (by kernel_rfl) rfl #[.agg #[.int .i64 t395, .int .i64 t396, .slice Ao7 t397.length co7, .int .i64 t400], .int .i64 a0] rfl (by (try simp only [List.map_toArray, List.map_cons, List.map_nil]); first | done | rfl | (simp only [List.length_drop, List.length_take]; rfl)) ?_; (with_reducible refine (ephemerisref2_Whole.calls k t395 t396 _ _ t397 t400 a0 t401 _ ?side1 ?side2 A4.out).mono ?_); (case side1 => repeat (first | exact (Kd.R_reads' HO399.out).2.2 | (with_reducible refine Kd.C_alloc ?_ _) | (with_reducible refine Kd.C_drewN ?_ _) | (with_reducible refine Kd.C_drew ?_))); (case side2 => exact (Kd.R_reads' HO399.out).2.1); rintro e w8 ⟨rfl, hb⟩; refine ⟨_, rfl, ?_⟩; have n0_ := Aside0.mk (Kd.R_below (by (with_reducible repeat (first | apply Kd.R_alloc | apply Kd.R_drewN | apply Kd.R_drew)); exact HO399.out) hb); have n1_ := bs_ HB hb; clear HO399; clear HB; have HO399 := n0_; have HB := n1_; clear n0_ n1_; (try clear hb); (try clear hb2); (try clear hk); (try clear hi)) | ((with_reducible refine gate_callee (f := 20) rfl ?_); refine goesL_ (some 12) rfl rfl Try.func20 (by kernel_rfl) rfl #[.int .i64 (wrap64 (t401 + (wrap64 ((wrap64 (250 * a1)) * 1048576)))), .int .i64 1048576000000000] rfl (by (try simp only [List.map_toArray, List.map_cons, List.map_nil]); first | done | rfl | (simp only [List.length_drop, List.length_take]; rfl)) ?_; (with_reducible refine (ephemerisref2_Mod.calls (wrap64 (t401 + (wrap64 ((wrap64 (250 * a1)) * 1048576)))) 1048576000000000 t402 _ A5.out).mono ?_); rintro e w' ⟨rfl, ⟨nd, rfl⟩⟩; refine ⟨_, rfl, ?_⟩))
 go_ret
 exact ⟨by first | rfl | (simp [errW_none, errW_some] <;> rfl) | (simp [*, errW_none, errW_some] <;> rfl), (be_ HB).out⟩
end Go.Proofs.Ytedakilpogagiaa.PAll
end
section
namespace Go.Proofs.Ytedakilpogagiaa.PAll
open Go.RowKit Go.Proofs.YtedakilpogagiaaW.PrintWords Go.Proofs.YtedakilpogagiaaW.PrintLast Go.Proofs.YtedakilpogagiaaW.PrintMore Go.Proofs.Ytedakilpogagiaa.More2 Go.Proofs.Ytedakilpogagiaa.Sq
attribute [local go_sem] max2_int min2_int max_two min_two max_three min_three max_four min_four tdiv2e18_ tdiv1e18_ cellSS_  -- for this text's walks alone
set_option linter.unusedVariables false
set_option linter.unusedSimpArgs false
def ephemerisref2_northSum.f  : Option (Int × Int × (List (S94)) × Int) := some (0, 0, (([(⟨14244783, 648500531, 36748195111111⟩ : S94), (⟨779450, 747884547, 73039842194444⟩ : S94), (⟨771369, 450883485, (-456548027778)⟩ : S94)] : List (S94))), 20000)
set_option maxHeartbeats 8000000 in
set_option maxRecDepth 100000 in
theorem ephemerisref2_northSum.calls  (r1 : Int) (r2 : Int) (r3 : List (S94)) (r4 : Int) (w : World) (h : ephemerisref2_northSum.f  = some (r1, r2, r3, r4)) :
  Calls Try.prog 111 #[] w fun e w' => ∃ v2_ : Value, e = .returned (.agg #[.int .i64 r1, .int .i64 r2, v2_, .int .i64 r4]) ∧ Kd.R k94 94 w' w.heap.size (fun _ => True) v2_ r3 ∧ Below w.heap.size w w' := by
 have hu82 := Try.underlying82
 have hu94 := Try.underlying94
 have HB := Aside0.mk (Below.refl w.heap.size w)
 have H : (some (0, 0, (([(⟨14244783, 648500531, 36748195111111⟩ : S94), (⟨779450, 747884547, 73039842194444⟩ : S94), (⟨771369, 450883485, (-456548027778)⟩ : S94)] : List (S94))), 20000)) = some (r1, r2, r3, r4) := h
 clear h
 obtain ⟨y404, hy404⟩ : ∃ y_ : List (S94), y_ = (([(⟨14244783, 648500531, 36748195111111⟩ : S94), (⟨779450, 747884547, 73039842194444⟩ : S94), (⟨771369, 450883485, (-456548027778)⟩ : S94)] : List (S94))) := ⟨_, rfl⟩
 replace H : (some (0, 0, y404, 20000)) = some (r1, r2, r3, r4) := by first | (rw [hy404]; with_reducible exact H) | (have H2_ := (Option.bind_some _ _).symm.trans H; rw [hy404]; with_reducible exact H2_) | (have H2_ := (Option.bind_some _ _).symm.trans H; with_reducible exact H2_) | with_reducible exact H | (rw [hy404]; exact H) | exact H
 have Ny404 := Aside0.mk hy404
 clear hy404
 simp only [Option.some.injEq, Prod.mk.injEq] at H
 obtain ⟨rfl, rfl, rfl, rfl⟩ := H
 go_enter Try.func111, Try.ntmps111
 go_wp2_with (first | ((with_reducible refine gate_dst (N := 0) rfl ?_); refine box_event ?hg (N := 0) ?hd (cs := #[.int .i64 0, .int .i64 0, .slice none 0 0, .int .i64 0]) (t := 82) ?hr ?_; (case hd => rfl); (case hg => rfl); (case hr => first | (go_simp; done) | (go_simp; rfl)); intro gb403 hg w1 hbox hb; have BK403 := Aside0.mk (hbox); have GW403 := ge_ hg HB; have GE403 := ge_ hg HB; replace HB := bs_ HB hb; clear hb hbox hg) | ((with_reducible refine gate_dst (N := 4) rfl ?_); refine Kd.R_lit k94 _ 94 ?hg (N := 4) ?hd (xs := ([(⟨14244783, 648500531, 36748195111111⟩ : S94), (⟨779450, 747884547, 73039842194444⟩ : S94), (⟨771369, 450883485, (-456548027778)⟩ : S94)] : List (S94))) (inner := [.int .i64 14244783, .int .i64 648500531, .int .i64 36748195111111, .int .i64 779450, .int .i64 747884547, .int .i64 73039842194444, .int .i64 771369, .int .i64 450883485, .int .i64 (-456548027778)]) (ok := fun _ => True) (okp := fun _ => True) ?hr ?hp (fun _ hk => hk) trivial (Below.refl _ _) (Nat.le_refl _) (by simp) ?_; (case hd => rfl); (case hg => rfl); (case hr => first | (go_simp; done) | (go_simp; rfl)); (case hp => exact (Reps.c3 (show Kd.M k94 _ _ _ (⟨14244783, 648500531, 36748195111111⟩ : S94) [.int .i64 14244783, .int .i64 648500531, .int .i64 36748195111111] from (k94_mkM _ _ _ (⟨14244783, 648500531, 36748195111111⟩ : S94) )) (Reps.c3 (show Kd.M k94 _ _ _ (⟨779450, 747884547, 73039842194444⟩ : S94) [.int .i64 779450, .int .i64 747884547, .int .i64 73039842194444] from (k94_mkM _ _ _ (⟨779450, 747884547, 73039842194444⟩ : S94) )) (Reps.c3 (show Kd.M k94 _ _ _ (⟨771369, 450883485, (-456548027778)⟩ : S94) [.int .i64 771369, .int .i64 450883485, .int .i64 (-456548027778)] from (k94_mkM _ _ _ (⟨771369, 450883485, (-456548027778)⟩ : S94) )) (Reps.none _ _))))); intro v405 w2 ho3 hb hg_ hnew_; clear hg_ hnew_; (first | rw [← Ny404.out] at ho3 | (simp only [Int.reduceToNat] at ho3; rw [← Ny404.out] at ho3)); have HO406 := Aside0.mk (Kd.R_lower ho3 (below_size (be_ HB).out)); replace BK403 := kb_ BK403 hb; replace HB := bs_ HB hb; clear hb ho3; obtain ⟨Ao4, co4, eo4⟩ := Kd.R_slice HO406.out; subst eo4; have hcz5_0 : w2.cell? ⟨gb403, 0, none⟩ = some (.int .i64 0) := (blk_cell BK403.out 0).trans rfl; have hcz5_1 : w2.cell? ⟨gb403, 1, none⟩ = some (.int .i64 0) := (blk_cell BK403.out 1).trans rfl; have hcz5_2 : w2.cell? ⟨gb403, 2, none⟩ = some (.slice none 0 0) := (blk_cell BK403.out 2).trans rfl; have hcz5_3 : w2.cell? ⟨gb403, 3, none⟩ = some (.int .i64 0) := (blk_cell BK403.out 3).trans rfl; have hfz5_0 := blk_frozen BK403.out 0; have hfz5_1 := blk_frozen BK403.out 1; have hfz5_2 := blk_frozen BK403.out 2; have hfz5_3 := blk_frozen BK403.out 3))
 refine bodyPost_ret (results_cell_row rfl _ _ gb403 82 #[.int .i64 0, .int .i64 0, .slice Ao4 y404.length co4, .int .i64 20000] (0, 0) _ rfl (by (with_reducible repeat (first | refine blk_drewN ?_ _ | refine blk_drew ?_ | refine blk_alloc ?_ _)); refine blk_put (cs := #[.int .i64 0, .int .i64 0, .slice Ao4 y404.length co4, .int .i64 0]) ?_ 3 _ rfl; (with_reducible repeat (first | refine blk_drewN ?_ _ | refine blk_drew ?_ | refine blk_alloc ?_ _)); refine blk_put (cs := #[.int .i64 0, .int .i64 0, .slice none 0 0, .int .i64 0]) ?_ 2 _ rfl; (with_reducible repeat (first | refine blk_drewN ?_ _ | refine blk_drew ?_ | refine blk_alloc ?_ _)); refine blk_put (cs := #[.int .i64 0, .int .i64 0, .slice none 0 0, .int .i64 0]) ?_ 1 _ rfl; (with_reducible repeat (first | refine blk_drewN ?_ _ | refine blk_drew ?_ | refine blk_alloc ?_ _)); refine blk_put (cs := #[.int .i64 0, .int .i64 0, .slice none 0 0, .int .i64 0]) ?_ 0 _ rfl; (with_reducible repeat (first | refine blk_drewN ?_ _ | refine blk_drew ?_ | refine blk_alloc ?_ _)); exact BK403.out) Try.underlying82 rfl (by kernel_rfl)) rfl ?_
 exact ⟨_, by first | rfl | (simp [errW_none, errW_some] <;> rfl) | (simp [*, errW_none, errW_some] <;> rfl), by (with_reducible repeat (first | apply Kd.R_alloc | apply Kd.R_drewN | apply Kd.R_drew)); exact Kd.R_mono (Kd.R_far (p := ⟨gb403, 3, none⟩) (Kd.R_far (p := ⟨gb403, 2, none⟩) (Kd.R_far (p := ⟨gb403, 1, none⟩) (Kd.R_far (p := ⟨gb403, 0, none⟩) (Kd.R_types HO406.out BK403.out (by decide)) (fun _ hk => hk.2) (.int .i64 0)) (fun _ hk => hk.2) (.int .i64 0)) (fun _ hk => hk.2) (.slice Ao4 y404.length co4)) (fun _ hk => hk.2) (.int .i64 20000)) (fun _ hk => trivial), (be_ HB).out⟩
end Go.Proofs.Ytedakilpogagiaa.PAll
end
section
namespace Go.Proofs.Ytedakilpogagiaa.PAll
open Go.RowKit Go.Proofs.YtedakilpogagiaaW.PrintWords Go.Proofs.YtedakilpogagiaaW.PrintLast Go.Proofs.YtedakilpogagiaaW.PrintMore Go.Proofs.Ytedakilpogagiaa.More2 Go.Proofs.Ytedakilpogagiaa.Sq
attribute [local go_sem] max2_int min2_int max_two min_two max_three min_three max_four min_four tdiv2e18_ tdiv1e18_ cellSS_  -- for this text's walks alone
set_option linter.unusedVariables false
set_option linter.unusedSimpArgs false
def ephemerisref2_MoonLat.f (k : Nat) (a0 : Int) (a1 : Int) : Option (Int) := (ephemerisref2_northSum.f).bind fun bt407 => ((ephemerisref2_Sum.f k bt407.1 bt407.2.1 bt407.2.2.1 bt407.2.2.2 a0).bind fun t413 => (some (wrap64 (t413 + (wrap64 ((wrap64 (2500 * a1)) * 1048576))))))
set_option maxHeartbeats 8000000 in
set_option maxRecDepth 100000 in
theorem ephemerisref2_MoonLat.calls (k : Nat) (a0 : Int) (a1 : Int) (r : Int) (w : World) (h : ephemerisref2_MoonLat.f k a0 a1 = some r) :
  Calls Try.prog 73 #[.int .i64 a0, .int .i64 a1] w fun e w' => e = .returned (.int .i64 r) ∧ Below w.heap.size w w' := by
 have HB := Aside0.mk (Below.refl w.heap.size w)
 have H : ((ephemerisref2_northSum.f).bind fun bt407 => ((ephemerisref2_Sum.f k bt407.1 bt407.2.1 bt407.2.2.1 bt407.2.2.2 a0).bind fun t413 => (some (wrap64 (t413 + (wrap64 ((wrap64 (2500 * a1)) * 1048576))))))) = some r := h
 clear h
 replace H := Option.bind_eq_some_iff.mp H
 obtain ⟨⟨t407, t408, t409, t412⟩, A30, H⟩ := H
 replace H : ((ephemerisref2_Sum.f k t407 t408 t409 t412 a0).bind fun t413 => (some (wrap64 (t413 + (wrap64 ((wrap64 (2500 * a1)) * 1048576)))))) = some r := H
 have A3 := Aside0.mk A30
 clear A30
 replace H := Option.bind_eq_some_iff.mp H
 obtain ⟨t413, A40, H⟩ := H
 replace H : (some (wrap64 (t413 + (wrap64 ((wrap64 (2500 * a1)) * 1048576))))) = some r := H
 have A4 := Aside0.mk A40
 clear A40
 obtain rfl := Option.some.inj H
 simp only [Option.some.injEq, Prod.mk.injEq] at H
 obtain ⟨rfl⟩ := H
 go_enter Try.func73, Try.ntmps73
 go_wp2_with (first | ((with_reducible refine gate_callee (f := 111) rfl ?_); refine goesL_ (some 5) rfl rfl Try.func111 (by kernel_rfl) rfl #[] rfl (by (try simp only [List.map_toArray, List.map_cons, List.map_nil]); first | done | rfl | (simp only [List.length_drop, List.length_take]; rfl)) ?_; (with_reducible refine (ephemerisref2_northSum.calls  t407 t408 t409 t412 _ A3.out).mono ?_); rintro e w5 ⟨v410, rfl, ho0, hb⟩; refine ⟨_, rfl, ?_⟩; have HO411 := Aside0.mk (Kd.R_lower ho0 (below_size (be_ HB).out)); replace HB := bs_ HB hb; (try clear hb); (try clear hb2); (try clear hk); (try clear hi); (try clear ho0); obtain ⟨Ao6, co6, eo6⟩ := Kd.R_slice HO411.out; subst eo6) | ((with_reducible refine gate_callee (f := 110) rfl ?_); refine goesL_ (some 7) rfl rfl Try.func110 (by kernel_rfl) rfl #[.agg #[.int .i64 t407, .int .i64 t408, .slice Ao6 t409.length co6, .int .i64 t412], .int .i64 a0] rfl (by (try simp only [List.map_toArray, List.map_cons, List.map_nil]); first | done | rfl | (simp only [List.length_drop, List.length_take]; rfl)) ?_; (with_reducible refine (ephemerisref2_Sum.calls k t407 t408 _ _ t409 t412 a0 t413 _ ?side1 ?side2 A4.out).mono ?_); (case side1 => repeat (first | exact (Kd.R_reads' HO411.out).2.2 | (with_reducible refine Kd.C_alloc ?_ _) | (with_reducible refine Kd.C_drewN ?_ _) | (with_reducible refine Kd.C_drew ?_))); (case side2 => exact (Kd.R_reads' HO411.out).2.1); rintro e w7 ⟨rfl, hb⟩; refine ⟨_, rfl, ?_⟩; have n0_ := Aside0.mk (Kd.R_below (by (with_reducible repeat (first | apply Kd.R_alloc | apply Kd.R_drewN | apply Kd.R_drew)); exact HO411.out) hb); have n1_ := bs_ HB hb; clear HO411; clear HB; have HO411 := n0_; have HB := n1_; clear n0_ n1_; (try clear hb); (try clear hb2); (try clear hk); (try clear hi)))
 go_ret
 exact ⟨by first | rfl | (simp [errW_none, errW_some] <;> rfl) | (simp [*, errW_none, errW_some] <;> rfl), (be_ HB).out⟩
end Go.Proofs.Ytedakilpogagiaa.PAll
end
section
namespace Go.Proofs.Ytedakilpogagiaa.PAll
open Go Go.RowKit Go.Proofs.YtedakilpogagiaaW.PrintWords Go.Proofs.Ytedakilpogagiaa.Sx
set_option linter.unusedVariables false
set_option linter.unusedSimpArgs false
set_option maxRecDepth 100000
def ephemerisref2_Body.f (k : Nat) (a0 : Int) (a1 : Int) (a2 : Int) (a3 : Int) : Option (Int × Int × Int) :=
  oif ((a0 == 0) = true) (
   ob (ephemerisref2_SunLon.f k a1 a2) fun t1 =>
   ob (ephemerisref2_Equator.f k t1 0) fun t2 =>
   some (t2.fst, t2.snd.fst, t2.snd.snd)) (
   ob (ephemerisref2_MoonLon.f k a1 a2) fun t3 =>
   ob (ephemerisref2_MoonLat.f k a1 a3) fun t4 =>
   ob (ephemerisref2_Equator.f k t3 t4) fun t5 =>
   some (t5.fst, t5.snd.fst, t5.snd.snd))
def ephemerisref2_Body.OQ {R : Type} (k : Nat) : OraQ R := fun g args K => match g with
  | 19 => (match args with | [.int .i64 a0, .int .i64 a1] => (ephemerisref2_Equator.f k a0 a1).bind fun q => K (.agg ⟨[.int .i64 q.1, .int .i64 q.2.1, .int .i64 q.2.2]⟩) | _ => none)
  | 50 => (match args with | [.int .i64 a0, .int .i64 a1] => (ephemerisref2_MoonLon.f k a0 a1).bind fun q => K (.int .i64 q) | _ => none)
  | 51 => (match args with | [.int .i64 a0, .int .i64 a1] => (ephemerisref2_SunLon.f k a0 a1).bind fun q => K (.int .i64 q) | _ => none)
  | 73 => (match args with | [.int .i64 a0, .int .i64 a1] => (ephemerisref2_MoonLat.f k a0 a1).bind fun q => K (.int .i64 q) | _ => none)
  | _ => none
theorem ephemerisref2_Body.OQ_ok (k : Nat) (Φ : World → Prop) (base : Nat) {R : Type} : OraQOk Try.prog (fun _ => undef) Φ base (ephemerisref2_Body.OQ (R := R) k) := by
  intro g args K r h
  unfold ephemerisref2_Body.OQ at h
  split at h
  · split at h
    · obtain ⟨q, hq, h⟩ := Option.bind_eq_some_iff.mp h
      exact ⟨_, h, callQ_of rfl rfl fun w => (ephemerisref2_Equator.calls k _ _ _ _ _ w hq).mono fun e w' he => ⟨he.1, he.2⟩⟩
    · cases h
  · split at h
    · obtain ⟨q, hq, h⟩ := Option.bind_eq_some_iff.mp h
      exact ⟨_, h, callQ_of rfl rfl fun w => (ephemerisref2_MoonLon.calls k _ _ _ w hq).mono fun e w' he => ⟨he.1, he.2⟩⟩
    · cases h
  · split at h
    · obtain ⟨q, hq, h⟩ := Option.bind_eq_some_iff.mp h
      exact ⟨_, h, callQ_of rfl rfl fun w => (ephemerisref2_SunLon.calls k _ _ _ w hq).mono fun e w' he => ⟨he.1, he.2⟩⟩
    · cases h
  · split at h
    · obtain ⟨q, hq, h⟩ := Option.bind_eq_some_iff.mp h
      exact ⟨_, h, callQ_of rfl rfl fun w => (ephemerisref2_MoonLat.calls k _ _ _ w hq).mono fun e w' he => ⟨he.1, he.2⟩⟩
    · cases h
  · cases h
def ephemerisref2_Body.F (v : Value) (_ : Mem) : Option (Int × Int × Int) := match v with | .agg ⟨[.int .i64 r1, .int .i64 r2, .int .i64 r3]⟩ => some (r1, r2, r3) | _ => none
theorem ephemerisref2_Body.run (k : Nat) (a0 : Int) (a1 : Int) (a2 : Int) (a3 : Int) : runM Try.prog (liftQ (ephemerisref2_Body.OQ k)) (drawQ Try.prog (ephemerisref2_Body.OQ k)) (fun _ => none) (atEnd Try.prog Try.f25 ephemerisref2_Body.F) 5000 [.code (Try.f25.body.getD .skip)] ([.int .i64 a0, .int .i64 a1, .int .i64 a2, .int .i64 a3] ++ List.replicate (Try.f25.ntmps - ([.int .i64 a0, .int .i64 a1, .int .i64 a2, .int .i64 a3] : List Value).length) undef) [] = ephemerisref2_Body.f k a0 a1 a2 a3 := by kernel_rfl
theorem ephemerisref2_Body.calls (k : Nat) (a0 : Int) (a1 : Int) (a2 : Int) (a3 : Int) (r1 : Int) (r2 : Int) (r3 : Int) (w : World) (h : ephemerisref2_Body.f k a0 a1 a2 a3 = some (r1, r2, r3)) :
    Calls Try.prog 25 #[.int .i64 a0, .int .i64 a1, .int .i64 a2, .int .i64 a3] w fun e w' => e = .returned (.agg #[.int .i64 r1, .int .i64 r2, .int .i64 r3]) ∧ Below w.heap.size w w' := by
  refine calls_closed (OQ := ephemerisref2_Body.OQ k) (LF := fun _ => none) (F := ephemerisref2_Body.F) (r := (r1, r2, r3)) (Checked.mixed Try.checked) (fun Φ base _ => ephemerisref2_Body.OQ_ok k Φ base) (LS := fun _ => True) (fun Φ base _ c _ live len f e => by cases e) Try.func25 rfl (fun _ _ => trivial) rfl (fun u m hu => ?_) rfl (((ephemerisref2_Body.run k a0 a1 a2 a3).trans h)) w
  unfold ephemerisref2_Body.F at hu
  split at hu
  · cases hu; rfl
  · cases hu
end Go.Proofs.Ytedakilpogagiaa.PAll
end
section
namespace Go.Proofs.Ytedakilpogagiaa.PAll
open Go.RowKit Go.Proofs.YtedakilpogagiaaW.PrintWords Go.Proofs.YtedakilpogagiaaW.PrintLast Go.Proofs.YtedakilpogagiaaW.PrintMore Go.Proofs.Ytedakilpogagiaa.More2 Go.Proofs.Ytedakilpogagiaa.Sq
attribute [local go_sem] max2_int min2_int max_two min_two max_three min_three max_four min_four tdiv2e18_ tdiv1e18_ cellSS_  -- for this text's walks alone
set_option linter.unusedVariables false
set_option linter.unusedSimpArgs false
def ephemerislaw2_at.f (a0 : Int) (a1 : Int) : Option (Int) := if a1 = 0 then (none) else (some (Int.tmod (wrap64 ((Int.tmod a0 a1) + a1)) a1))
set_option maxHeartbeats 8000000 in
set_option maxRecDepth 100000 in
theorem ephemerislaw2_at.calls (a0 : Int) (a1 : Int) (r : Int) (w : World) (h : ephemerislaw2_at.f a0 a1 = some r) :
  Calls Try.prog 26 #[.int .i64 a0, .int .i64 a1] w fun e w' => e = .returned (.int .i64 r) ∧ Drawn0 w w' := by
 have H : (if a1 = 0 then (none) else (some (Int.tmod (wrap64 ((Int.tmod a0 a1) + a1)) a1))) = some r := h
 clear h
 by_cases c3 : a1 = 0
 ·rw [if_pos c3] at H
  exact absurd H (by simp)
 ·rw [if_neg c3] at H
  have c3b0 : (a1 == 0) = false := beq_eq_false_iff_ne.mpr c3
  have c3b1 : (a1 != 0) = true := bne_iff_ne.mpr c3
  obtain rfl := Option.some.inj H
  simp only [Option.some.injEq, Prod.mk.injEq] at H
  obtain ⟨rfl⟩ := H
  go_enter Try.func26, Try.ntmps26
  go_wp2
  go_ret
  exact ⟨by first | rfl | (simp; done) | (simp [*]; done), by repeat (first | exact Drawn0.refl _ | apply Drawn0.step)⟩
end Go.Proofs.Ytedakilpogagiaa.PAll
end
section
namespace Go.Proofs.Ytedakilpogagiaa.PAll
open Go Go.RowKit Go.Proofs.YtedakilpogagiaaW.PrintWords Go.Proofs.Ytedakilpogagiaa.Sx
set_option linter.unusedVariables false
set_option linter.unusedSimpArgs false
set_option maxRecDepth 100000
def ephemerislaw2_SunAts.f (k : Nat) (a0 : Int) (a1 : Int) : Option (Bool) :=
  ob (ephemerislaw2_sunWorks.f k) fun t1 =>
  oif (t1 = true) (
   ob (sun_At.f k a0) fun t2 =>
   ob (ephemerisref2_InstantErr.f a0) fun t3 =>
   oif ((t3 != 0) = true) (
    ob (ephemerislaw2_none.f t2.fst t2.snd.fst t2.snd.snd.snd.snd t3) fun t4 =>
    oif (t4 = true) (
     some (t2.snd.snd.fst == 0 && (t2.snd.snd.snd.fst == 0 && true))) (
     some (false))) (
    ob (ephemerislaw2_at.f a1 17) fun t5 =>
    ob (ephemerisref2_Body.f k 0 a0 (IntKind.i64.wrap (t5 - 8)) 0) fun t6 =>
    oif ((t2.snd.snd.snd.snd == 0) = true) (
     ob (ephemerisref2_InArc.f k t2.fst t2.snd.fst t6.snd.fst t6.fst) fun t7 =>
     oif (t7 = true) (
      ob (ephemerisref2_InArcSin.f k t2.snd.snd.fst t2.snd.snd.snd.fst t6.snd.snd) fun t8 =>
      oif (t8 = true) (
       oif (decide (IntKind.i64.wrap (t2.snd.fst - t2.fst) ≤ 10000) = true) (
        some (decide (IntKind.i64.wrap (t2.snd.snd.snd.fst - t2.snd.snd.fst) ≤ 6000))) (
        some (false))) (
       some (false))) (
      some (false))) (
     some (false)))) (
   none)
def ephemerislaw2_SunAts.OQ {R : Type} (k : Nat) : OraQ R := fun g args K => match g with
  | 15 => (match args with | [] => (ephemerislaw2_sunWorks.f k).bind fun q => (if q = true then K (.bool true) else none) | _ => none)
  | 18 => (match args with | [.agg ⟨[.int .i64 a0_0, .int .i64 a0_1]⟩, .int .i64 a1, .int .i64 a2] => (ephemerislaw2_none.f a0_0 a0_1 a1 a2).bind fun q => K (.bool q) | _ => none)
  | 21 => (match args with | [.agg ⟨[.int .i64 a0_0, .int .i64 a0_1]⟩, .int .i64 a1, .int .i64 a2] => (ephemerisref2_InArc.f k a0_0 a0_1 a1 a2).bind fun q => K (.bool q) | _ => none)
  | 22 => (match args with | [.agg ⟨[.int .i64 a0_0, .int .i64 a0_1]⟩, .int .i64 a1] => (ephemerisref2_InArcSin.f k a0_0 a0_1 a1).bind fun q => K (.bool q) | _ => none)
  | 23 => (match args with | [.int .i64 a0] => (sun_At.f k a0).bind fun q => K (.tuple ⟨[.agg ⟨[.int .i64 q.1, .int .i64 q.2.1]⟩, .agg ⟨[.int .i64 q.2.2.1, .int .i64 q.2.2.2.1]⟩, .int .i64 q.2.2.2.2]⟩) | _ => none)
  | 24 => (match args with | [.int .i64 a0] => (ephemerisref2_InstantErr.f a0).bind fun q => K (.int .i64 q) | _ => none)
  | 25 => (match args with | [.int .i64 a0, .int .i64 a1, .int .i64 a2, .int .i64 a3] => (ephemerisref2_Body.f k a0 a1 a2 a3).bind fun q => K (.agg ⟨[.int .i64 q.1, .int .i64 q.2.1, .int .i64 q.2.2]⟩) | _ => none)
  | 26 => (match args with | [.int .i64 a0, .int .i64 a1] => (ephemerislaw2_at.f a0 a1).bind fun q => K (.int .i64 q) | _ => none)
  | _ => none
theorem ephemerislaw2_SunAts.OQ_ok (k : Nat) (Φ : World → Prop) (base : Nat) {R : Type} : OraQOk Try.prog (fun _ => undef) Φ base (ephemerislaw2_SunAts.OQ (R := R) k) := by
  intro g args K r h
  unfold ephemerislaw2_SunAts.OQ at h
  split at h
  · split at h
    · obtain ⟨q, hq, h⟩ := Option.bind_eq_some_iff.mp h
      split at h
      · rename_i hT; subst hT
        exact ⟨_, h, callQ_of rfl rfl fun w => (ephemerislaw2_sunWorks.calls k _ w hq rfl).mono fun e w' he => ⟨he.1, he.2⟩⟩
      · cases h
    · cases h
  · split at h
    · obtain ⟨q, hq, h⟩ := Option.bind_eq_some_iff.mp h
      exact ⟨_, h, callQ_of rfl rfl fun w => (ephemerislaw2_none.calls _ _ _ _ _ w hq).mono fun e w' he => ⟨he.1, he.2⟩⟩
    · cases h
  · split at h
    · obtain ⟨q, hq, h⟩ := Option.bind_eq_some_iff.mp h
      exact ⟨_, h, callQ_of rfl rfl fun w => (ephemerisref2_InArc.calls k _ _ _ _ _ w hq).mono fun e w' he => ⟨he.1, he.2⟩⟩
    · cases h
  · split at h
    · obtain ⟨q, hq, h⟩ := Option.bind_eq_some_iff.mp h
      exact ⟨_, h, callQ_of rfl rfl fun w => (ephemerisref2_InArcSin.calls k _ _ _ _ w hq).mono fun e w' he => ⟨he.1, he.2⟩⟩
    · cases h
  · split at h
    · obtain ⟨q, hq, h⟩ := Option.bind_eq_some_iff.mp h
      exact ⟨_, h, callQ_of rfl rfl fun w => (sun_At.calls k _ _ _ _ _ _ w hq).mono fun e w' he => ⟨he.1, he.2⟩⟩
    · cases h
  · split at h
    · obtain ⟨q, hq, h⟩ := Option.bind_eq_some_iff.mp h
      exact ⟨_, h, callQ_of rfl rfl fun w => (ephemerisref2_InstantErr.calls _ _ w hq).mono fun e w' he => ⟨he.1, he.2.below⟩⟩
    · cases h
  · split at h
    · obtain ⟨q, hq, h⟩ := Option.bind_eq_some_iff.mp h
      exact ⟨_, h, callQ_of rfl rfl fun w => (ephemerisref2_Body.calls k _ _ _ _ _ _ _ w hq).mono fun e w' he => ⟨he.1, he.2⟩⟩
    · cases h
  · split at h
    · obtain ⟨q, hq, h⟩ := Option.bind_eq_some_iff.mp h
      exact ⟨_, h, callQ_of rfl rfl fun w => (ephemerislaw2_at.calls _ _ _ w hq).mono fun e w' he => ⟨he.1, he.2.below⟩⟩
    · cases h
  · cases h
def ephemerislaw2_SunAts.F (v : Value) (_ : Mem) : Option (Bool) := match v with | .bool r => some (r) | _ => none
theorem ephemerislaw2_SunAts.run (k : Nat) (a0 : Int) (a1 : Int) : runM Try.prog (liftQ (ephemerislaw2_SunAts.OQ k)) (drawQ Try.prog (ephemerislaw2_SunAts.OQ k)) (fun _ => none) (atEnd Try.prog Try.f4 ephemerislaw2_SunAts.F) 5000 [.code (Try.f4.body.getD .skip)] ([.int .i64 a0, .int .i64 a1] ++ List.replicate (Try.f4.ntmps - ([.int .i64 a0, .int .i64 a1] : List Value).length) undef) [] = ephemerislaw2_SunAts.f k a0 a1 := by kernel_rfl
theorem ephemerislaw2_SunAts.calls (k : Nat) (a0 : Int) (a1 : Int) (r : Bool) (w : World) (h : ephemerislaw2_SunAts.f k a0 a1 = some (r)) (hT : r = true) :
    Calls Try.prog 4 #[.int .i64 a0, .int .i64 a1] w fun e w' => e = .returned (.bool r) ∧ Below w.heap.size w w' := by
  refine calls_closed (OQ := ephemerislaw2_SunAts.OQ k) (LF := fun _ => none) (F := ephemerislaw2_SunAts.F) (r := (r)) (Checked.mixed Try.checked) (fun Φ base _ => ephemerislaw2_SunAts.OQ_ok k Φ base) (LS := fun _ => True) (fun Φ base _ c _ live len f e => by cases e) Try.func4 rfl (fun _ _ => trivial) rfl (fun u m hu => ?_) rfl (((ephemerislaw2_SunAts.run k a0 a1).trans h)) w
  unfold ephemerislaw2_SunAts.F at hu
  split at hu
  · cases hu; rfl
  · cases hu
end Go.Proofs.Ytedakilpogagiaa.PAll
end
