/- Written by a program of this session: what one law needs. -/
import Derived.Test.YtedakilpogagiaaMoonAtsn17
set_option linter.unusedSimpArgs false
set_option linter.unusedVariables false
section
namespace Go.Proofs.Ytedakilpogagiaa.PAll
open Go.RowKit Go.Proofs.YtedakilpogagiaaW.PrintWords Go.Proofs.YtedakilpogagiaaW.PrintLast Go.Proofs.YtedakilpogagiaaW.PrintMore Go.Proofs.Ytedakilpogagiaa.More2 Go.Proofs.Ytedakilpogagiaa.Sq
attribute [local go_sem] max2_int min2_int max_two min_two max_three min_three max_four min_four tdiv2e18_ tdiv1e18_ cellSS_  -- for this text's walks alone
def trig_root.l0 : Nat → Int → Int → Int → Option (Int)
 | 0, _, _, _ => none
 | k + 1, x0, x3, x4 => if x3 < x4 then (if (wrap64 (Int.tdiv (wrap64 ((wrap64 (x3 + x4)) + 1)) 2)) = 0 then (none) else (if (wrap64 (Int.tdiv (wrap64 ((wrap64 (x3 + x4)) + 1)) 2)) ≤ (wrap64 (Int.tdiv x0 (wrap64 (Int.tdiv (wrap64 ((wrap64 (x3 + x4)) + 1)) 2)))) then (trig_root.l0 k x0 (wrap64 (Int.tdiv (wrap64 ((wrap64 (x3 + x4)) + 1)) 2)) x4) else (trig_root.l0 k x0 x3 (wrap64 ((wrap64 (Int.tdiv (wrap64 ((wrap64 (x3 + x4)) + 1)) 2)) - 1))))) else (some x3)
def trig_root.f (k : Nat) (a0 : Int) : Option (Int) := trig_root.l0 k a0 0 2147483648
set_option maxHeartbeats 8000000 in
set_option maxRecDepth 100000 in
theorem trig_root.calls (k : Nat) (a0 : Int) (r : Int) (w : World) (h : trig_root.f k a0 = some r) :
  Calls Try.prog 109 #[.int .i64 a0] w fun e w' => e = .returned (.int .i64 r) ∧ Drawn0 w w' := by
 have H : (trig_root.l0 k a0 0 2147483648) = some r := h
 clear h
 have H' := Aside0.mk H
 clear H
 go_enter Try.func109, Try.ntmps109
 go_wp2
 go_loopg [3, 4] k (fun kq v3 v4 w' => ∃ (x3_1 : Int) (x4_1 : Int), v3 = .int .i64 x3_1 ∧ v4 = .int .i64 x4_1 ∧ Aside0 (trig_root.l0 kq a0 x3_1 x4_1 = some r) ∧ Aside0 (kq ≤ k) ∧ Drawn0 w w')
 case atStart => exact ⟨(0), (2147483648), (by first | rfl | (simp; done) | (simp [*]; done)), (by first | rfl | (simp; done) | (simp [*]; done)), H', ⟨Nat.le_refl _⟩, by repeat (first | exact Drawn0.refl _ | apply Drawn0.step)⟩
 case round =>
  clear H'
  try clear c1
  obtain ⟨x3_1, x4_1, rfl, rfl, HA, HK1, ⟨m1, rfl⟩⟩ := hrel
  cases gk with
  | zero => exact absurd HA.out (by simp [trig_root.l0])
  | succ k1 =>
   have H := HA.out
   clear HA
   simp only [trig_root.l0] at H
   by_cases c2 : x3_1 < x4_1
   ·rw [if_pos c2] at H
    have c2b0 : decide (x3_1 < x4_1) = true := decide_eq_true c2
    clear c2
    by_cases c3 : (wrap64 (Int.tdiv (wrap64 ((wrap64 (x3_1 + x4_1)) + 1)) 2)) = 0
    ·rw [if_pos c3] at H
     exact absurd H (by simp)
    ·rw [if_neg c3] at H
     have c3b0 : ((wrap64 (Int.tdiv (wrap64 ((wrap64 (x3_1 + x4_1)) + 1)) 2)) == 0) = false := beq_eq_false_iff_ne.mpr c3
     have c3b1 : ((wrap64 (Int.tdiv (wrap64 ((wrap64 (x3_1 + x4_1)) + 1)) 2)) != 0) = true := bne_iff_ne.mpr c3
     by_cases c4 : (wrap64 (Int.tdiv (wrap64 ((wrap64 (x3_1 + x4_1)) + 1)) 2)) ≤ (wrap64 (Int.tdiv a0 (wrap64 (Int.tdiv (wrap64 ((wrap64 (x3_1 + x4_1)) + 1)) 2))))
     ·rw [if_pos c4] at H
      have c4b0 : decide ((wrap64 (Int.tdiv (wrap64 ((wrap64 (x3_1 + x4_1)) + 1)) 2)) ≤ (wrap64 (Int.tdiv a0 (wrap64 (Int.tdiv (wrap64 ((wrap64 (x3_1 + x4_1)) + 1)) 2))))) = true := decide_eq_true c4
      clear c4
      have H' := Aside0.mk H
      clear H
      go_wp2
      go_roundg k1
      case measure => have := HK1.out; omega
      case rel => exact ⟨(wrap64 (Int.tdiv (wrap64 ((wrap64 (x3_1 + x4_1)) + 1)) 2)), (x4_1), (by first | rfl | (simp; done) | (simp [*]; done)), (by first | rfl | (simp; done) | (simp [*]; done)), H', ⟨by have := HK1.out; omega⟩, by repeat (first | exact Drawn0.refl _ | apply Drawn0.step)⟩
     ·rw [if_neg c4] at H
      have c4b0 : decide ((wrap64 (Int.tdiv (wrap64 ((wrap64 (x3_1 + x4_1)) + 1)) 2)) ≤ (wrap64 (Int.tdiv a0 (wrap64 (Int.tdiv (wrap64 ((wrap64 (x3_1 + x4_1)) + 1)) 2))))) = false := decide_eq_false c4
      clear c4
      have H' := Aside0.mk H
      clear H
      go_wp2
      go_roundg k1
      case measure => have := HK1.out; omega
      case rel => exact ⟨(x3_1), (wrap64 ((wrap64 (Int.tdiv (wrap64 ((wrap64 (x3_1 + x4_1)) + 1)) 2)) - 1)), (by first | rfl | (simp; done) | (simp [*]; done)), (by first | rfl | (simp; done) | (simp [*]; done)), H', ⟨by have := HK1.out; omega⟩, by repeat (first | exact Drawn0.refl _ | apply Drawn0.step)⟩
   ·rw [if_neg c2] at H
    have c2b0 : decide (x3_1 < x4_1) = false := decide_eq_false c2
    clear c2
    obtain rfl := Option.some.inj H
    simp only [Option.some.injEq, Prod.mk.injEq] at H
    obtain ⟨rfl⟩ := H
    go_wp2
    go_ret
    exact ⟨by first | rfl | (simp; done) | (simp [*]; done), by repeat (first | exact Drawn0.refl _ | apply Drawn0.step)⟩
end Go.Proofs.Ytedakilpogagiaa.PAll
end
section
namespace Go.Proofs.Ytedakilpogagiaa.PAll
open Go.RowKit Go.Proofs.YtedakilpogagiaaW.PrintWords Go.Proofs.YtedakilpogagiaaW.PrintLast Go.Proofs.YtedakilpogagiaaW.PrintMore Go.Proofs.Ytedakilpogagiaa.More2 Go.Proofs.Ytedakilpogagiaa.Sq
attribute [local go_sem] max2_int min2_int max_two min_two max_three min_three max_four min_four tdiv2e18_ tdiv1e18_ cellSS_  -- for this text's walks alone
def trig_ArcSin.f (k : Nat) (a0_0 : Int) (a0_1 : Int) : Option (Int × Int × Int) := (interval_Check.f k a0_0 a0_1).bind fun t239 => (if t239 = 0 then ((trig_root.f k (wrap64 (1000000000000000000 - (wrap64 ((mx (-1000000000) (mn 1000000000 a0_0)) * (mx (-1000000000) (mn 1000000000 a0_0))))))).bind fun t240 => ((trig_direction.f k (mx (-1000000000) (mn 1000000000 a0_0)) t240).bind fun bt241 => ((trig_root.f k (wrap64 (1000000000000000000 - (wrap64 ((mx (-1000000000) (mn 1000000000 a0_1)) * (mx (-1000000000) (mn 1000000000 a0_1))))))).bind fun t244 => ((trig_direction.f k (mx (-1000000000) (mn 1000000000 a0_1)) t244).bind fun bt245 => (some (mx (-250000000) (wrap64 (bt241.1 - 1)), mn 250000000 (wrap64 (bt245.2 + 1)), 0)))))) else (some (0, 0, t239)))
set_option maxHeartbeats 8000000 in
set_option maxRecDepth 100000 in
theorem trig_ArcSin.calls (k : Nat) (a0_0 : Int) (a0_1 : Int) (r1 : Int) (r2 : Int) (r3 : Int) (w : World) (h : trig_ArcSin.f k a0_0 a0_1 = some (r1, r2, r3)) :
  Calls Try.prog 70 #[.agg #[.int .i64 a0_0, .int .i64 a0_1]] w fun e w' => e = .returned (.tuple #[.agg #[.int .i64 r1, .int .i64 r2], .int .i64 r3]) ∧ Below w.heap.size w w' := by
 have hu23 := Try.underlying23
 have HB := Aside0.mk (Below.refl w.heap.size w)
 have H : ((interval_Check.f k a0_0 a0_1).bind fun t239 => (if t239 = 0 then ((trig_root.f k (wrap64 (1000000000000000000 - (wrap64 ((mx (-1000000000) (mn 1000000000 a0_0)) * (mx (-1000000000) (mn 1000000000 a0_0))))))).bind fun t240 => ((trig_direction.f k (mx (-1000000000) (mn 1000000000 a0_0)) t240).bind fun bt241 => ((trig_root.f k (wrap64 (1000000000000000000 - (wrap64 ((mx (-1000000000) (mn 1000000000 a0_1)) * (mx (-1000000000) (mn 1000000000 a0_1))))))).bind fun t244 => ((trig_direction.f k (mx (-1000000000) (mn 1000000000 a0_1)) t244).bind fun bt245 => (some (mx (-250000000) (wrap64 (bt241.1 - 1)), mn 250000000 (wrap64 (bt245.2 + 1)), 0)))))) else (some (0, 0, t239)))) = some (r1, r2, r3) := h
 clear h
 replace H := Option.bind_eq_some_iff.mp H
 obtain ⟨t239, A20, H⟩ := H
 replace H : (if t239 = 0 then ((trig_root.f k (wrap64 (1000000000000000000 - (wrap64 ((mx (-1000000000) (mn 1000000000 a0_0)) * (mx (-1000000000) (mn 1000000000 a0_0))))))).bind fun t240 => ((trig_direction.f k (mx (-1000000000) (mn 1000000000 a0_0)) t240).bind fun bt241 => ((trig_root.f k (wrap64 (1000000000000000000 - (wrap64 ((mx (-1000000000) (mn 1000000000 a0_1)) * (mx (-1000000000) (mn 1000000000 a0_1))))))).bind fun t244 => ((trig_direction.f k (mx (-1000000000) (mn 1000000000 a0_1)) t244).bind fun bt245 => (some (mx (-250000000) (wrap64 (bt241.1 - 1)), mn 250000000 (wrap64 (bt245.2 + 1)), 0)))))) else (some (0, 0, t239))) = some (r1, r2, r3) := H
 have A2 := Aside0.mk A20
 clear A20
 have HC3 := Aside0.mk H
 clear H
 go_enter Try.func70, Try.ntmps70
 go_upto_if 12 with (first | ((with_reducible refine gate_dst (N := 1) rfl ?_); refine box_event ?hg (N := 1) ?hd (cs := #[.int .i64 a0_0, .int .i64 a0_1]) (t := 23) ?hr ?_; (case hd => rfl); (case hg => rfl); (case hr => first | (go_simp; done) | (go_simp; rfl)); intro gb237 hg w4 hbox hb; have BK237 := Aside0.mk (hbox); have GW237 := ge_ hg HB; have GE237 := ge_ hg HB; replace HB := bs_ HB hb; clear hb hbox hg) | ((with_reducible refine gate_dst (N := 2) rfl ?_); refine box_event ?hg (N := 2) ?hd (cs := #[.int .i64 0, .int .i64 0]) (t := 23) ?hr ?_; (case hd => rfl); (case hg => rfl); (case hr => first | (go_simp; done) | (go_simp; rfl)); intro gb238 hg w5 hbox hb; have BK238 := Aside0.mk (hbox); have GW238 := ge_ hg HB; have GE238 := ge_ hg HB; have NB237_238 := nl_ hg BK237; have NB238_237 := ng_ hg BK237; replace BK237 := kb_ BK237 hb; replace HB := bs_ HB hb; clear hb hbox hg; have hnb6 := NB237_238.out; have hnc6 := NB238_237.out; have hcz7_0 : w5.cell? ⟨gb237, 0, none⟩ = some (.int .i64 a0_0) := (blk_cell BK237.out 0).trans rfl; have hcz7_1 : w5.cell? ⟨gb237, 1, none⟩ = some (.int .i64 a0_1) := (blk_cell BK237.out 1).trans rfl; have hfz7_0 := blk_frozen BK237.out 0; have hfz7_1 := blk_frozen BK237.out 1) | (go_at_call 61; (with_reducible refine (interval_Check.calls k a0_0 a0_1 t239 _ A2.out).mono ?_); rintro e w8 ⟨rfl, hb⟩; replace BK237 := kb_ BK237 hb; replace BK238 := kb_ BK238 hb; replace HB := bs_ HB hb; (try clear hb); (try clear hb2); (try clear hk); (try clear hi)))
 repeat (go_quiet (first | ((with_reducible refine gate_dst (N := 1) rfl ?_); refine box_event ?hg (N := 1) ?hd (cs := #[.int .i64 a0_0, .int .i64 a0_1]) (t := 23) ?hr ?_; (case hd => rfl); (case hg => rfl); (case hr => first | (go_simp; done) | (go_simp; rfl)); intro gb237 hg w4 hbox hb; have BK237 := Aside0.mk (hbox); have GW237 := ge_ hg HB; have GE237 := ge_ hg HB; replace HB := bs_ HB hb; clear hb hbox hg) | ((with_reducible refine gate_dst (N := 2) rfl ?_); refine box_event ?hg (N := 2) ?hd (cs := #[.int .i64 0, .int .i64 0]) (t := 23) ?hr ?_; (case hd => rfl); (case hg => rfl); (case hr => first | (go_simp; done) | (go_simp; rfl)); intro gb238 hg w5 hbox hb; have BK238 := Aside0.mk (hbox); have GW238 := ge_ hg HB; have GE238 := ge_ hg HB; have NB237_238 := nl_ hg BK237; have NB238_237 := ng_ hg BK237; replace BK237 := kb_ BK237 hb; replace HB := bs_ HB hb; clear hb hbox hg; have hnb6 := NB237_238.out; have hnc6 := NB238_237.out; have hcz7_0 : w5.cell? ⟨gb237, 0, none⟩ = some (.int .i64 a0_0) := (blk_cell BK237.out 0).trans rfl; have hcz7_1 : w5.cell? ⟨gb237, 1, none⟩ = some (.int .i64 a0_1) := (blk_cell BK237.out 1).trans rfl; have hfz7_0 := blk_frozen BK237.out 0; have hfz7_1 := blk_frozen BK237.out 1) | (go_at_call 61; (with_reducible refine (interval_Check.calls k a0_0 a0_1 t239 _ A2.out).mono ?_); rintro e w8 ⟨rfl, hb⟩; replace BK237 := kb_ BK237 hb; replace BK238 := kb_ BK238 hb; replace HB := bs_ HB hb; (try clear hb); (try clear hb2); (try clear hk); (try clear hi))); go_upto_if 12 with (first | ((with_reducible refine gate_dst (N := 1) rfl ?_); refine box_event ?hg (N := 1) ?hd (cs := #[.int .i64 a0_0, .int .i64 a0_1]) (t := 23) ?hr ?_; (case hd => rfl); (case hg => rfl); (case hr => first | (go_simp; done) | (go_simp; rfl)); intro gb237 hg w4 hbox hb; have BK237 := Aside0.mk (hbox); have GW237 := ge_ hg HB; have GE237 := ge_ hg HB; replace HB := bs_ HB hb; clear hb hbox hg) | ((with_reducible refine gate_dst (N := 2) rfl ?_); refine box_event ?hg (N := 2) ?hd (cs := #[.int .i64 0, .int .i64 0]) (t := 23) ?hr ?_; (case hd => rfl); (case hg => rfl); (case hr => first | (go_simp; done) | (go_simp; rfl)); intro gb238 hg w5 hbox hb; have BK238 := Aside0.mk (hbox); have GW238 := ge_ hg HB; have GE238 := ge_ hg HB; have NB237_238 := nl_ hg BK237; have NB238_237 := ng_ hg BK237; replace BK237 := kb_ BK237 hb; replace HB := bs_ HB hb; clear hb hbox hg; have hnb6 := NB237_238.out; have hnc6 := NB238_237.out; have hcz7_0 : w5.cell? ⟨gb237, 0, none⟩ = some (.int .i64 a0_0) := (blk_cell BK237.out 0).trans rfl; have hcz7_1 : w5.cell? ⟨gb237, 1, none⟩ = some (.int .i64 a0_1) := (blk_cell BK237.out 1).trans rfl; have hfz7_0 := blk_frozen BK237.out 0; have hfz7_1 := blk_frozen BK237.out 1) | (go_at_call 61; (with_reducible refine (interval_Check.calls k a0_0 a0_1 t239 _ A2.out).mono ?_); rintro e w8 ⟨rfl, hb⟩; replace BK237 := kb_ BK237 hb; replace BK238 := kb_ BK238 hb; replace HB := bs_ HB hb; (try clear hb); (try clear hb2); (try clear hk); (try clear hi))))
 (try simp only [Act.put, List.setIfInBounds_toArray, List.set_cons_zero, List.set_cons_succ])
 have H := HC3.out
 clear HC3
 by_cases c9 : t239 = 0
 ·rw [if_pos c9] at H
  have c9b0 : (t239 == 0) = true := beq_iff_eq.mpr c9
  have c9b1 : (t239 != 0) = false := bne_eq_false_iff_eq.mpr c9
  clear c9
  (first | rw [c9b0] | (simp only [i64_w, i32_w]; rw [c9b0]) | skip)
  obtain ⟨ji10, hji10⟩ : ∃ j_ : Int, (mn 1000000000 a0_0) = j_ := ⟨_, rfl⟩
  replace H : ((trig_root.f k (wrap64 (1000000000000000000 - (wrap64 ((mx (-1000000000) (ji10)) * (mx (-1000000000) (ji10))))))).bind fun t240 => ((trig_direction.f k (mx (-1000000000) (ji10)) t240).bind fun bt241 => ((trig_root.f k (wrap64 (1000000000000000000 - (wrap64 ((mx (-1000000000) (mn 1000000000 a0_1)) * (mx (-1000000000) (mn 1000000000 a0_1))))))).bind fun t244 => ((trig_direction.f k (mx (-1000000000) (mn 1000000000 a0_1)) t244).bind fun bt245 => (some (mx (-250000000) (wrap64 (bt241.1 - 1)), mn 250000000 (wrap64 (bt245.2 + 1)), 0)))))) = some (r1, r2, r3) := by first | (rw [hji10] at H; exact H) | (simp only [hji10] at H ⊢; exact H)
  (try (have hji10h : ji10 ≤ 1000000000 := by (rw [← hji10]; unfold mn; (repeat' split) <;> omega)))
  (try (have hji10g : ji10 ≤ 64 := by omega))
  have hji10_ : (if a0_0 < 1000000000 then a0_0 else 1000000000) = ji10 := hji10
  obtain ⟨ji11, hji11⟩ : ∃ j_ : Int, (mx (-1000000000) (ji10)) = j_ := ⟨_, rfl⟩
  replace H : ((trig_root.f k (wrap64 (1000000000000000000 - (wrap64 ((ji11) * (ji11)))))).bind fun t240 => ((trig_direction.f k (ji11) t240).bind fun bt241 => ((trig_root.f k (wrap64 (1000000000000000000 - (wrap64 ((mx (-1000000000) (mn 1000000000 a0_1)) * (mx (-1000000000) (mn 1000000000 a0_1))))))).bind fun t244 => ((trig_direction.f k (mx (-1000000000) (mn 1000000000 a0_1)) t244).bind fun bt245 => (some (mx (-250000000) (wrap64 (bt241.1 - 1)), mn 250000000 (wrap64 (bt245.2 + 1)), 0)))))) = some (r1, r2, r3) := by first | (rw [hji11] at H; exact H) | (simp only [hji11] at H ⊢; exact H)
  have hji11_ : (if (-1000000000) < (ji10) then (ji10) else (-1000000000)) = ji11 := hji11
  obtain ⟨ji12, hji12⟩ : ∃ j_ : Int, (mn 1000000000 a0_1) = j_ := ⟨_, rfl⟩
  replace H : ((trig_root.f k (wrap64 (1000000000000000000 - (wrap64 ((ji11) * (ji11)))))).bind fun t240 => ((trig_direction.f k (ji11) t240).bind fun bt241 => ((trig_root.f k (wrap64 (1000000000000000000 - (wrap64 ((mx (-1000000000) (ji12)) * (mx (-1000000000) (ji12))))))).bind fun t244 => ((trig_direction.f k (mx (-1000000000) (ji12)) t244).bind fun bt245 => (some (mx (-250000000) (wrap64 (bt241.1 - 1)), mn 250000000 (wrap64 (bt245.2 + 1)), 0)))))) = some (r1, r2, r3) := by first | (rw [hji12] at H; exact H) | (simp only [hji12] at H ⊢; exact H)
  (try (have hji12h : ji12 ≤ 1000000000 := by (rw [← hji12]; unfold mn; (repeat' split) <;> omega)))
  (try (have hji12g : ji12 ≤ 64 := by omega))
  have hji12_ : (if a0_1 < 1000000000 then a0_1 else 1000000000) = ji12 := hji12
  obtain ⟨ji13, hji13⟩ : ∃ j_ : Int, (mx (-1000000000) (ji12)) = j_ := ⟨_, rfl⟩
  replace H : ((trig_root.f k (wrap64 (1000000000000000000 - (wrap64 ((ji11) * (ji11)))))).bind fun t240 => ((trig_direction.f k (ji11) t240).bind fun bt241 => ((trig_root.f k (wrap64 (1000000000000000000 - (wrap64 ((ji13) * (ji13)))))).bind fun t244 => ((trig_direction.f k (ji13) t244).bind fun bt245 => (some (mx (-250000000) (wrap64 (bt241.1 - 1)), mn 250000000 (wrap64 (bt245.2 + 1)), 0)))))) = some (r1, r2, r3) := by first | (rw [hji13] at H; exact H) | (simp only [hji13] at H ⊢; exact H)
  have hji13_ : (if (-1000000000) < (ji12) then (ji12) else (-1000000000)) = ji13 := hji13
  replace H := Option.bind_eq_some_iff.mp H
  obtain ⟨t240, A140, H⟩ := H
  replace H : ((trig_direction.f k (ji11) t240).bind fun bt241 => ((trig_root.f k (wrap64 (1000000000000000000 - (wrap64 ((ji13) * (ji13)))))).bind fun t244 => ((trig_direction.f k (ji13) t244).bind fun bt245 => (some (mx (-250000000) (wrap64 (bt241.1 - 1)), mn 250000000 (wrap64 (bt245.2 + 1)), 0))))) = some (r1, r2, r3) := H
  have A14 := Aside0.mk A140
  clear A140
  replace H := Option.bind_eq_some_iff.mp H
  obtain ⟨⟨t241, t242⟩, A150, H⟩ := H
  replace H : ((trig_root.f k (wrap64 (1000000000000000000 - (wrap64 ((ji13) * (ji13)))))).bind fun t244 => ((trig_direction.f k (ji13) t244).bind fun bt245 => (some (mx (-250000000) (wrap64 (t241 - 1)), mn 250000000 (wrap64 (bt245.2 + 1)), 0)))) = some (r1, r2, r3) := H
  have A15 := Aside0.mk A150
  clear A150
  replace H := Option.bind_eq_some_iff.mp H
  obtain ⟨t244, A160, H⟩ := H
  replace H : ((trig_direction.f k (ji13) t244).bind fun bt245 => (some (mx (-250000000) (wrap64 (t241 - 1)), mn 250000000 (wrap64 (bt245.2 + 1)), 0))) = some (r1, r2, r3) := H
  have A16 := Aside0.mk A160
  clear A160
  replace H := Option.bind_eq_some_iff.mp H
  obtain ⟨⟨t245, t246⟩, A170, H⟩ := H
  replace H : (some (mx (-250000000) (wrap64 (t241 - 1)), mn 250000000 (wrap64 (t246 + 1)), 0)) = some (r1, r2, r3) := H
  have A17 := Aside0.mk A170
  clear A170
  obtain ⟨ji18, hji18⟩ : ∃ j_ : Int, (mx (-250000000) (wrap64 (t241 - 1))) = j_ := ⟨_, rfl⟩
  replace H : (some (ji18, mn 250000000 (wrap64 (t246 + 1)), 0)) = some (r1, r2, r3) := by first | (rw [hji18] at H; exact H) | (simp only [hji18] at H ⊢; exact H)
  (try rw [hji18] at A14)
  (try rw [hji18] at A15)
  (try rw [hji18] at A16)
  (try rw [hji18] at A17)
  have hji18_ : (if (-250000000) < (wrap64 (t241 - 1)) then (wrap64 (t241 - 1)) else (-250000000)) = ji18 := hji18
  obtain ⟨ji19, hji19⟩ : ∃ j_ : Int, (mn 250000000 (wrap64 (t246 + 1))) = j_ := ⟨_, rfl⟩
  replace H : (some (ji18, ji19, 0)) = some (r1, r2, r3) := by first | (rw [hji19] at H; exact H) | (simp only [hji19] at H ⊢; exact H)
  (try rw [hji19] at A14)
  (try rw [hji19] at A15)
  (try rw [hji19] at A16)
  (try rw [hji19] at A17)
  (try (have hji19h : ji19 ≤ 250000000 := by (rw [← hji19]; unfold mn; (repeat' split) <;> omega)))
  (try (have hji19g : ji19 ≤ 64 := by omega))
  have hji19_ : (if (wrap64 (t246 + 1)) < 250000000 then (wrap64 (t246 + 1)) else 250000000) = ji19 := hji19
  simp only [Option.some.injEq, Prod.mk.injEq] at H
  obtain ⟨rfl, rfl, rfl⟩ := H
  have hnb20 := NB237_238.out
  have hnc20 := NB238_237.out
  have hcz21_0 : w8.cell? ⟨gb237, 0, none⟩ = some (.int .i64 a0_0) := (blk_cell BK237.out 0).trans rfl
  have hcz21_1 : w8.cell? ⟨gb237, 1, none⟩ = some (.int .i64 a0_1) := (blk_cell BK237.out 1).trans rfl
  have hfz21_0 := blk_frozen BK237.out 0
  have hfz21_1 := blk_frozen BK237.out 1
  go_wp2_with (first | (go_at_call 109; (with_reducible refine (trig_root.calls k (wrap64 (1000000000000000000 - (wrap64 ((ji11) * (ji11))))) t240 _ A14.out).mono ?_); rintro e w' ⟨rfl, ⟨nd, rfl⟩⟩; (try first | exact ⟨rfl, _, World.drewN_drewN _ _ _⟩ | exact ⟨rfl, _, Eq.trans (World.drewN_drewN _ _ _) (congrArg (World.drewN _) (Nat.add_assoc _ _ _))⟩)) | (go_at_call 108; (with_reducible refine (trig_direction.calls k ji11 t240 t241 t242 _ A15.out).mono ?_); rintro e w22 ⟨rfl, hb⟩; replace BK237 := kb_ BK237 hb; replace BK238 := kb_ BK238 hb; replace HB := bs_ HB hb; (try clear hb); (try clear hb2); (try clear hk); (try clear hi)) | ((with_reducible refine gate_dst (N := 7) rfl ?_); refine box_event ?hg (N := 7) ?hd (cs := #[.int .i64 0, .int .i64 0]) (t := 23) ?hr ?_; (case hd => rfl); (case hg => rfl); (case hr => first | (go_simp; done) | (go_simp; rfl)); intro gb243 hg w23 hbox hb; have BK243 := Aside0.mk (hbox); have GW243 := ge_ hg HB; have GE243 := ge_ hg HB; have NB237_243 := nl_ hg BK237; have NB243_237 := ng_ hg BK237; have NB238_243 := nl_ hg BK238; have NB243_238 := ng_ hg BK238; replace BK237 := kb_ BK237 hb; replace BK238 := kb_ BK238 hb; replace HB := bs_ HB hb; clear hb hbox hg; have hnb24 := NB243_237.out; have hnc24 := NB237_243.out; have hnb25 := NB243_238.out; have hnc25 := NB238_243.out; have hcz26_0 : w23.cell? ⟨gb243, 0, none⟩ = some (.int .i64 0) := (blk_cell BK243.out 0).trans rfl; have hcz26_1 : w23.cell? ⟨gb243, 1, none⟩ = some (.int .i64 0) := (blk_cell BK243.out 1).trans rfl; have hfz26_0 := blk_frozen BK243.out 0; have hfz26_1 := blk_frozen BK243.out 1) | (go_at_call 109; (with_reducible refine (trig_root.calls k (wrap64 (1000000000000000000 - (wrap64 ((ji13) * (ji13))))) t244 _ A16.out).mono ?_); rintro e w' ⟨rfl, ⟨nd, rfl⟩⟩; (try first | exact ⟨rfl, _, World.drewN_drewN _ _ _⟩ | exact ⟨rfl, _, Eq.trans (World.drewN_drewN _ _ _) (congrArg (World.drewN _) (Nat.add_assoc _ _ _))⟩)) | (go_at_call 108; (with_reducible refine (trig_direction.calls k ji13 t244 t245 t246 _ A17.out).mono ?_); rintro e w27 ⟨rfl, hb⟩; have n0_ := kb_ BK237 hb; have n1_ := kb_ BK238 hb; have n2_ := Aside0.mk (blk_below (g := gb243) (o := .cells #[.int .i64 t241, .int .i64 t242] 23 (0, 0)) (by (with_reducible repeat (first | refine blk_drewN ?_ _ | refine blk_drew ?_ | refine blk_alloc ?_ _)); refine blk_put (cs := #[.int .i64 t241, .int .i64 0]) ?_ 1 _ rfl; (with_reducible repeat (first | refine blk_drewN ?_ _ | refine blk_drew ?_ | refine blk_alloc ?_ _)); refine blk_put (cs := #[.int .i64 0, .int .i64 0]) ?_ 0 _ rfl; (with_reducible repeat (first | refine blk_drewN ?_ _ | refine blk_drew ?_ | refine blk_alloc ?_ _)); exact BK243.out) hb); have n3_ := bs_ HB hb; clear BK237; clear BK238; clear BK243; clear HB; have BK237 := n0_; have BK238 := n1_; have BK243 := n2_; have HB := n3_; clear n0_ n1_ n2_ n3_; (try clear hb); (try clear hb2); (try clear hk); (try clear hi)) | ((with_reducible refine gate_dst (N := 8) rfl ?_); refine box_event ?hg (N := 8) ?hd (cs := #[.int .i64 0, .int .i64 0]) (t := 23) ?hr ?_; (case hd => rfl); (case hg => rfl); (case hr => first | (go_simp; done) | (go_simp; rfl)); intro gb247 hg w28 hbox hb; have BK247 := Aside0.mk (hbox); have GW247 := ge_ hg HB; have GE247 := ge_ hg HB; have NB237_247 := nl_ hg BK237; have NB247_237 := ng_ hg BK237; have NB238_247 := nl_ hg BK238; have NB247_238 := ng_ hg BK238; have NB243_247 := nl_ hg BK243; have NB247_243 := ng_ hg BK243; replace BK237 := kb_ BK237 hb; replace BK238 := kb_ BK238 hb; replace BK243 := kb_ BK243 hb; replace HB := bs_ HB hb; clear hb hbox hg; have hnb29 := NB247_237.out; have hnc29 := NB237_247.out; have hnb30 := NB247_238.out; have hnc30 := NB238_247.out; have hnb31 := NB247_243.out; have hnc31 := NB243_247.out; have hcz32_0 : w28.cell? ⟨gb247, 0, none⟩ = some (.int .i64 0) := (blk_cell BK247.out 0).trans rfl; have hcz32_1 : w28.cell? ⟨gb247, 1, none⟩ = some (.int .i64 0) := (blk_cell BK247.out 1).trans rfl; have hfz32_0 := blk_frozen BK247.out 0; have hfz32_1 := blk_frozen BK247.out 1; have hcz33_0 : w28.cell? ⟨gb243, 0, none⟩ = some (.int .i64 t241) := (blk_cell BK243.out 0).trans rfl; have hcz33_1 : w28.cell? ⟨gb243, 1, none⟩ = some (.int .i64 t242) := (blk_cell BK243.out 1).trans rfl; have hfz33_0 := blk_frozen BK243.out 0; have hfz33_1 := blk_frozen BK243.out 1; have hcz34_0 : w28.cell? ⟨gb238, 0, none⟩ = some (.int .i64 0) := (blk_cell BK238.out 0).trans rfl; have hcz34_1 : w28.cell? ⟨gb238, 1, none⟩ = some (.int .i64 0) := (blk_cell BK238.out 1).trans rfl; have hfz34_0 := blk_frozen BK238.out 0; have hfz34_1 := blk_frozen BK238.out 1))
  repeat (go_quiet (first | (go_at_call 109; (with_reducible refine (trig_root.calls k (wrap64 (1000000000000000000 - (wrap64 ((ji11) * (ji11))))) t240 _ A14.out).mono ?_); rintro e w' ⟨rfl, ⟨nd, rfl⟩⟩; (try first | exact ⟨rfl, _, World.drewN_drewN _ _ _⟩ | exact ⟨rfl, _, Eq.trans (World.drewN_drewN _ _ _) (congrArg (World.drewN _) (Nat.add_assoc _ _ _))⟩)) | (go_at_call 108; (with_reducible refine (trig_direction.calls k ji11 t240 t241 t242 _ A15.out).mono ?_); rintro e w22 ⟨rfl, hb⟩; replace BK237 := kb_ BK237 hb; replace BK238 := kb_ BK238 hb; replace HB := bs_ HB hb; (try clear hb); (try clear hb2); (try clear hk); (try clear hi)) | ((with_reducible refine gate_dst (N := 7) rfl ?_); refine box_event ?hg (N := 7) ?hd (cs := #[.int .i64 0, .int .i64 0]) (t := 23) ?hr ?_; (case hd => rfl); (case hg => rfl); (case hr => first | (go_simp; done) | (go_simp; rfl)); intro gb243 hg w23 hbox hb; have BK243 := Aside0.mk (hbox); have GW243 := ge_ hg HB; have GE243 := ge_ hg HB; have NB237_243 := nl_ hg BK237; have NB243_237 := ng_ hg BK237; have NB238_243 := nl_ hg BK238; have NB243_238 := ng_ hg BK238; replace BK237 := kb_ BK237 hb; replace BK238 := kb_ BK238 hb; replace HB := bs_ HB hb; clear hb hbox hg; have hnb24 := NB243_237.out; have hnc24 := NB237_243.out; have hnb25 := NB243_238.out; have hnc25 := NB238_243.out; have hcz26_0 : w23.cell? ⟨gb243, 0, none⟩ = some (.int .i64 0) := (blk_cell BK243.out 0).trans rfl; have hcz26_1 : w23.cell? ⟨gb243, 1, none⟩ = some (.int .i64 0) := (blk_cell BK243.out 1).trans rfl; have hfz26_0 := blk_frozen BK243.out 0; have hfz26_1 := blk_frozen BK243.out 1) | (go_at_call 109; (with_reducible refine (trig_root.calls k (wrap64 (1000000000000000000 - (wrap64 ((ji13) * (ji13))))) t244 _ A16.out).mono ?_); rintro e w' ⟨rfl, ⟨nd, rfl⟩⟩; (try first | exact ⟨rfl, _, World.drewN_drewN _ _ _⟩ | exact ⟨rfl, _, Eq.trans (World.drewN_drewN _ _ _) (congrArg (World.drewN _) (Nat.add_assoc _ _ _))⟩)) | (go_at_call 108; (with_reducible refine (trig_direction.calls k ji13 t244 t245 t246 _ A17.out).mono ?_); rintro e w27 ⟨rfl, hb⟩; have n0_ := kb_ BK237 hb; have n1_ := kb_ BK238 hb; have n2_ := Aside0.mk (blk_below (g := gb243) (o := .cells #[.int .i64 t241, .int .i64 t242] 23 (0, 0)) (by (with_reducible repeat (first | refine blk_drewN ?_ _ | refine blk_drew ?_ | refine blk_alloc ?_ _)); refine blk_put (cs := #[.int .i64 t241, .int .i64 0]) ?_ 1 _ rfl; (with_reducible repeat (first | refine blk_drewN ?_ _ | refine blk_drew ?_ | refine blk_alloc ?_ _)); refine blk_put (cs := #[.int .i64 0, .int .i64 0]) ?_ 0 _ rfl; (with_reducible repeat (first | refine blk_drewN ?_ _ | refine blk_drew ?_ | refine blk_alloc ?_ _)); exact BK243.out) hb); have n3_ := bs_ HB hb; clear BK237; clear BK238; clear BK243; clear HB; have BK237 := n0_; have BK238 := n1_; have BK243 := n2_; have HB := n3_; clear n0_ n1_ n2_ n3_; (try clear hb); (try clear hb2); (try clear hk); (try clear hi)) | ((with_reducible refine gate_dst (N := 8) rfl ?_); refine box_event ?hg (N := 8) ?hd (cs := #[.int .i64 0, .int .i64 0]) (t := 23) ?hr ?_; (case hd => rfl); (case hg => rfl); (case hr => first | (go_simp; done) | (go_simp; rfl)); intro gb247 hg w28 hbox hb; have BK247 := Aside0.mk (hbox); have GW247 := ge_ hg HB; have GE247 := ge_ hg HB; have NB237_247 := nl_ hg BK237; have NB247_237 := ng_ hg BK237; have NB238_247 := nl_ hg BK238; have NB247_238 := ng_ hg BK238; have NB243_247 := nl_ hg BK243; have NB247_243 := ng_ hg BK243; replace BK237 := kb_ BK237 hb; replace BK238 := kb_ BK238 hb; replace BK243 := kb_ BK243 hb; replace HB := bs_ HB hb; clear hb hbox hg; have hnb29 := NB247_237.out; have hnc29 := NB237_247.out; have hnb30 := NB247_238.out; have hnc30 := NB238_247.out; have hnb31 := NB247_243.out; have hnc31 := NB243_247.out; have hcz32_0 : w28.cell? ⟨gb247, 0, none⟩ = some (.int .i64 0) := (blk_cell BK247.out 0).trans rfl; have hcz32_1 : w28.cell? ⟨gb247, 1, none⟩ = some (.int .i64 0) := (blk_cell BK247.out 1).trans rfl; have hfz32_0 := blk_frozen BK247.out 0; have hfz32_1 := blk_frozen BK247.out 1; have hcz33_0 : w28.cell? ⟨gb243, 0, none⟩ = some (.int .i64 t241) := (blk_cell BK243.out 0).trans rfl; have hcz33_1 : w28.cell? ⟨gb243, 1, none⟩ = some (.int .i64 t242) := (blk_cell BK243.out 1).trans rfl; have hfz33_0 := blk_frozen BK243.out 0; have hfz33_1 := blk_frozen BK243.out 1; have hcz34_0 : w28.cell? ⟨gb238, 0, none⟩ = some (.int .i64 0) := (blk_cell BK238.out 0).trans rfl; have hcz34_1 : w28.cell? ⟨gb238, 1, none⟩ = some (.int .i64 0) := (blk_cell BK238.out 1).trans rfl; have hfz34_0 := blk_frozen BK238.out 0; have hfz34_1 := blk_frozen BK238.out 1)); try go_wp2_with (first | (go_at_call 109; (with_reducible refine (trig_root.calls k (wrap64 (1000000000000000000 - (wrap64 ((ji11) * (ji11))))) t240 _ A14.out).mono ?_); rintro e w' ⟨rfl, ⟨nd, rfl⟩⟩; (try first | exact ⟨rfl, _, World.drewN_drewN _ _ _⟩ | exact ⟨rfl, _, Eq.trans (World.drewN_drewN _ _ _) (congrArg (World.drewN _) (Nat.add_assoc _ _ _))⟩)) | (go_at_call 108; (with_reducible refine (trig_direction.calls k ji11 t240 t241 t242 _ A15.out).mono ?_); rintro e w22 ⟨rfl, hb⟩; replace BK237 := kb_ BK237 hb; replace BK238 := kb_ BK238 hb; replace HB := bs_ HB hb; (try clear hb); (try clear hb2); (try clear hk); (try clear hi)) | ((with_reducible refine gate_dst (N := 7) rfl ?_); refine box_event ?hg (N := 7) ?hd (cs := #[.int .i64 0, .int .i64 0]) (t := 23) ?hr ?_; (case hd => rfl); (case hg => rfl); (case hr => first | (go_simp; done) | (go_simp; rfl)); intro gb243 hg w23 hbox hb; have BK243 := Aside0.mk (hbox); have GW243 := ge_ hg HB; have GE243 := ge_ hg HB; have NB237_243 := nl_ hg BK237; have NB243_237 := ng_ hg BK237; have NB238_243 := nl_ hg BK238; have NB243_238 := ng_ hg BK238; replace BK237 := kb_ BK237 hb; replace BK238 := kb_ BK238 hb; replace HB := bs_ HB hb; clear hb hbox hg; have hnb24 := NB243_237.out; have hnc24 := NB237_243.out; have hnb25 := NB243_238.out; have hnc25 := NB238_243.out; have hcz26_0 : w23.cell? ⟨gb243, 0, none⟩ = some (.int .i64 0) := (blk_cell BK243.out 0).trans rfl; have hcz26_1 : w23.cell? ⟨gb243, 1, none⟩ = some (.int .i64 0) := (blk_cell BK243.out 1).trans rfl; have hfz26_0 := blk_frozen BK243.out 0; have hfz26_1 := blk_frozen BK243.out 1) | (go_at_call 109; (with_reducible refine (trig_root.calls k (wrap64 (1000000000000000000 - (wrap64 ((ji13) * (ji13))))) t244 _ A16.out).mono ?_); rintro e w' ⟨rfl, ⟨nd, rfl⟩⟩; (try first | exact ⟨rfl, _, World.drewN_drewN _ _ _⟩ | exact ⟨rfl, _, Eq.trans (World.drewN_drewN _ _ _) (congrArg (World.drewN _) (Nat.add_assoc _ _ _))⟩)) | (go_at_call 108; (with_reducible refine (trig_direction.calls k ji13 t244 t245 t246 _ A17.out).mono ?_); rintro e w27 ⟨rfl, hb⟩; have n0_ := kb_ BK237 hb; have n1_ := kb_ BK238 hb; have n2_ := Aside0.mk (blk_below (g := gb243) (o := .cells #[.int .i64 t241, .int .i64 t242] 23 (0, 0)) (by (with_reducible repeat (first | refine blk_drewN ?_ _ | refine blk_drew ?_ | refine blk_alloc ?_ _)); refine blk_put (cs := #[.int .i64 t241, .int .i64 0]) ?_ 1 _ rfl; (with_reducible repeat (first | refine blk_drewN ?_ _ | refine blk_drew ?_ | refine blk_alloc ?_ _)); refine blk_put (cs := #[.int .i64 0, .int .i64 0]) ?_ 0 _ rfl; (with_reducible repeat (first | refine blk_drewN ?_ _ | refine blk_drew ?_ | refine blk_alloc ?_ _)); exact BK243.out) hb); have n3_ := bs_ HB hb; clear BK237; clear BK238; clear BK243; clear HB; have BK237 := n0_; have BK238 := n1_; have BK243 := n2_; have HB := n3_; clear n0_ n1_ n2_ n3_; (try clear hb); (try clear hb2); (try clear hk); (try clear hi)) | ((with_reducible refine gate_dst (N := 8) rfl ?_); refine box_event ?hg (N := 8) ?hd (cs := #[.int .i64 0, .int .i64 0]) (t := 23) ?hr ?_; (case hd => rfl); (case hg => rfl); (case hr => first | (go_simp; done) | (go_simp; rfl)); intro gb247 hg w28 hbox hb; have BK247 := Aside0.mk (hbox); have GW247 := ge_ hg HB; have GE247 := ge_ hg HB; have NB237_247 := nl_ hg BK237; have NB247_237 := ng_ hg BK237; have NB238_247 := nl_ hg BK238; have NB247_238 := ng_ hg BK238; have NB243_247 := nl_ hg BK243; have NB247_243 := ng_ hg BK243; replace BK237 := kb_ BK237 hb; replace BK238 := kb_ BK238 hb; replace BK243 := kb_ BK243 hb; replace HB := bs_ HB hb; clear hb hbox hg; have hnb29 := NB247_237.out; have hnc29 := NB237_247.out; have hnb30 := NB247_238.out; have hnc30 := NB238_247.out; have hnb31 := NB247_243.out; have hnc31 := NB243_247.out; have hcz32_0 : w28.cell? ⟨gb247, 0, none⟩ = some (.int .i64 0) := (blk_cell BK247.out 0).trans rfl; have hcz32_1 : w28.cell? ⟨gb247, 1, none⟩ = some (.int .i64 0) := (blk_cell BK247.out 1).trans rfl; have hfz32_0 := blk_frozen BK247.out 0; have hfz32_1 := blk_frozen BK247.out 1; have hcz33_0 : w28.cell? ⟨gb243, 0, none⟩ = some (.int .i64 t241) := (blk_cell BK243.out 0).trans rfl; have hcz33_1 : w28.cell? ⟨gb243, 1, none⟩ = some (.int .i64 t242) := (blk_cell BK243.out 1).trans rfl; have hfz33_0 := blk_frozen BK243.out 0; have hfz33_1 := blk_frozen BK243.out 1; have hcz34_0 : w28.cell? ⟨gb238, 0, none⟩ = some (.int .i64 0) := (blk_cell BK238.out 0).trans rfl; have hcz34_1 : w28.cell? ⟨gb238, 1, none⟩ = some (.int .i64 0) := (blk_cell BK238.out 1).trans rfl; have hfz34_0 := blk_frozen BK238.out 0; have hfz34_1 := blk_frozen BK238.out 1)))
  refine bodyPost_ret (results_ct rfl _ _ gb238 23 #[.int .i64 ji18, .int .i64 ji19] (0, 0) _ rfl (by (with_reducible repeat (first | refine blk_drewN ?_ _ | refine blk_drew ?_ | refine blk_alloc ?_ _)); refine blk_put (cs := #[.int .i64 ji18, .int .i64 0]) ?_ 1 _ rfl; (with_reducible repeat (first | refine blk_drewN ?_ _ | refine blk_drew ?_ | refine blk_alloc ?_ _)); refine blk_put (cs := #[.int .i64 0, .int .i64 0]) ?_ 0 _ rfl; (with_reducible repeat (first | refine blk_drewN ?_ _ | refine blk_drew ?_ | refine blk_alloc ?_ _)); refine blk_far ?_ NB238_247.out _; (with_reducible repeat (first | refine blk_drewN ?_ _ | refine blk_drew ?_ | refine blk_alloc ?_ _)); refine blk_far ?_ NB238_247.out _; (with_reducible repeat (first | refine blk_drewN ?_ _ | refine blk_drew ?_ | refine blk_alloc ?_ _)); exact BK238.out) Try.underlying23 rfl (by kernel_rfl)) rfl ?_
  exact ⟨by first | rfl | (simp [errW_none, errW_some] <;> rfl) | (simp only [← hji10, ← hji11, ← hji12, ← hji13, ← hji18, ← hji19]; first | rfl | (simp [errW_none, errW_some] <;> rfl)) | (simp [*, errW_none, errW_some] <;> rfl), (be_ HB).out⟩
 ·rw [if_neg c9] at H
  have c9b0 : (t239 == 0) = false := beq_eq_false_iff_ne.mpr c9
  have c9b1 : (t239 != 0) = true := bne_iff_ne.mpr c9
  (first | rw [c9b0] | (simp only [i64_w, i32_w]; rw [c9b0]) | skip)
  simp only [Option.some.injEq, Prod.mk.injEq] at H
  obtain ⟨rfl, rfl, rfl⟩ := H
  have hnb35 := NB238_237.out
  have hnc35 := NB237_238.out
  have hcz36_0 : w8.cell? ⟨gb238, 0, none⟩ = some (.int .i64 0) := (blk_cell BK238.out 0).trans rfl
  have hcz36_1 : w8.cell? ⟨gb238, 1, none⟩ = some (.int .i64 0) := (blk_cell BK238.out 1).trans rfl
  have hfz36_0 := blk_frozen BK238.out 0
  have hfz36_1 := blk_frozen BK238.out 1
  go_wp2
  repeat (go_quiet (fail); try go_wp2)
  refine bodyPost_ret (results_ct rfl _ _ gb238 23 #[.int .i64 0, .int .i64 0] (0, 0) _ rfl (by (with_reducible repeat (first | refine blk_drewN ?_ _ | refine blk_drew ?_ | refine blk_alloc ?_ _)); refine blk_put (cs := #[.int .i64 0, .int .i64 0]) ?_ 1 _ rfl; (with_reducible repeat (first | refine blk_drewN ?_ _ | refine blk_drew ?_ | refine blk_alloc ?_ _)); refine blk_put (cs := #[.int .i64 0, .int .i64 0]) ?_ 0 _ rfl; (with_reducible repeat (first | refine blk_drewN ?_ _ | refine blk_drew ?_ | refine blk_alloc ?_ _)); exact BK238.out) Try.underlying23 rfl (by kernel_rfl)) rfl ?_
  exact ⟨by first | rfl | (simp [errW_none, errW_some] <;> rfl) | (simp [*, errW_none, errW_some] <;> rfl), (be_ HB).out⟩
end Go.Proofs.Ytedakilpogagiaa.PAll
end
section
namespace Go.Proofs.Ytedakilpogagiaa.PAll
open Go Go.RowKit Go.Proofs.YtedakilpogagiaaW.PrintWords Go.Proofs.Ytedakilpogagiaa.Sx
set_option maxRecDepth 100000
def sun_Equator.f (k : Nat) (a0_0 : Int) (a0_1 : Int) (a1_0 : Int) (a1_1 : Int) : Option (Int × Int × Int × Int × Int) :=
  ob (interval_Check.f k a0_0 a0_1) fun t1 =>
  oif ((t1 != 0) = true) (
   some (0, 0, 0, 0, t1)) (
   ob (interval_Check.f k a1_0 a1_1) fun t2 =>
   oif ((t2 != 0) = true) (
    some (0, 0, 0, 0, t2)) (
    oif (decide (a1_0 < -125000000) = true) (
     some (0, 0, 0, 0, 3)) (
     oif (decide (a1_1 > 125000000) = true) (
      some (0, 0, 0, 0, 3)) (
      ob (trig_Sin.f k 65109000) fun t3 =>
      ob (trig_Cos.f k 65109000) fun t4 =>
      ob (trig_SinOver.f k a0_0 a0_1) fun t5 =>
      ob (trig_CosOver.f k a0_0 a0_1) fun t6 =>
      ob (trig_SinOver.f k a1_0 a1_1) fun t7 =>
      ob (trig_CosOver.f k a1_0 a1_1) fun t8 =>
      ob (sun_Unit.f k t8.fst t8.snd.fst t5.fst t5.snd.fst) fun t9 =>
      ob (sun_Unit.f k t9.fst t9.snd t3.fst t3.snd.fst) fun t10 =>
      ob (sun_Unit.f k t7.fst t7.snd.fst t4.fst t4.snd.fst) fun t11 =>
      ob (sun_plus.f t10.fst t10.snd t11.fst t11.snd) fun t12 =>
      ob (sun_Unit.f k t9.fst t9.snd t4.fst t4.snd.fst) fun t13 =>
      ob (sun_Unit.f k t7.fst t7.snd.fst t3.fst t3.snd.fst) fun t14 =>
      ob (sun_less.f t13.fst t13.snd t14.fst t14.snd) fun t15 =>
      ob (sun_Unit.f k t8.fst t8.snd.fst t6.fst t6.snd.fst) fun t16 =>
      ob (trig_Arc.f k t15.fst t15.snd t16.fst t16.snd) fun t17 =>
      oif ((t17.snd.snd != 0) = true) (
       some (0, 0, 0, 0, t17.snd.snd)) (
       ob (trig_ArcSin.f k t12.fst t12.snd) fun t18 =>
       some (t17.fst, t17.snd.fst, t18.fst, t18.snd.fst, 0))))))
def sun_Equator.OQ {R : Type} (k : Nat) : OraQ R := fun g args K => match g with
  | 61 => (match args with | [.agg ⟨[.int .i64 a0_0, .int .i64 a0_1]⟩] => (interval_Check.f k a0_0 a0_1).bind fun q => K (.int .i64 q) | _ => none)
  | 62 => (match args with | [.int .i64 a0] => (trig_Sin.f k a0).bind fun q => K (.tuple ⟨[.agg ⟨[.int .i64 q.1, .int .i64 q.2.1]⟩, .int .i64 q.2.2]⟩) | _ => none)
  | 63 => (match args with | [.int .i64 a0] => (trig_Cos.f k a0).bind fun q => K (.tuple ⟨[.agg ⟨[.int .i64 q.1, .int .i64 q.2.1]⟩, .int .i64 q.2.2]⟩) | _ => none)
  | 64 => (match args with | [.agg ⟨[.int .i64 a0_0, .int .i64 a0_1]⟩] => (trig_SinOver.f k a0_0 a0_1).bind fun q => K (.tuple ⟨[.agg ⟨[.int .i64 q.1, .int .i64 q.2.1]⟩, .int .i64 q.2.2]⟩) | _ => none)
  | 65 => (match args with | [.agg ⟨[.int .i64 a0_0, .int .i64 a0_1]⟩] => (trig_CosOver.f k a0_0 a0_1).bind fun q => K (.tuple ⟨[.agg ⟨[.int .i64 q.1, .int .i64 q.2.1]⟩, .int .i64 q.2.2]⟩) | _ => none)
  | 66 => (match args with | [.agg ⟨[.int .i64 a0_0, .int .i64 a0_1]⟩, .agg ⟨[.int .i64 a1_0, .int .i64 a1_1]⟩] => (sun_Unit.f k a0_0 a0_1 a1_0 a1_1).bind fun q => K (.agg ⟨[.int .i64 q.1, .int .i64 q.2]⟩) | _ => none)
  | 67 => (match args with | [.agg ⟨[.int .i64 a0_0, .int .i64 a0_1]⟩, .agg ⟨[.int .i64 a1_0, .int .i64 a1_1]⟩] => (sun_plus.f a0_0 a0_1 a1_0 a1_1).bind fun q => K (.agg ⟨[.int .i64 q.1, .int .i64 q.2]⟩) | _ => none)
  | 68 => (match args with | [.agg ⟨[.int .i64 a0_0, .int .i64 a0_1]⟩, .agg ⟨[.int .i64 a1_0, .int .i64 a1_1]⟩] => (trig_Arc.f k a0_0 a0_1 a1_0 a1_1).bind fun q => K (.tuple ⟨[.agg ⟨[.int .i64 q.1, .int .i64 q.2.1]⟩, .int .i64 q.2.2]⟩) | _ => none)
  | 69 => (match args with | [.agg ⟨[.int .i64 a0_0, .int .i64 a0_1]⟩, .agg ⟨[.int .i64 a1_0, .int .i64 a1_1]⟩] => (sun_less.f a0_0 a0_1 a1_0 a1_1).bind fun q => K (.agg ⟨[.int .i64 q.1, .int .i64 q.2]⟩) | _ => none)
  | 70 => (match args with | [.agg ⟨[.int .i64 a0_0, .int .i64 a0_1]⟩] => (trig_ArcSin.f k a0_0 a0_1).bind fun q => K (.tuple ⟨[.agg ⟨[.int .i64 q.1, .int .i64 q.2.1]⟩, .int .i64 q.2.2]⟩) | _ => none)
  | _ => none
theorem sun_Equator.OQ_ok (k : Nat) (Φ : World → Prop) (base : Nat) {R : Type} : OraQOk Try.prog (fun _ => undef) Φ base (sun_Equator.OQ (R := R) k) := by
  intro g args K r h
  unfold sun_Equator.OQ at h
  split at h
  · split at h
    · obtain ⟨q, hq, h⟩ := Option.bind_eq_some_iff.mp h
      exact ⟨_, h, callQ_of rfl rfl fun w => (interval_Check.calls k _ _ _ w hq).mono fun e w' he => ⟨he.1, he.2⟩⟩
    · cases h
  · split at h
    · obtain ⟨q, hq, h⟩ := Option.bind_eq_some_iff.mp h
      exact ⟨_, h, callQ_of rfl rfl fun w => (trig_Sin.calls k _ _ _ _ w hq).mono fun e w' he => ⟨he.1, he.2⟩⟩
    · cases h
  · split at h
    · obtain ⟨q, hq, h⟩ := Option.bind_eq_some_iff.mp h
      exact ⟨_, h, callQ_of rfl rfl fun w => (trig_Cos.calls k _ _ _ _ w hq).mono fun e w' he => ⟨he.1, he.2⟩⟩
    · cases h
  · split at h
    · obtain ⟨q, hq, h⟩ := Option.bind_eq_some_iff.mp h
      exact ⟨_, h, callQ_of rfl rfl fun w => (trig_SinOver.calls k _ _ _ _ _ w hq).mono fun e w' he => ⟨he.1, he.2⟩⟩
    · cases h
  · split at h
    · obtain ⟨q, hq, h⟩ := Option.bind_eq_some_iff.mp h
      exact ⟨_, h, callQ_of rfl rfl fun w => (trig_CosOver.calls k _ _ _ _ _ w hq).mono fun e w' he => ⟨he.1, he.2⟩⟩
    · cases h
  · split at h
    · obtain ⟨q, hq, h⟩ := Option.bind_eq_some_iff.mp h
      exact ⟨_, h, callQ_of rfl rfl fun w => (sun_Unit.calls k _ _ _ _ _ _ w hq).mono fun e w' he => ⟨he.1, he.2⟩⟩
    · cases h
  · split at h
    · obtain ⟨q, hq, h⟩ := Option.bind_eq_some_iff.mp h
      exact ⟨_, h, callQ_of rfl rfl fun w => (sun_plus.calls _ _ _ _ _ _ w hq).mono fun e w' he => ⟨he.1, he.2⟩⟩
    · cases h
  · split at h
    · obtain ⟨q, hq, h⟩ := Option.bind_eq_some_iff.mp h
      exact ⟨_, h, callQ_of rfl rfl fun w => (trig_Arc.calls k _ _ _ _ _ _ _ w hq).mono fun e w' he => ⟨he.1, he.2⟩⟩
    · cases h
  · split at h
    · obtain ⟨q, hq, h⟩ := Option.bind_eq_some_iff.mp h
      exact ⟨_, h, callQ_of rfl rfl fun w => (sun_less.calls _ _ _ _ _ _ w hq).mono fun e w' he => ⟨he.1, he.2⟩⟩
    · cases h
  · split at h
    · obtain ⟨q, hq, h⟩ := Option.bind_eq_some_iff.mp h
      exact ⟨_, h, callQ_of rfl rfl fun w => (trig_ArcSin.calls k _ _ _ _ _ w hq).mono fun e w' he => ⟨he.1, he.2⟩⟩
    · cases h
  · cases h
def sun_Equator.F (v : Value) (_ : Mem) : Option (Int × Int × Int × Int × Int) := match v with | .tuple ⟨[.agg ⟨[.int .i64 r1, .int .i64 r2]⟩, .agg ⟨[.int .i64 r3, .int .i64 r4]⟩, .int .i64 r5]⟩ => some (r1, r2, r3, r4, r5) | _ => none
theorem sun_Equator.run (k : Nat) (a0_0 : Int) (a0_1 : Int) (a1_0 : Int) (a1_1 : Int) : runM Try.prog (liftQ (sun_Equator.OQ k)) (drawQ Try.prog (sun_Equator.OQ k)) (fun _ => none) (atEnd Try.prog Try.f16 sun_Equator.F) 5000 [.code (Try.f16.body.getD .skip)] ([.agg ⟨[.int .i64 a0_0, .int .i64 a0_1]⟩, .agg ⟨[.int .i64 a1_0, .int .i64 a1_1]⟩] ++ List.replicate (Try.f16.ntmps - ([.agg ⟨[.int .i64 a0_0, .int .i64 a0_1]⟩, .agg ⟨[.int .i64 a1_0, .int .i64 a1_1]⟩] : List Value).length) undef) [] = sun_Equator.f k a0_0 a0_1 a1_0 a1_1 := by kernel_rfl
theorem sun_Equator.calls (k : Nat) (a0_0 : Int) (a0_1 : Int) (a1_0 : Int) (a1_1 : Int) (r1 : Int) (r2 : Int) (r3 : Int) (r4 : Int) (r5 : Int) (w : World) (h : sun_Equator.f k a0_0 a0_1 a1_0 a1_1 = some (r1, r2, r3, r4, r5)) :
    Calls Try.prog 16 #[.agg #[.int .i64 a0_0, .int .i64 a0_1], .agg #[.int .i64 a1_0, .int .i64 a1_1]] w fun e w' => e = .returned (.tuple #[.agg #[.int .i64 r1, .int .i64 r2], .agg #[.int .i64 r3, .int .i64 r4], .int .i64 r5]) ∧ Below w.heap.size w w' := by
  refine calls_closed (OQ := sun_Equator.OQ k) (LF := fun _ => none) (F := sun_Equator.F) (r := (r1, r2, r3, r4, r5)) (Checked.mixed Try.checked) (fun Φ base _ => sun_Equator.OQ_ok k Φ base) (LS := fun _ => True) (fun Φ base _ c _ live len f e => by cases e) Try.func16 rfl (fun _ _ => trivial) rfl (fun u m hu => ?_) rfl (((sun_Equator.run k a0_0 a0_1 a1_0 a1_1).trans h)) w
  unfold sun_Equator.F at hu
  split at hu
  · cases hu; rfl
  · cases hu
end Go.Proofs.Ytedakilpogagiaa.PAll
end
section
namespace Go.Proofs.Ytedakilpogagiaa.PAll
open Go Go.RowKit Go.Proofs.YtedakilpogagiaaW.PrintWords Go.Proofs.Ytedakilpogagiaa.Sx
set_option maxRecDepth 100000
def moon_At.f (k : Nat) (a0 : Int) : Option (Int × Int × Int × Int × Int) :=
  ob (moon_Longitude.f k a0) fun t1 =>
  oif ((t1.snd.snd != 0) = true) (
   some (0, 0, 0, 0, t1.snd.snd)) (
   ob (moon_Latitude.f k a0) fun t2 =>
   ob (sun_Equator.f k t1.fst t1.snd.fst t2.fst t2.snd.fst) fun t3 =>
   some (t3.fst, t3.snd.fst, t3.snd.snd.fst, t3.snd.snd.snd.fst, t3.snd.snd.snd.snd))
def moon_At.OQ {R : Type} (k : Nat) : OraQ R := fun g args K => match g with
  | 16 => (match args with | [.agg ⟨[.int .i64 a0_0, .int .i64 a0_1]⟩, .agg ⟨[.int .i64 a1_0, .int .i64 a1_1]⟩] => (sun_Equator.f k a0_0 a0_1 a1_0 a1_1).bind fun q => K (.tuple ⟨[.agg ⟨[.int .i64 q.1, .int .i64 q.2.1]⟩, .agg ⟨[.int .i64 q.2.2.1, .int .i64 q.2.2.2.1]⟩, .int .i64 q.2.2.2.2]⟩) | _ => none)
  | 74 => (match args with | [.int .i64 a0] => (moon_Longitude.f k a0).bind fun q => K (.tuple ⟨[.agg ⟨[.int .i64 q.1, .int .i64 q.2.1]⟩, .int .i64 q.2.2]⟩) | _ => none)
  | 75 => (match args with | [.int .i64 a0] => (moon_Latitude.f k a0).bind fun q => K (.tuple ⟨[.agg ⟨[.int .i64 q.1, .int .i64 q.2.1]⟩, .int .i64 q.2.2]⟩) | _ => none)
  | _ => none
theorem moon_At.OQ_ok (k : Nat) (Φ : World → Prop) (base : Nat) {R : Type} : OraQOk Try.prog (fun _ => undef) Φ base (moon_At.OQ (R := R) k) := by
  intro g args K r h
  unfold moon_At.OQ at h
  split at h
  · split at h
    · obtain ⟨q, hq, h⟩ := Option.bind_eq_some_iff.mp h
      exact ⟨_, h, callQ_of rfl rfl fun w => (sun_Equator.calls k _ _ _ _ _ _ _ _ _ w hq).mono fun e w' he => ⟨he.1, he.2⟩⟩
    · cases h
  · split at h
    · obtain ⟨q, hq, h⟩ := Option.bind_eq_some_iff.mp h
      exact ⟨_, h, callQ_of rfl rfl fun w => (moon_Longitude.calls k _ _ _ _ w hq).mono fun e w' he => ⟨he.1, he.2⟩⟩
    · cases h
  · split at h
    · obtain ⟨q, hq, h⟩ := Option.bind_eq_some_iff.mp h
      exact ⟨_, h, callQ_of rfl rfl fun w => (moon_Latitude.calls k _ _ _ _ w hq).mono fun e w' he => ⟨he.1, he.2⟩⟩
    · cases h
  · cases h
def moon_At.F (v : Value) (_ : Mem) : Option (Int × Int × Int × Int × Int) := match v with | .tuple ⟨[.agg ⟨[.int .i64 r1, .int .i64 r2]⟩, .agg ⟨[.int .i64 r3, .int .i64 r4]⟩, .int .i64 r5]⟩ => some (r1, r2, r3, r4, r5) | _ => none
theorem moon_At.run (k : Nat) (a0 : Int) : runM Try.prog (liftQ (moon_At.OQ k)) (drawQ Try.prog (moon_At.OQ k)) (fun _ => none) (atEnd Try.prog Try.f28 moon_At.F) 5000 [.code (Try.f28.body.getD .skip)] ([.int .i64 a0] ++ List.replicate (Try.f28.ntmps - ([.int .i64 a0] : List Value).length) undef) [] = moon_At.f k a0 := by kernel_rfl
theorem moon_At.calls (k : Nat) (a0 : Int) (r1 : Int) (r2 : Int) (r3 : Int) (r4 : Int) (r5 : Int) (w : World) (h : moon_At.f k a0 = some (r1, r2, r3, r4, r5)) :
    Calls Try.prog 28 #[.int .i64 a0] w fun e w' => e = .returned (.tuple #[.agg #[.int .i64 r1, .int .i64 r2], .agg #[.int .i64 r3, .int .i64 r4], .int .i64 r5]) ∧ Below w.heap.size w w' := by
  refine calls_closed (OQ := moon_At.OQ k) (LF := fun _ => none) (F := moon_At.F) (r := (r1, r2, r3, r4, r5)) (Checked.mixed Try.checked) (fun Φ base _ => moon_At.OQ_ok k Φ base) (LS := fun _ => True) (fun Φ base _ c _ live len f e => by cases e) Try.func28 rfl (fun _ _ => trivial) rfl (fun u m hu => ?_) rfl (((moon_At.run k a0).trans h)) w
  unfold moon_At.F at hu
  split at hu
  · cases hu; rfl
  · cases hu
end Go.Proofs.Ytedakilpogagiaa.PAll
end
section
namespace Go.Proofs.Ytedakilpogagiaa.PAll
open Go Go.RowKit Go.Proofs.YtedakilpogagiaaW.PrintWords Go.Proofs.Ytedakilpogagiaa.Sx
set_option maxRecDepth 100000
def ephemerislaw2_MoonAts.f (k : Nat) (a0 : Int) (a1 : Int) (a2 : Int) : Option (Bool) :=
  ob (ephemerislaw2_moonWorks.f k) fun t1 =>
  oif (t1 = true) (
   ob (moon_At.f k a0) fun t2 =>
   ob (ephemerisref2_InstantErr.f a0) fun t3 =>
   oif ((t3 != 0) = true) (
    ob (ephemerislaw2_none.f t2.fst t2.snd.fst t2.snd.snd.snd.snd t3) fun t4 =>
    oif (t4 = true) (
     some (t2.snd.snd.fst == 0 && (t2.snd.snd.snd.fst == 0 && true))) (
     some (false))) (
    ob (ephemerislaw2_at.f a1 17) fun t5 =>
    ob (ephemerislaw2_at.f a2 17) fun t6 =>
    ob (ephemerisref2_Body.f k 1 a0 (IntKind.i64.wrap (t5 - 8)) (IntKind.i64.wrap (t6 - 8))) fun t7 =>
    oif ((t2.snd.snd.snd.snd == 0) = true) (
     ob (ephemerisref2_InArc.f k t2.fst t2.snd.fst t7.snd.fst t7.fst) fun t8 =>
     oif (t8 = true) (
      ob (ephemerisref2_InArcSin.f k t2.snd.snd.fst t2.snd.snd.snd.fst t7.snd.snd) fun t9 =>
      oif (t9 = true) (
       oif (decide (IntKind.i64.wrap (t2.snd.fst - t2.fst) ≤ 200000) = true) (
        some (decide (IntKind.i64.wrap (t2.snd.snd.snd.fst - t2.snd.snd.fst) ≤ 200000))) (
        some (false))) (
       some (false))) (
      some (false))) (
     some (false)))) (
   none)
def ephemerislaw2_MoonAts.OQ {R : Type} (k : Nat) : OraQ R := fun g args K => match g with
  | 18 => (match args with | [.agg ⟨[.int .i64 a0_0, .int .i64 a0_1]⟩, .int .i64 a1, .int .i64 a2] => (ephemerislaw2_none.f a0_0 a0_1 a1 a2).bind fun q => K (.bool q) | _ => none)
  | 21 => (match args with | [.agg ⟨[.int .i64 a0_0, .int .i64 a0_1]⟩, .int .i64 a1, .int .i64 a2] => (ephemerisref2_InArc.f k a0_0 a0_1 a1 a2).bind fun q => K (.bool q) | _ => none)
  | 22 => (match args with | [.agg ⟨[.int .i64 a0_0, .int .i64 a0_1]⟩, .int .i64 a1] => (ephemerisref2_InArcSin.f k a0_0 a0_1 a1).bind fun q => K (.bool q) | _ => none)
  | 24 => (match args with | [.int .i64 a0] => (ephemerisref2_InstantErr.f a0).bind fun q => K (.int .i64 q) | _ => none)
  | 25 => (match args with | [.int .i64 a0, .int .i64 a1, .int .i64 a2, .int .i64 a3] => (ephemerisref2_Body.f k a0 a1 a2 a3).bind fun q => K (.agg ⟨[.int .i64 q.1, .int .i64 q.2.1, .int .i64 q.2.2]⟩) | _ => none)
  | 26 => (match args with | [.int .i64 a0, .int .i64 a1] => (ephemerislaw2_at.f a0 a1).bind fun q => K (.int .i64 q) | _ => none)
  | 27 => (match args with | [] => (ephemerislaw2_moonWorks.f k).bind fun q => (if q = true then K (.bool true) else none) | _ => none)
  | 28 => (match args with | [.int .i64 a0] => (moon_At.f k a0).bind fun q => K (.tuple ⟨[.agg ⟨[.int .i64 q.1, .int .i64 q.2.1]⟩, .agg ⟨[.int .i64 q.2.2.1, .int .i64 q.2.2.2.1]⟩, .int .i64 q.2.2.2.2]⟩) | _ => none)
  | _ => none
theorem ephemerislaw2_MoonAts.OQ_ok (k : Nat) (Φ : World → Prop) (base : Nat) {R : Type} : OraQOk Try.prog (fun _ => undef) Φ base (ephemerislaw2_MoonAts.OQ (R := R) k) := by
  intro g args K r h
  unfold ephemerislaw2_MoonAts.OQ at h
  split at h
  · split at h
    · obtain ⟨q, hq, h⟩ := Option.bind_eq_some_iff.mp h
      exact ⟨_, h, callQ_of rfl rfl fun w => (ephemerislaw2_none.calls _ _ _ _ _ w hq).mono fun e w' he => ⟨he.1, he.2⟩⟩
    · cases h
  · split at h
    · obtain ⟨q, hq, h⟩ := Option.bind_eq_some_iff.mp h
      exact ⟨_, h, callQ_of rfl rfl fun w => (ephemerisref2_InArc.calls k _ _ _ _ _ w hq).mono fun e w' he => ⟨he.1, he.2⟩⟩
    · cases h
  · split at h
    · obtain ⟨q, hq, h⟩ := Option.bind_eq_some_iff.mp h
      exact ⟨_, h, callQ_of rfl rfl fun w => (ephemerisref2_InArcSin.calls k _ _ _ _ w hq).mono fun e w' he => ⟨he.1, he.2⟩⟩
    · cases h
  · split at h
    · obtain ⟨q, hq, h⟩ := Option.bind_eq_some_iff.mp h
      exact ⟨_, h, callQ_of rfl rfl fun w => (ephemerisref2_InstantErr.calls _ _ w hq).mono fun e w' he => ⟨he.1, he.2.below⟩⟩
    · cases h
  · split at h
    · obtain ⟨q, hq, h⟩ := Option.bind_eq_some_iff.mp h
      exact ⟨_, h, callQ_of rfl rfl fun w => (ephemerisref2_Body.calls k _ _ _ _ _ _ _ w hq).mono fun e w' he => ⟨he.1, he.2⟩⟩
    · cases h
  · split at h
    · obtain ⟨q, hq, h⟩ := Option.bind_eq_some_iff.mp h
      exact ⟨_, h, callQ_of rfl rfl fun w => (ephemerislaw2_at.calls _ _ _ w hq).mono fun e w' he => ⟨he.1, he.2.below⟩⟩
    · cases h
  · split at h
    · obtain ⟨q, hq, h⟩ := Option.bind_eq_some_iff.mp h
      split at h
      · rename_i hT; subst hT
        exact ⟨_, h, callQ_of rfl rfl fun w => (ephemerislaw2_moonWorks.calls k _ w hq rfl).mono fun e w' he => ⟨he.1, he.2⟩⟩
      · cases h
    · cases h
  · split at h
    · obtain ⟨q, hq, h⟩ := Option.bind_eq_some_iff.mp h
      exact ⟨_, h, callQ_of rfl rfl fun w => (moon_At.calls k _ _ _ _ _ _ w hq).mono fun e w' he => ⟨he.1, he.2⟩⟩
    · cases h
  · cases h
def ephemerislaw2_MoonAts.F (v : Value) (_ : Mem) : Option (Bool) := match v with | .bool r => some (r) | _ => none
theorem ephemerislaw2_MoonAts.run (k : Nat) (a0 : Int) (a1 : Int) (a2 : Int) : runM Try.prog (liftQ (ephemerislaw2_MoonAts.OQ k)) (drawQ Try.prog (ephemerislaw2_MoonAts.OQ k)) (fun _ => none) (atEnd Try.prog Try.f5 ephemerislaw2_MoonAts.F) 5000 [.code (Try.f5.body.getD .skip)] ([.int .i64 a0, .int .i64 a1, .int .i64 a2] ++ List.replicate (Try.f5.ntmps - ([.int .i64 a0, .int .i64 a1, .int .i64 a2] : List Value).length) undef) [] = ephemerislaw2_MoonAts.f k a0 a1 a2 := by kernel_rfl
theorem ephemerislaw2_MoonAts.calls (k : Nat) (a0 : Int) (a1 : Int) (a2 : Int) (r : Bool) (w : World) (h : ephemerislaw2_MoonAts.f k a0 a1 a2 = some (r)) (hT : r = true) :
    Calls Try.prog 5 #[.int .i64 a0, .int .i64 a1, .int .i64 a2] w fun e w' => e = .returned (.bool r) ∧ Below w.heap.size w w' := by
  refine calls_closed (OQ := ephemerislaw2_MoonAts.OQ k) (LF := fun _ => none) (F := ephemerislaw2_MoonAts.F) (r := (r)) (Checked.mixed Try.checked) (fun Φ base _ => ephemerislaw2_MoonAts.OQ_ok k Φ base) (LS := fun _ => True) (fun Φ base _ c _ live len f e => by cases e) Try.func5 rfl (fun _ _ => trivial) rfl (fun u m hu => ?_) rfl (((ephemerislaw2_MoonAts.run k a0 a1 a2).trans h)) w
  unfold ephemerislaw2_MoonAts.F at hu
  split at hu
  · cases hu; rfl
  · cases hu
end Go.Proofs.Ytedakilpogagiaa.PAll
end
