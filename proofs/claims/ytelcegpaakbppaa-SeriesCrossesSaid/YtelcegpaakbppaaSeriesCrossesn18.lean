/- Written by a program of this session: what one law needs. -/
import Derived.Test.YtelcegpaakbppaaSeriesCrossesn2
import Derived.Test.YtelcegpaakbppaaSeriesCrossesn3
import Derived.Test.YtelcegpaakbppaaSeriesCrossesn8
import Derived.Test.YtelcegpaakbppaaSeriesCrossesn11
import Derived.Test.YtelcegpaakbppaaSeriesCrossesn17
import Derived.Test.YtelcegpaakbppaaSeriesCrossesn16
import Derived.Test.YtelcegpaakbppaaSeriesCrossesn15
import Derived.Test.YtelcegpaakbppaaChecked
import Derived.Test.YtelcegpaakbppaaSeriesCrossesn0
section
namespace Go.Proofs.Ytelcegpaakbppaa.PAll
open Go Go.RowKit Go.Proofs.YtelcegpaakbppaaW.PrintWords Go.Proofs.Ytelcegpaakbppaa.Sx Go.Proofs.Ytelcegpaakbppaa
set_option linter.unusedVariables false
set_option maxRecDepth 100000
def series_Cross.f (k : Nat) (a0_0 : Int) (a0_1 : Int) (l0_2 : List S53) (a0_3 : Int) (a1 : Int) (a2_0 : Int) (a2_1 : Int) (a3 : Int) : Option (Int × Int × Int) :=
  ob (series_Check.f k a0_0 a0_1 l0_2 a0_3) fun t1 =>
  oif ((t1 != 0) = true) (
   some (0, 0, t1)) (
   ob (series_Valid.f a2_0) fun t2 =>
   oif ((!t2) = true) (
    some (0, 0, 3)) (
    ob (series_Valid.f a2_1) fun t3 =>
    oif ((!t3) = true) (
     some (0, 0, 3)) (
     oif (decide (a1 < 0) = true) (
      some (0, 0, 1)) (
      oif (decide (a1 ≥ 1000000000) = true) (
       some (0, 0, 1)) (
       oif (decide (a3 < 1) = true) (
        some (0, 0, 1)) (
        oif (decide (a2_0 > a2_1) = true) (
         some (0, 0, 1)) (
         ob (series_Slope.f k a0_0 a0_1 l0_2 a0_3) fun t4 =>
         oif (decide (t4.fst ≤ 0) = true) (
          some (0, 0, 8)) (
          ob (series_Angle.f k a0_0 a0_1 l0_2 a0_3 a2_0) fun t5 =>
          ob (series_After.f k t5.fst t5.snd.fst a1) fun t6 =>
          oif (decide (t6 ≥ 0) = true) (
           some (0, 0, 6)) (
           ob (series_Angle.f k a0_0 a0_1 l0_2 a0_3 a2_1) fun t7 =>
           ob (series_After.f k t7.fst t7.snd.fst a1) fun t8 =>
           oif (decide (t8 ≤ 0) = true) (
            some (0, 0, 6)) (
            ob (Nar83.f (fun p9 =>
               ob (series_Angle.f k a0_0 a0_1 l0_2 a0_3 p9) fun t10 =>
               ob (series_After.f k t10.fst t10.snd.fst a1) fun t11 =>
               some (t11)) k a2_0 a2_1 a3) fun t10 =>
            some (t10.fst, t10.snd.fst, t10.snd.snd)))))))))))
def series_Cross.OQ {R : Type} (k : Nat) (L0 : List S53) : OraQ R := fun g args K => match g with
  | 44 => (match args with | [.agg ⟨[.int .i64 a0_0, .int .i64 a0_1, .chan (some 1), .int .i64 a0_3]⟩] => (series_Check.f k a0_0 a0_1 L0 a0_3).bind fun q => K (.int .i64 q) | _ => none)
  | 49 => (match args with | [.agg ⟨[.int .i64 a0_0, .int .i64 a0_1, .chan (some 1), .int .i64 a0_3]⟩, .int .i64 a1] => (series_Angle.f k a0_0 a0_1 L0 a0_3 a1).bind fun q => K (.tuple ⟨[.agg ⟨[.int .i64 q.1, .int .i64 q.2.1]⟩, .int .i64 q.2.2]⟩) | _ => none)
  | 52 => (match args with | [.agg ⟨[.int .i64 a0_0, .int .i64 a0_1, .chan (some 1), .int .i64 a0_3]⟩] => (series_Slope.f k a0_0 a0_1 L0 a0_3).bind fun q => K (.tuple ⟨[.agg ⟨[.int .i64 q.1, .int .i64 q.2.1]⟩, .int .i64 q.2.2]⟩) | _ => none)
  | 82 => (match args with | [.int .i64 a0] => (series_Valid.f a0).bind fun q => K (.bool q) | _ => none)
  | 84 => (match args with | [.agg ⟨[.int .i64 a0_0, .int .i64 a0_1]⟩, .int .i64 a1] => (series_After.f k a0_0 a0_1 a1).bind fun q => K (.int .i64 q) | _ => none)
  | _ => none
theorem series_Cross.OQ_ok (k : Nat) (A0 : Option Addr) (c0 : Nat) (L0 : List S53) (hc0 : L0.length ≤ c0) (Φ : World → Prop) (base : Nat) (hΦ : ∀ w, Φ w → Kd.C k53 w A0 L0.length L0) {R : Type} : OraQOk Try.prog (fun _ => .slice A0 L0.length c0) Φ base (series_Cross.OQ (R := R) k L0) := by
  intro g args K r h
  unfold series_Cross.OQ at h
  split at h
  · split at h
    · obtain ⟨q, hq, h⟩ := Option.bind_eq_some_iff.mp h
      exact ⟨_, h, callQ_ofS rfl rfl fun w hw => (series_Check.calls k _ _ _ _ _ _ _ w (hΦ w hw) hc0 hq).mono fun e w' he => ⟨he.1, he.2⟩⟩
    · cases h
  · split at h
    · obtain ⟨q, hq, h⟩ := Option.bind_eq_some_iff.mp h
      exact ⟨_, h, callQ_ofS rfl rfl fun w hw => (series_Angle.calls k _ _ _ _ _ _ _ _ _ _ w (hΦ w hw) hc0 hq).mono fun e w' he => ⟨he.1, he.2⟩⟩
    · cases h
  · split at h
    · obtain ⟨q, hq, h⟩ := Option.bind_eq_some_iff.mp h
      exact ⟨_, h, callQ_ofS rfl rfl fun w hw => (series_Slope.calls k _ _ _ _ _ _ _ _ _ w (hΦ w hw) hc0 hq).mono fun e w' he => ⟨he.1, he.2⟩⟩
    · cases h
  · split at h
    · obtain ⟨q, hq, h⟩ := Option.bind_eq_some_iff.mp h
      exact ⟨_, h, callQ_of rfl rfl fun w => (series_Valid.calls _ _ w hq).mono fun e w' he => ⟨he.1, he.2.below⟩⟩
    · cases h
  · split at h
    · obtain ⟨q, hq, h⟩ := Option.bind_eq_some_iff.mp h
      exact ⟨_, h, callQ_of rfl rfl fun w => (series_After.calls k _ _ _ _ w hq).mono fun e w' he => ⟨he.1, he.2⟩⟩
    · cases h
  · cases h
def series_Cross.F (v : Value) (_ : Mem) : Option (Int × Int × Int) := match v with | .tuple ⟨[.agg ⟨[.int .i64 r1, .int .i64 r2]⟩, .int .i64 r3]⟩ => some (r1, r2, r3) | _ => none
theorem series_Cross.run (k : Nat) (a0_0 : Int) (a0_1 : Int) (l0_2 : List S53) (a0_3 : Int) (a1 : Int) (a2_0 : Int) (a2_1 : Int) (a3 : Int) : runM Try.prog (inl Try.prog 83 Try.f83 (Try.f83.body.getD .skip) 5000 (liftQ (series_Cross.OQ k l0_2)) (drawQ Try.prog (series_Cross.OQ k l0_2)) (narO Try.prog 85 83 2 Try.f83 (Try.f83.body.getD .skip) 3000 (series_Cross.OQ k l0_2) (fun s a b wd => Nar83.f s k a b wd) (liftQ (series_Cross.OQ k l0_2)))) (drawO Try.prog (series_Cross.OQ k l0_2) (inl Try.prog 83 Try.f83 (Try.f83.body.getD .skip) 5000 (liftQ (series_Cross.OQ k l0_2)) (drawQ Try.prog (series_Cross.OQ k l0_2)) (narO Try.prog 85 83 2 Try.f83 (Try.f83.body.getD .skip) 3000 (series_Cross.OQ k l0_2) (fun s a b wd => Nar83.f s k a b wd) (liftQ (series_Cross.OQ k l0_2))))) (fun _ => none) (atEnd Try.prog Try.f54 series_Cross.F) 5000 [.code (Try.f54.body.getD .skip)] ([.agg ⟨[.int .i64 a0_0, .int .i64 a0_1, .chan (some 1), .int .i64 a0_3]⟩, .int .i64 a1, .agg ⟨[.int .i64 a2_0, .int .i64 a2_1]⟩, .int .i64 a3] ++ List.replicate (Try.f54.ntmps - ([.agg ⟨[.int .i64 a0_0, .int .i64 a0_1, .chan (some 1), .int .i64 a0_3]⟩, .int .i64 a1, .agg ⟨[.int .i64 a2_0, .int .i64 a2_1]⟩, .int .i64 a3] : List Value).length) undef) [] = series_Cross.f k a0_0 a0_1 l0_2 a0_3 a1 a2_0 a2_1 a3 := by kernel_rfl
theorem series_Cross.calls (k : Nat) (a0_0 : Int) (a0_1 : Int) (A0_2 : Option Addr) (c0_2 : Nat) (l0_2 : List S53) (a0_3 : Int) (a1 : Int) (a2_0 : Int) (a2_1 : Int) (a3 : Int) (r1 : Int) (r2 : Int) (r3 : Int) (w : World) (hr : Kd.C k53 w A0_2 l0_2.length l0_2) (hc : l0_2.length ≤ c0_2) (h : series_Cross.f k a0_0 a0_1 l0_2 a0_3 a1 a2_0 a2_1 a3 = some (r1, r2, r3)) :
    Calls Try.prog 54 #[.agg #[.int .i64 a0_0, .int .i64 a0_1, .slice A0_2 l0_2.length c0_2, .int .i64 a0_3], .int .i64 a1, .agg #[.int .i64 a2_0, .int .i64 a2_1], .int .i64 a3] w fun e w' => e = .returned (.tuple #[.agg #[.int .i64 r1, .int .i64 r2], .int .i64 r3]) ∧ Below w.heap.size w w' := by
  have hs : Stable (fun w' => Below w.heap.size w w') w.heap.size := fun w1 w2 h1 h2 => h1.trans h2
  have hq : ∀ {R : Type}, OraQOk Try.prog (fun _ => .slice A0_2 l0_2.length c0_2) (fun w' => Below w.heap.size w w') w.heap.size (series_Cross.OQ (R := R) k l0_2) := fun {R} => series_Cross.OQ_ok k A0_2 c0_2 l0_2 hc (fun w' => Below w.heap.size w w') w.heap.size (fun w' hb => Kd.C_below hr hb)
  have ho : OraOk Try.prog (fun _ => .slice A0_2 l0_2.length c0_2) (fun w' => Below w.heap.size w w') w.heap.size (inl Try.prog 83 Try.f83 (Try.f83.body.getD .skip) 5000 (liftQ (series_Cross.OQ (R := Int × Int × Int) k l0_2)) (drawQ Try.prog (series_Cross.OQ (R := Int × Int × Int) k l0_2)) (narO Try.prog 85 83 2 Try.f83 (Try.f83.body.getD .skip) 3000 (series_Cross.OQ k l0_2) (fun s a b wd => Nar83.f s k a b wd) (liftQ (series_Cross.OQ (R := Int × Int × Int) k l0_2)))) := (inl_ok hs (hq.lift hs) (drawQ_ok (Checked.mixed Try.checked) hs hq) (narO_ok (Ψ := fun w => Kd.C k53 w A0_2 l0_2.length l0_2) (fun w w' h hb => Kd.C_below h hb) (fun w' hb => Kd.C_below hr hb) (Checked.mixed Try.checked) hs (fun Φ base _ hΦ => series_Cross.OQ_ok k A0_2 c0_2 l0_2 hc Φ base hΦ) (hq.lift hs) Try.func83 rfl (fun {s a b wd x y z caps w} hl hc hf => by
      obtain ⟨c0, c1, rfl⟩ := len_two hl
      exact Nar83.calls hc hf)) Try.func83 rfl)
  refine calls_openO ho (drawO_ok (Checked.mixed Try.checked) hs hq ho) Try.func54 rfl (F := series_Cross.F) (r := (r1, r2, r3)) (args := [.agg ⟨[.int .i64 a0_0, .int .i64 a0_1, .chan (some 1), .int .i64 a0_3]⟩, .int .i64 a1, .agg ⟨[.int .i64 a2_0, .int .i64 a2_1]⟩, .int .i64 a3]) rfl (fun u m hu => ?_) rfl ((series_Cross.run k a0_0 a0_1 l0_2 a0_3 a1 a2_0 a2_1 a3).trans h)
  unfold series_Cross.F at hu
  split at hu
  · cases hu; rfl
  · cases hu
end Go.Proofs.Ytelcegpaakbppaa.PAll
end
section
namespace Go.Proofs.Ytelcegpaakbppaa.PAll
open Go.RowKit Go.Proofs.YtelcegpaakbppaaW.PrintWords Go.Proofs.YtelcegpaakbppaaW.PrintLast Go.Proofs.YtelcegpaakbppaaW.PrintMore Go.Proofs.Ytelcegpaakbppaa.More2
attribute [local go_sem] max2_int min2_int max_two min_two max_three min_three max_four min_four tdiv2e18_ tdiv1e18_ cellSS_  -- for this text's walks alone
set_option linter.unusedVariables false
set_option linter.unusedSimpArgs false
def ephemerisref2_Mod.f (a0 : Int) (a1 : Int) : Option (Int) := if a1 = 0 then (none) else (if (Int.tmod a0 a1) < 0 then (some (wrap64 ((Int.tmod a0 a1) + a1))) else (some (Int.tmod a0 a1)))
set_option maxHeartbeats 8000000 in
set_option maxRecDepth 100000 in
theorem ephemerisref2_Mod.calls (a0 : Int) (a1 : Int) (r : Int) (w : World) (h : ephemerisref2_Mod.f a0 a1 = some r) :
    Calls Try.prog 22 #[.int .i64 a0, .int .i64 a1] w fun e w' => e = .returned (.int .i64 r) ∧ Drawn0 w w' := by
  have H : (if a1 = 0 then (none) else (if (Int.tmod a0 a1) < 0 then (some (wrap64 ((Int.tmod a0 a1) + a1))) else (some (Int.tmod a0 a1)))) = some r := h
  clear h
  by_cases c3 : a1 = 0
  · rw [if_pos c3] at H
    exact absurd H (by simp)
  · rw [if_neg c3] at H
    have c3b0 : (a1 == 0) = false := beq_eq_false_iff_ne.mpr c3
    have c3b1 : (a1 != 0) = true := bne_iff_ne.mpr c3
    by_cases c4 : (Int.tmod a0 a1) < 0
    · rw [if_pos c4] at H
      have c4b0 : decide ((Int.tmod a0 a1) < 0) = true := decide_eq_true c4
      clear c4
      obtain rfl := Option.some.inj H
      simp only [Option.some.injEq, Prod.mk.injEq] at H
      obtain ⟨rfl⟩ := H
      go_enter Try.func22, Try.ntmps22
      go_wp2
      go_ret
      exact ⟨by first | rfl | (simp; done) | (simp [*]; done), by repeat (first | exact Drawn0.refl _ | apply Drawn0.step)⟩
    · rw [if_neg c4] at H
      have c4b0 : decide ((Int.tmod a0 a1) < 0) = false := decide_eq_false c4
      clear c4
      obtain rfl := Option.some.inj H
      simp only [Option.some.injEq, Prod.mk.injEq] at H
      obtain ⟨rfl⟩ := H
      go_enter Try.func22, Try.ntmps22
      go_wp2
      go_ret
      exact ⟨by first | rfl | (simp; done) | (simp [*]; done), by repeat (first | exact Drawn0.refl _ | apply Drawn0.step)⟩
end Go.Proofs.Ytelcegpaakbppaa.PAll
end
section
namespace Go.Proofs.Ytelcegpaakbppaa.PAll
open Go.RowKit Go.Proofs.YtelcegpaakbppaaW.PrintWords Go.Proofs.YtelcegpaakbppaaW.PrintLast Go.Proofs.YtelcegpaakbppaaW.PrintMore Go.Proofs.Ytelcegpaakbppaa.More2
attribute [local go_sem] max2_int min2_int max_two min_two max_three min_three max_four min_four tdiv2e18_ tdiv1e18_ cellSS_  -- for this text's walks alone
set_option linter.unusedVariables false
set_option linter.unusedSimpArgs false
def ephemerislaw2_side.j0 : Nat → Int → Int → Bool → Option (Int)
  | 0, _, _, _ => none
  | k + 1, x9, x10, x31 => if x31 = true then (some 1) else (if x10 < 0 then (if x9 > (-500000000) then (some (-1)) else (some 0)) else (some 0))
def ephemerislaw2_side.f (k : Nat) (a0_0 : Int) (a0_1 : Int) (l0_2 : List (S53)) (a0_3 : Int) (a1 : Int) (a2 : Int) : Option (Int) := (series_Angle.f k a0_0 a0_1 l0_2 a0_3 a1).bind fun bt247 => ((ephemerisref2_Mod.f (wrap64 ((wrap64 (bt247.1 - a2)) + 500000000)) 1000000000).bind fun t251 => (if (wrap64 (t251 - 500000000)) > 0 then (ephemerislaw2_side.j0 k (wrap64 (t251 - 500000000)) (wrap64 ((wrap64 ((wrap64 (t251 - 500000000)) + bt247.2.1)) - bt247.1)) (decide ((wrap64 ((wrap64 ((wrap64 (t251 - 500000000)) + bt247.2.1)) - bt247.1)) < 500000000))) else (ephemerislaw2_side.j0 k (wrap64 (t251 - 500000000)) (wrap64 ((wrap64 ((wrap64 (t251 - 500000000)) + bt247.2.1)) - bt247.1)) false)))
set_option maxHeartbeats 8000000 in
set_option maxRecDepth 100000 in
theorem ephemerislaw2_side.calls (k : Nat) (a0_0 : Int) (a0_1 : Int) (A0_2 : Option Addr) (c0_2 : Nat) (l0_2 : List (S53)) (a0_3 : Int) (a1 : Int) (a2 : Int) (r : Int) (w : World) (hr0_2 : Kd.C k53 w A0_2 l0_2.length l0_2) (hc0_2 : l0_2.length ≤ c0_2) (h : ephemerislaw2_side.f k a0_0 a0_1 l0_2 a0_3 a1 a2 = some r) :
    Calls Try.prog 55 #[.agg #[.int .i64 a0_0, .int .i64 a0_1, .slice A0_2 l0_2.length c0_2, .int .i64 a0_3], .int .i64 a1, .int .i64 a2] w fun e w' => e = .returned (.int .i64 r) ∧ Below w.heap.size w w' := by
  have hu48 := Try.underlying48
  have hu24 := Try.underlying24
  have HR0_2 := Aside0.mk hr0_2
  have HC0_2 := Aside0.mk hc0_2
  clear hr0_2 hc0_2
  have HB := Aside0.mk (Below.refl w.heap.size w)
  have H : ((series_Angle.f k a0_0 a0_1 l0_2 a0_3 a1).bind fun bt247 => ((ephemerisref2_Mod.f (wrap64 ((wrap64 (bt247.1 - a2)) + 500000000)) 1000000000).bind fun t251 => (if (wrap64 (t251 - 500000000)) > 0 then (ephemerislaw2_side.j0 k (wrap64 (t251 - 500000000)) (wrap64 ((wrap64 ((wrap64 (t251 - 500000000)) + bt247.2.1)) - bt247.1)) (decide ((wrap64 ((wrap64 ((wrap64 (t251 - 500000000)) + bt247.2.1)) - bt247.1)) < 500000000))) else (ephemerislaw2_side.j0 k (wrap64 (t251 - 500000000)) (wrap64 ((wrap64 ((wrap64 (t251 - 500000000)) + bt247.2.1)) - bt247.1)) false)))) = some r := h
  clear h
  replace H := Option.bind_eq_some_iff.mp H
  obtain ⟨⟨t247, t248, t249⟩, A40, H⟩ := H
  replace H : ((ephemerisref2_Mod.f (wrap64 ((wrap64 (t247 - a2)) + 500000000)) 1000000000).bind fun t251 => (if (wrap64 (t251 - 500000000)) > 0 then (ephemerislaw2_side.j0 k (wrap64 (t251 - 500000000)) (wrap64 ((wrap64 ((wrap64 (t251 - 500000000)) + t248)) - t247)) (decide ((wrap64 ((wrap64 ((wrap64 (t251 - 500000000)) + t248)) - t247)) < 500000000))) else (ephemerislaw2_side.j0 k (wrap64 (t251 - 500000000)) (wrap64 ((wrap64 ((wrap64 (t251 - 500000000)) + t248)) - t247)) false))) = some r := H
  have A4 := Aside0.mk A40
  clear A40
  replace H := Option.bind_eq_some_iff.mp H
  obtain ⟨t251, A50, H⟩ := H
  replace H : (if (wrap64 (t251 - 500000000)) > 0 then (ephemerislaw2_side.j0 k (wrap64 (t251 - 500000000)) (wrap64 ((wrap64 ((wrap64 (t251 - 500000000)) + t248)) - t247)) (decide ((wrap64 ((wrap64 ((wrap64 (t251 - 500000000)) + t248)) - t247)) < 500000000))) else (ephemerislaw2_side.j0 k (wrap64 (t251 - 500000000)) (wrap64 ((wrap64 ((wrap64 (t251 - 500000000)) + t248)) - t247)) false)) = some r := H
  have A5 := Aside0.mk A50
  clear A50
  have HC6 := Aside0.mk H
  clear H
  go_enter Try.func55, Try.ntmps55
  go_upto_region 4 with (first | ((with_reducible refine gate_dst (N := 3) rfl ?_); refine box_event ?hg (N := 3) ?hd (cs := #[.int .i64 a0_0, .int .i64 a0_1, .slice A0_2 l0_2.length c0_2, .int .i64 a0_3]) (t := 48) ?hr ?_; (case hd => rfl); (case hg => rfl); (case hr => first | (go_simp; done) | (go_simp; rfl)); intro gb246 hg w7 hbox hb; have n0_ := Aside0.mk (below_step (by repeat (first | (with_reducible first | exact HB.out | apply below_alloc | apply pw_below_drewN | apply below_drew1) | exact HB.out)) hb); have n1_ := Aside0.mk (hbox); have n2_ := Aside0.mk ((by rw [hg]; exact (below_size (by repeat (first | (with_reducible first | exact HB.out | apply below_alloc | apply pw_below_drewN | apply below_drew1) | exact HB.out))) : w.heap.size ≤ gb246)); have n3_ := Aside0.mk ((by rw [hg]; exact (below_size (by repeat (first | (with_reducible first | exact HB.out | apply below_alloc | apply pw_below_drewN | apply below_drew1) | exact HB.out))) : w.heap.size ≤ gb246)); clear HB; have HB := n0_; have BK246 := n1_; have GW246 := n2_; have GE246 := n3_; clear n0_ n1_ n2_ n3_; clear hb hbox hg; have hcz8_0 : w7.cell? ⟨gb246, 0, none⟩ = some (.int .i64 a0_0) := (blk_cell BK246.out 0).trans rfl; have hcz8_1 : w7.cell? ⟨gb246, 1, none⟩ = some (.int .i64 a0_1) := (blk_cell BK246.out 1).trans rfl; have hcz8_2 : w7.cell? ⟨gb246, 2, none⟩ = some (.slice A0_2 l0_2.length c0_2) := (blk_cell BK246.out 2).trans rfl; have hcz8_3 : w7.cell? ⟨gb246, 3, none⟩ = some (.int .i64 a0_3) := (blk_cell BK246.out 3).trans rfl; have hfz8_0 := blk_frozen BK246.out 0; have hfz8_1 := blk_frozen BK246.out 1; have hfz8_2 := blk_frozen BK246.out 2; have hfz8_3 := blk_frozen BK246.out 3) | ((with_reducible refine gate_callee (f := 49) rfl ?_); refine goesL_ (some 14) rfl rfl Try.func49 (by kernel_rfl) rfl #[.agg #[.int .i64 a0_0, .int .i64 a0_1, .slice A0_2 l0_2.length c0_2, .int .i64 a0_3], .int .i64 a1] rfl (by (try simp only [List.map_toArray, List.map_cons, List.map_nil]); first | done | rfl | (simp only [List.length_drop, List.length_take]; rfl)) ?_; (with_reducible refine (series_Angle.calls k a0_0 a0_1 _ _ l0_2 a0_3 a1 t247 t248 t249 _ ?side1 ?side2 A4.out).mono ?_); (case side1 => repeat (first | exact (Kd.C_below HR0_2.out HB.out) | (with_reducible refine Kd.C_alloc ?_ _) | (with_reducible refine Kd.C_drewN ?_ _) | (with_reducible refine Kd.C_drew ?_))); (case side2 => exact HC0_2.out); rintro e w9 ⟨rfl, hb⟩; refine ⟨_, rfl, ?_⟩; have n0_ := Aside0.mk (blk_below (g := gb246) (o := .cells #[.int .i64 a0_0, .int .i64 a0_1, .slice A0_2 l0_2.length c0_2, .int .i64 a0_3] 48 (0, 0)) (by (with_reducible repeat (first | refine blk_drewN ?_ _ | refine blk_drew ?_ | refine blk_alloc ?_ _)); exact BK246.out) hb); have n1_ := Aside0.mk (below_step (by repeat (first | (with_reducible first | exact HB.out | apply below_alloc | apply pw_below_drewN | apply below_drew1 | refine below_set ?_ GE246.out) | exact HB.out)) hb); clear BK246; clear HB; have BK246 := n0_; have HB := n1_; clear n0_ n1_; (try clear hb); (try clear hb2); (try clear hk); (try clear hi)) | ((with_reducible refine gate_dst (N := 7) rfl ?_); refine box_event ?hg (N := 7) ?hd (cs := #[.int .i64 0, .int .i64 0]) (t := 24) ?hr ?_; (case hd => rfl); (case hg => rfl); (case hr => first | (go_simp; done) | (go_simp; rfl)); intro gb250 hg w10 hbox hb; have n0_ := Aside0.mk (blk_below (g := gb246) (o := .cells #[.int .i64 a0_0, .int .i64 a0_1, .slice A0_2 l0_2.length c0_2, .int .i64 a0_3] 48 (0, 0)) (by (with_reducible repeat (first | refine blk_drewN ?_ _ | refine blk_drew ?_ | refine blk_alloc ?_ _)); exact BK246.out) hb); have n1_ := Aside0.mk (below_step (by repeat (first | (with_reducible first | exact HB.out | apply below_alloc | apply pw_below_drewN | apply below_drew1 | refine below_set ?_ GE246.out) | exact HB.out)) hb); have n2_ := Aside0.mk (hbox); have n3_ := Aside0.mk ((by rw [hg]; exact (below_size (by repeat (first | (with_reducible first | exact HB.out | apply below_alloc | apply pw_below_drewN | apply below_drew1 | refine below_set ?_ GE246.out) | exact HB.out))) : w.heap.size ≤ gb250)); have n4_ := Aside0.mk ((by rw [hg]; exact (below_size (by repeat (first | (with_reducible first | exact HB.out | apply below_alloc | apply pw_below_drewN | apply below_drew1 | refine below_set ?_ GE246.out) | exact HB.out))) : w.heap.size ≤ gb250)); have n5_ := Aside0.mk ((by rw [hg]; exact Nat.ne_of_lt (blk_lt (g := gb246) (o := .cells #[.int .i64 a0_0, .int .i64 a0_1, .slice A0_2 l0_2.length c0_2, .int .i64 a0_3] 48 (0, 0)) (by (with_reducible repeat (first | refine blk_drewN ?_ _ | refine blk_drew ?_ | refine blk_alloc ?_ _)); exact BK246.out)) : gb246 ≠ gb250)); have n6_ := Aside0.mk ((by rw [hg]; exact Nat.ne_of_gt (blk_lt (g := gb246) (o := .cells #[.int .i64 a0_0, .int .i64 a0_1, .slice A0_2 l0_2.length c0_2, .int .i64 a0_3] 48 (0, 0)) (by (with_reducible repeat (first | refine blk_drewN ?_ _ | refine blk_drew ?_ | refine blk_alloc ?_ _)); exact BK246.out)) : gb250 ≠ gb246)); clear BK246; clear HB; have BK246 := n0_; have HB := n1_; have BK250 := n2_; have GW250 := n3_; have GE250 := n4_; have NB246_250 := n5_; have NB250_246 := n6_; clear n0_ n1_ n2_ n3_ n4_ n5_ n6_; clear hb hbox hg; have hnb11 := NB250_246.out; have hnc11 := NB246_250.out; have hcz12_0 : w10.cell? ⟨gb250, 0, none⟩ = some (.int .i64 0) := (blk_cell BK250.out 0).trans rfl; have hcz12_1 : w10.cell? ⟨gb250, 1, none⟩ = some (.int .i64 0) := (blk_cell BK250.out 1).trans rfl; have hfz12_0 := blk_frozen BK250.out 0; have hfz12_1 := blk_frozen BK250.out 1) | ((with_reducible refine gate_callee (f := 22) rfl ?_); refine goesL_ (some 22) rfl rfl Try.func22 (by kernel_rfl) rfl #[.int .i64 (wrap64 ((wrap64 (t247 - a2)) + 500000000)), .int .i64 1000000000] rfl (by (try simp only [List.map_toArray, List.map_cons, List.map_nil]); first | done | rfl | (simp only [List.length_drop, List.length_take]; rfl)) ?_; (with_reducible refine (ephemerisref2_Mod.calls (wrap64 ((wrap64 (t247 - a2)) + 500000000)) 1000000000 t251 _ A5.out).mono ?_); rintro e w' ⟨rfl, ⟨nd, rfl⟩⟩; refine ⟨_, rfl, ?_⟩))
  (try simp only [Act.put, List.setIfInBounds_toArray, List.set_cons_zero, List.set_cons_succ])
  go_cut [31] (fun v31 wc => ∃ (kq : Nat) (x31_5 : Bool), v31 = .bool x31_5 ∧ Aside0 (ephemerislaw2_side.j0 kq (wrap64 (t251 - 500000000)) (wrap64 ((wrap64 ((wrap64 (t251 - 500000000)) + t248)) - t247)) x31_5 = some r) ∧ Aside0 (kq ≤ k) ∧ Aside0 (wc.heap[gb246]? = some (.cells #[.int .i64 a0_0, .int .i64 a0_1, (.slice A0_2 l0_2.length c0_2), .int .i64 a0_3] 48 (0, 0))) ∧ Aside0 (wc.heap[gb250]? = some (.cells #[.int .i64 t247, .int .i64 t248] 24 (0, 0))) ∧ Aside0 (Below w.heap.size w wc))
  case first =>
    have H := HC6.out
    clear HC6
    by_cases c13 : (wrap64 (t251 - 500000000)) > 0
    · rw [if_pos c13] at H
      have c13b0 : decide (0 < (wrap64 (t251 - 500000000))) = true := decide_eq_true c13
      clear c13
      (first | rw [c13b0] | (simp only [i64_w, i32_w]; rw [c13b0]) | skip)
      have H' := Aside0.mk H
      clear H
      go_wp2
      go_meet
      case rel => exact ⟨_, (decide ((wrap64 ((wrap64 ((wrap64 (t251 - 500000000)) + t248)) - t247)) < 500000000)), (by first | rfl | (simp; done) | (simp [*]; done)), H', ⟨by first | omega | exact Nat.le_refl _⟩, ⟨by (with_reducible repeat (first | refine blk_drewN ?_ _ | refine blk_drew ?_ | refine blk_alloc ?_ _)); refine blk_far ?_ NB246_250.out _; (with_reducible repeat (first | refine blk_drewN ?_ _ | refine blk_drew ?_ | refine blk_alloc ?_ _)); refine blk_far ?_ NB246_250.out _; (with_reducible repeat (first | refine blk_drewN ?_ _ | refine blk_drew ?_ | refine blk_alloc ?_ _)); exact BK246.out⟩, ⟨by (with_reducible repeat (first | refine blk_drewN ?_ _ | refine blk_drew ?_ | refine blk_alloc ?_ _)); refine blk_put (cs := #[.int .i64 t247, .int .i64 0]) ?_ 1 _ rfl; (with_reducible repeat (first | refine blk_drewN ?_ _ | refine blk_drew ?_ | refine blk_alloc ?_ _)); refine blk_put (cs := #[.int .i64 0, .int .i64 0]) ?_ 0 _ rfl; (with_reducible repeat (first | refine blk_drewN ?_ _ | refine blk_drew ?_ | refine blk_alloc ?_ _)); exact BK250.out⟩, ⟨by repeat (first | (with_reducible first | exact HB.out | apply below_alloc | apply pw_below_drewN | apply below_drew1 | refine below_set ?_ GE246.out | refine below_set ?_ GE250.out) | exact HB.out)⟩⟩
    · rw [if_neg c13] at H
      have c13b0 : decide (0 < (wrap64 (t251 - 500000000))) = false := decide_eq_false c13
      clear c13
      (first | rw [c13b0] | (simp only [i64_w, i32_w]; rw [c13b0]) | skip)
      have H' := Aside0.mk H
      clear H
      go_wp2
      go_meet
      case rel => exact ⟨_, (false), (by first | rfl | (simp; done) | (simp [*]; done)), H', ⟨by first | omega | exact Nat.le_refl _⟩, ⟨by (with_reducible repeat (first | refine blk_drewN ?_ _ | refine blk_drew ?_ | refine blk_alloc ?_ _)); refine blk_far ?_ NB246_250.out _; (with_reducible repeat (first | refine blk_drewN ?_ _ | refine blk_drew ?_ | refine blk_alloc ?_ _)); refine blk_far ?_ NB246_250.out _; (with_reducible repeat (first | refine blk_drewN ?_ _ | refine blk_drew ?_ | refine blk_alloc ?_ _)); exact BK246.out⟩, ⟨by (with_reducible repeat (first | refine blk_drewN ?_ _ | refine blk_drew ?_ | refine blk_alloc ?_ _)); refine blk_put (cs := #[.int .i64 t247, .int .i64 0]) ?_ 1 _ rfl; (with_reducible repeat (first | refine blk_drewN ?_ _ | refine blk_drew ?_ | refine blk_alloc ?_ _)); refine blk_put (cs := #[.int .i64 0, .int .i64 0]) ?_ 0 _ rfl; (with_reducible repeat (first | refine blk_drewN ?_ _ | refine blk_drew ?_ | refine blk_alloc ?_ _)); exact BK250.out⟩, ⟨by repeat (first | (with_reducible first | exact HB.out | apply below_alloc | apply pw_below_drewN | apply below_drew1 | refine below_set ?_ GE246.out | refine below_set ?_ GE250.out) | exact HB.out)⟩⟩
  case rest =>
    clear HC6
    try clear c1
    try clear c2
    try clear p2
    try clear c4
    try clear c5
    try clear p6
    try clear c11
    try clear c13
    try clear c13b0
    try clear hcz12_0
    try clear hcz12_1
    try clear hcz8_0
    try clear hcz8_1
    try clear hcz8_2
    try clear hcz8_3
    try clear hfz12_0
    try clear hfz12_1
    try clear hfz8_0
    try clear hfz8_1
    try clear hfz8_2
    try clear hfz8_3
    obtain ⟨kq, x31_5, rfl, HA, HJ5, BK246, BK250, HB⟩ := hcut
    cases kq with
    | zero => exact absurd HA.out (by simp [ephemerislaw2_side.j0])
    | succ kj5 =>
      have H := HA.out
      clear HA
      simp only [ephemerislaw2_side.j0] at H
      by_cases c14 : x31_5 = true
      · subst c14
        have H1 : (some 1) = some r := by rw [if_pos rfl] at H; exact H
        clear H
        have H := H1
        clear H1
        obtain rfl := Option.some.inj H
        simp only [Option.some.injEq, Prod.mk.injEq] at H
        obtain ⟨rfl⟩ := H
        go_wp2
        go_ret
        exact ⟨by first | rfl | (simp [errW_none, errW_some] <;> rfl) | (simp [*, errW_none, errW_some] <;> rfl), by repeat (first | (with_reducible first | exact HB.out | apply below_alloc | apply pw_below_drewN | apply below_drew1 | refine below_set ?_ GE246.out | refine below_set ?_ GE250.out) | exact HB.out)⟩
      · replace c14 := Bool.eq_false_iff.mpr c14
        subst c14
        have H1 : (if (wrap64 ((wrap64 ((wrap64 (t251 - 500000000)) + t248)) - t247)) < 0 then (if (wrap64 (t251 - 500000000)) > (-500000000) then (some (-1)) else (some 0)) else (some 0)) = some r := by rw [if_neg (show ¬ (false = true) by decide)] at H; exact H
        clear H
        have H := H1
        clear H1
        by_cases c15 : (wrap64 ((wrap64 ((wrap64 (t251 - 500000000)) + t248)) - t247)) < 0
        · rw [if_pos c15] at H
          have c15b0 : decide ((wrap64 ((wrap64 ((wrap64 (t251 - 500000000)) + t248)) - t247)) < 0) = true := decide_eq_true c15
          clear c15
          by_cases c16 : (wrap64 (t251 - 500000000)) > (-500000000)
          · rw [if_pos c16] at H
            have c16b0 : decide ((-500000000) < (wrap64 (t251 - 500000000))) = true := decide_eq_true c16
            clear c16
            obtain rfl := Option.some.inj H
            simp only [Option.some.injEq, Prod.mk.injEq] at H
            obtain ⟨rfl⟩ := H
            go_wp2
            go_ret
            exact ⟨by first | rfl | (simp [errW_none, errW_some] <;> rfl) | (simp [*, errW_none, errW_some] <;> rfl), by repeat (first | (with_reducible first | exact HB.out | apply below_alloc | apply pw_below_drewN | apply below_drew1 | refine below_set ?_ GE246.out | refine below_set ?_ GE250.out) | exact HB.out)⟩
          · rw [if_neg c16] at H
            have c16b0 : decide ((-500000000) < (wrap64 (t251 - 500000000))) = false := decide_eq_false c16
            clear c16
            obtain rfl := Option.some.inj H
            simp only [Option.some.injEq, Prod.mk.injEq] at H
            obtain ⟨rfl⟩ := H
            go_wp2
            go_ret
            exact ⟨by first | rfl | (simp [errW_none, errW_some] <;> rfl) | (simp [*, errW_none, errW_some] <;> rfl), by repeat (first | (with_reducible first | exact HB.out | apply below_alloc | apply pw_below_drewN | apply below_drew1 | refine below_set ?_ GE246.out | refine below_set ?_ GE250.out) | exact HB.out)⟩
        · rw [if_neg c15] at H
          have c15b0 : decide ((wrap64 ((wrap64 ((wrap64 (t251 - 500000000)) + t248)) - t247)) < 0) = false := decide_eq_false c15
          clear c15
          obtain rfl := Option.some.inj H
          simp only [Option.some.injEq, Prod.mk.injEq] at H
          obtain ⟨rfl⟩ := H
          go_wp2
          go_ret
          exact ⟨by first | rfl | (simp [errW_none, errW_some] <;> rfl) | (simp [*, errW_none, errW_some] <;> rfl), by repeat (first | (with_reducible first | exact HB.out | apply below_alloc | apply pw_below_drewN | apply below_drew1 | refine below_set ?_ GE246.out | refine below_set ?_ GE250.out) | exact HB.out)⟩
end Go.Proofs.Ytelcegpaakbppaa.PAll
end
