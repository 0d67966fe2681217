/- Written by a program of this session: what one law needs. -/
import Derived.Test.YtedakilpogagiaaDialShadowsn10
set_option maxHeartbeats 8000000
set_option maxRecDepth 100000
set_option linter.unusedSimpArgs false
set_option linter.unusedVariables false
section
namespace Go.Proofs.Ytedakilpogagiaa.PAll
open Go.RowKit YtedakilpogagiaaW.PrintWords YtedakilpogagiaaW.PrintLast YtedakilpogagiaaW.PrintMore More2 Sq
attribute [local go_sem] max2_int min2_int max_two min_two max_three min_three max_four min_four tdiv2e18_ tdiv1e18_ cellSS_  -- for this text's walks alone
def sun_less.f (a0_0 : Int) (a0_1 : Int) (a1_0 : Int) (a1_1 : Int) : Option (Int × Int) := some (wrap64 (a0_0 - a1_1), wrap64 (a0_1 - a1_0))
theorem sun_less.calls (a0_0 : Int) (a0_1 : Int) (a1_0 : Int) (a1_1 : Int) (r1 : Int) (r2 : Int) (w : World) (h : sun_less.f a0_0 a0_1 a1_0 a1_1 = some (r1, r2)) :
  Calls Try.prog 69 #[.agg #[.int .i64 a0_0, .int .i64 a0_1], .agg #[.int .i64 a1_0, .int .i64 a1_1]] w fun e w' => e = .returned (.agg #[.int .i64 r1, .int .i64 r2]) ∧ Below w.heap.size w w' := by
 have hu23 := Try.underlying23
 have HB := Aside0.mk (Below.refl w.heap.size w)
 have H : (some (wrap64 (a0_0 - a1_1), wrap64 (a0_1 - a1_0))) = some (r1, r2) := h
 clear h
 simp only [Option.some.injEq, Prod.mk.injEq] at H
 obtain ⟨rfl, rfl⟩ := H
 go_enter Try.func69, Try.ntmps69
 go_wp2_with (first | ((with_reducible refine gate_dst (N := 2) rfl ?_); refine box_event ?hg (N := 2) ?hd (cs := #[.int .i64 a0_0, .int .i64 a0_1]) (t := 23) ?hr ?_; (case hd => rfl); (case hg => rfl); (case hr => first | (go_simp; done) | (go_simp; rfl)); intro gb234 hg w3 hbox hb; have BK234 := Aside0.mk (hbox); have GW234 := ge_ hg HB; have GE234 := ge_ hg HB; replace HB := bs_ HB hb; clear hb hbox hg) | ((with_reducible refine gate_dst (N := 3) rfl ?_); refine box_event ?hg (N := 3) ?hd (cs := #[.int .i64 a1_0, .int .i64 a1_1]) (t := 23) ?hr ?_; (case hd => rfl); (case hg => rfl); (case hr => first | (go_simp; done) | (go_simp; rfl)); intro gb235 hg w4 hbox hb; have BK235 := Aside0.mk (hbox); have GW235 := ge_ hg HB; have GE235 := ge_ hg HB; have NB234_235 := nl_ hg BK234; have NB235_234 := ng_ hg BK234; replace BK234 := kb_ BK234 hb; replace HB := bs_ HB hb; clear hb hbox hg) | ((with_reducible refine gate_dst (N := 4) rfl ?_); refine box_event ?hg (N := 4) ?hd (cs := #[.int .i64 0, .int .i64 0]) (t := 23) ?hr ?_; (case hd => rfl); (case hg => rfl); (case hr => first | (go_simp; done) | (go_simp; rfl)); intro gb236 hg w5 hbox hb; have BK236 := Aside0.mk (hbox); have GW236 := ge_ hg HB; have GE236 := ge_ hg HB; have NB234_236 := nl_ hg BK234; have NB236_234 := ng_ hg BK234; have NB235_236 := nl_ hg BK235; have NB236_235 := ng_ hg BK235; replace BK234 := kb_ BK234 hb; replace BK235 := kb_ BK235 hb; replace HB := bs_ HB hb; clear hb hbox hg; have hnb6 := NB234_235.out; have hnc6 := NB235_234.out; have hnb7 := NB234_236.out; have hnc7 := NB236_234.out; have hcz8_0 : w5.cell? ⟨gb234, 0, none⟩ = some (.int .i64 a0_0) := (blk_cell BK234.out 0).trans rfl; have hcz8_1 : w5.cell? ⟨gb234, 1, none⟩ = some (.int .i64 a0_1) := (blk_cell BK234.out 1).trans rfl; have hfz8_0 := blk_frozen BK234.out 0; have hfz8_1 := blk_frozen BK234.out 1; have hnb9 := NB235_236.out; have hnc9 := NB236_235.out; have hcz10_0 : w5.cell? ⟨gb235, 0, none⟩ = some (.int .i64 a1_0) := (blk_cell BK235.out 0).trans rfl; have hcz10_1 : w5.cell? ⟨gb235, 1, none⟩ = some (.int .i64 a1_1) := (blk_cell BK235.out 1).trans rfl; have hfz10_0 := blk_frozen BK235.out 0; have hfz10_1 := blk_frozen BK235.out 1; have hcz11_0 : w5.cell? ⟨gb236, 0, none⟩ = some (.int .i64 0) := (blk_cell BK236.out 0).trans rfl; have hcz11_1 : w5.cell? ⟨gb236, 1, none⟩ = some (.int .i64 0) := (blk_cell BK236.out 1).trans rfl; have hfz11_0 := blk_frozen BK236.out 0; have hfz11_1 := blk_frozen BK236.out 1))
 refine bodyPost_ret (results_cell_row rfl _ _ gb236 23 #[.int .i64 (wrap64 (a0_0 - a1_1)), .int .i64 (wrap64 (a0_1 - a1_0))] (0, 0) _ rfl (by (with_reducible repeat (first | refine blk_drewN ?_ _ | refine blk_drew ?_ | refine blk_alloc ?_ _)); refine blk_put (cs := #[.int .i64 (wrap64 (a0_0 - a1_1)), .int .i64 0]) ?_ 1 _ rfl; (with_reducible repeat (first | refine blk_drewN ?_ _ | refine blk_drew ?_ | refine blk_alloc ?_ _)); refine blk_put (cs := #[.int .i64 0, .int .i64 0]) ?_ 0 _ rfl; (with_reducible repeat (first | refine blk_drewN ?_ _ | refine blk_drew ?_ | refine blk_alloc ?_ _)); exact BK236.out) Try.underlying23 rfl (by kernel_rfl)) rfl ?_
 exact ⟨by first | rfl | (simp [errW_none, errW_some] <;> rfl) | (simp [*, errW_none, errW_some] <;> rfl), (be_ HB).out⟩
end Go.Proofs.Ytedakilpogagiaa.PAll
end
section
namespace Go.Proofs.Ytedakilpogagiaa.PAll
open Go.RowKit YtedakilpogagiaaW.PrintWords YtedakilpogagiaaW.PrintLast YtedakilpogagiaaW.PrintMore More2 Sq
attribute [local go_sem] max2_int min2_int max_two min_two max_three min_three max_four min_four tdiv2e18_ tdiv1e18_ cellSS_  -- for this text's walks alone
def trig_root.l0 : Nat → Int → Int → Int → Option (Int)
 | 0, _, _, _ => none
 | k + 1, x0, x3, x4 => if x3 < x4 then (if (wrap64 (Int.tdiv (wrap64 ((wrap64 (x3 + x4)) + 1)) 2)) = 0 then (none) else (if (wrap64 (Int.tdiv (wrap64 ((wrap64 (x3 + x4)) + 1)) 2)) ≤ (wrap64 (Int.tdiv x0 (wrap64 (Int.tdiv (wrap64 ((wrap64 (x3 + x4)) + 1)) 2)))) then (trig_root.l0 k x0 (wrap64 (Int.tdiv (wrap64 ((wrap64 (x3 + x4)) + 1)) 2)) x4) else (trig_root.l0 k x0 x3 (wrap64 ((wrap64 (Int.tdiv (wrap64 ((wrap64 (x3 + x4)) + 1)) 2)) - 1))))) else (some x3)
def trig_root.f (k : Nat) (a0 : Int) : Option (Int) := trig_root.l0 k a0 0 2147483648
theorem trig_root.calls (k : Nat) (a0 : Int) (r : Int) (w : World) (h : trig_root.f k a0 = some r) :
  Calls Try.prog 109 #[.int .i64 a0] w fun e w' => e = .returned (.int .i64 r) ∧ Drawn0 w w' := by
 have H : (trig_root.l0 k a0 0 2147483648) = some r := h
 clear h
 have H' := Aside0.mk H
 clear H
 go_enter Try.func109, Try.ntmps109
 go_wp2
 go_loopg [3, 4] k (fun kq v3 v4 w' => ∃ (x3_1 : Int) (x4_1 : Int), v3 = .int .i64 x3_1 ∧ v4 = .int .i64 x4_1 ∧ Aside0 (trig_root.l0 kq a0 x3_1 x4_1 = some r) ∧ Aside0 (kq ≤ k) ∧ Drawn0 w w')
 case atStart => exact ⟨(0), (2147483648), (by first | rfl | (simp; done) | (simp [*]; done)), (by first | rfl | (simp; done) | (simp [*]; done)), H', ⟨Nat.le_refl _⟩, by repeat (first | exact Drawn0.refl _ | apply Drawn0.step)⟩
 case round =>
  clear H'
  try clear c1
  obtain ⟨x3_1, x4_1, rfl, rfl, HA, HK1, ⟨m1, rfl⟩⟩ := hrel
  cases gk with
  | zero => exact absurd HA.out (by simp [trig_root.l0])
  | succ k1 =>
   have H := HA.out
   clear HA
   simp only [trig_root.l0] at H
   by_cases c2 : x3_1 < x4_1
   ·rw [if_pos c2] at H
    have c2b0 : decide (x3_1 < x4_1) = true := decide_eq_true c2
    clear c2
    by_cases c3 : (wrap64 (Int.tdiv (wrap64 ((wrap64 (x3_1 + x4_1)) + 1)) 2)) = 0
    ·rw [if_pos c3] at H
     exact absurd H (by simp)
    ·rw [if_neg c3] at H
     have c3b0 : ((wrap64 (Int.tdiv (wrap64 ((wrap64 (x3_1 + x4_1)) + 1)) 2)) == 0) = false := beq_eq_false_iff_ne.mpr c3
     have c3b1 : ((wrap64 (Int.tdiv (wrap64 ((wrap64 (x3_1 + x4_1)) + 1)) 2)) != 0) = true := bne_iff_ne.mpr c3
     by_cases c4 : (wrap64 (Int.tdiv (wrap64 ((wrap64 (x3_1 + x4_1)) + 1)) 2)) ≤ (wrap64 (Int.tdiv a0 (wrap64 (Int.tdiv (wrap64 ((wrap64 (x3_1 + x4_1)) + 1)) 2))))
     ·rw [if_pos c4] at H
      have c4b0 : decide ((wrap64 (Int.tdiv (wrap64 ((wrap64 (x3_1 + x4_1)) + 1)) 2)) ≤ (wrap64 (Int.tdiv a0 (wrap64 (Int.tdiv (wrap64 ((wrap64 (x3_1 + x4_1)) + 1)) 2))))) = true := decide_eq_true c4
      clear c4
      have H' := Aside0.mk H
      clear H
      go_wp2
      go_roundg k1
      case measure => have := HK1.out; omega
      case rel => exact ⟨(wrap64 (Int.tdiv (wrap64 ((wrap64 (x3_1 + x4_1)) + 1)) 2)), (x4_1), (by first | rfl | (simp; done) | (simp [*]; done)), (by first | rfl | (simp; done) | (simp [*]; done)), H', ⟨by have := HK1.out; omega⟩, by repeat (first | exact Drawn0.refl _ | apply Drawn0.step)⟩
     ·rw [if_neg c4] at H
      have c4b0 : decide ((wrap64 (Int.tdiv (wrap64 ((wrap64 (x3_1 + x4_1)) + 1)) 2)) ≤ (wrap64 (Int.tdiv a0 (wrap64 (Int.tdiv (wrap64 ((wrap64 (x3_1 + x4_1)) + 1)) 2))))) = false := decide_eq_false c4
      clear c4
      have H' := Aside0.mk H
      clear H
      go_wp2
      go_roundg k1
      case measure => have := HK1.out; omega
      case rel => exact ⟨(x3_1), (wrap64 ((wrap64 (Int.tdiv (wrap64 ((wrap64 (x3_1 + x4_1)) + 1)) 2)) - 1)), (by first | rfl | (simp; done) | (simp [*]; done)), (by first | rfl | (simp; done) | (simp [*]; done)), H', ⟨by have := HK1.out; omega⟩, by repeat (first | exact Drawn0.refl _ | apply Drawn0.step)⟩
   ·rw [if_neg c2] at H
    have c2b0 : decide (x3_1 < x4_1) = false := decide_eq_false c2
    clear c2
    obtain rfl := Option.some.inj H
    simp only [Option.some.injEq, Prod.mk.injEq] at H
    obtain ⟨rfl⟩ := H
    go_wp2
    go_ret
    exact ⟨by first | rfl | (simp; done) | (simp [*]; done), by repeat (first | exact Drawn0.refl _ | apply Drawn0.step)⟩
end Go.Proofs.Ytedakilpogagiaa.PAll
end
section
namespace Go.Proofs.Ytedakilpogagiaa.PAll
open Go Go.RowKit YtedakilpogagiaaW.PrintWords Sx
def trig_ArcSin.f (k : Nat) (a0_0 : Int) (a0_1 : Int) : Option (Int × Int × Int) :=
  ob (interval_Check.f k a0_0 a0_1) fun t1 =>
  oif ((t1 != 0) = true) (
   some (0, 0, t1)) (
   ob (trig_root.f k (IntKind.i64.wrap (1000000000000000000 - IntKind.i64.wrap ((if (if a0_0 < 1000000000 then a0_0 else 1000000000) > -1000000000 then if a0_0 < 1000000000 then a0_0 else 1000000000 else -1000000000) * if (if a0_0 < 1000000000 then a0_0 else 1000000000) > -1000000000 then if a0_0 < 1000000000 then a0_0 else 1000000000 else -1000000000)))) fun t2 =>
   ob (trig_direction.f k (if (if a0_0 < 1000000000 then a0_0 else 1000000000) > -1000000000 then if a0_0 < 1000000000 then a0_0 else 1000000000 else -1000000000) t2) fun t3 =>
   ob (trig_root.f k (IntKind.i64.wrap (1000000000000000000 - IntKind.i64.wrap ((if (if a0_1 < 1000000000 then a0_1 else 1000000000) > -1000000000 then if a0_1 < 1000000000 then a0_1 else 1000000000 else -1000000000) * if (if a0_1 < 1000000000 then a0_1 else 1000000000) > -1000000000 then if a0_1 < 1000000000 then a0_1 else 1000000000 else -1000000000)))) fun t4 =>
   ob (trig_direction.f k (if (if a0_1 < 1000000000 then a0_1 else 1000000000) > -1000000000 then if a0_1 < 1000000000 then a0_1 else 1000000000 else -1000000000) t4) fun t5 =>
   some (if IntKind.i64.wrap (t3.fst - 1) > -250000000 then IntKind.i64.wrap (t3.fst - 1) else -250000000, if IntKind.i64.wrap (t5.snd + 1) < 250000000 then IntKind.i64.wrap (t5.snd + 1) else 250000000, 0))
def trig_ArcSin.OQ {R : Type} (k : Nat) : OraQ R := fun g args K => match g with
  | 61 => (match args with | [.agg ⟨[.int .i64 a0_0, .int .i64 a0_1]⟩] => (interval_Check.f k a0_0 a0_1).bind fun q => K (.int .i64 q) | _ => none)
  | 108 => (match args with | [.int .i64 a0, .int .i64 a1] => (trig_direction.f k a0 a1).bind fun q => K (.agg ⟨[.int .i64 q.1, .int .i64 q.2]⟩) | _ => none)
  | 109 => (match args with | [.int .i64 a0] => (trig_root.f k a0).bind fun q => K (.int .i64 q) | _ => none)
  | _ => none
theorem trig_ArcSin.OQ_ok (k : Nat) (Φ : World → Prop) (base : Nat) {R : Type} : OraQOk Try.prog (fun _ => undef) Φ base (trig_ArcSin.OQ (R := R) k) := by
  intro g args K r h
  unfold trig_ArcSin.OQ at h
  split at h
  · split at h
    · obtain ⟨q, hq, h⟩ := Option.bind_eq_some_iff.mp h
      exact ⟨_, h, callQ_of rfl rfl fun w => (interval_Check.calls k _ _ _ w hq).mono fun e w' he => ⟨he.1, he.2⟩⟩
    · cases h
  · split at h
    · obtain ⟨q, hq, h⟩ := Option.bind_eq_some_iff.mp h
      exact ⟨_, h, callQ_of rfl rfl fun w => (trig_direction.calls k _ _ _ _ w hq).mono fun e w' he => ⟨he.1, he.2⟩⟩
    · cases h
  · split at h
    · obtain ⟨q, hq, h⟩ := Option.bind_eq_some_iff.mp h
      exact ⟨_, h, callQ_of rfl rfl fun w => (trig_root.calls k _ _ w hq).mono fun e w' he => ⟨he.1, he.2.below⟩⟩
    · cases h
  · cases h
def trig_ArcSin.F (v : Value) (_ : Mem) : Option (Int × Int × Int) := match v with | .tuple ⟨[.agg ⟨[.int .i64 r1, .int .i64 r2]⟩, .int .i64 r3]⟩ => some (r1, r2, r3) | _ => none
theorem trig_ArcSin.run (k : Nat) (a0_0 : Int) (a0_1 : Int) : runM Try.prog (liftQ (trig_ArcSin.OQ k)) (drawQ Try.prog (trig_ArcSin.OQ k)) (fun _ => none) (atEnd Try.prog Try.f70 trig_ArcSin.F) 5000 [.code (Try.f70.body.getD .skip)] ([.agg ⟨[.int .i64 a0_0, .int .i64 a0_1]⟩] ++ List.replicate (Try.f70.ntmps - ([.agg ⟨[.int .i64 a0_0, .int .i64 a0_1]⟩] : List Value).length) undef) [] = trig_ArcSin.f k a0_0 a0_1 := by kernel_rfl
theorem trig_ArcSin.calls (k : Nat) (a0_0 : Int) (a0_1 : Int) (r1 : Int) (r2 : Int) (r3 : Int) (w : World) (h : trig_ArcSin.f k a0_0 a0_1 = some (r1, r2, r3)) :
    Calls Try.prog 70 #[.agg #[.int .i64 a0_0, .int .i64 a0_1]] w fun e w' => e = .returned (.tuple #[.agg #[.int .i64 r1, .int .i64 r2], .int .i64 r3]) ∧ Below w.heap.size w w' := by
  refine calls_closed (OQ := trig_ArcSin.OQ k) (LF := fun _ => none) (F := trig_ArcSin.F) (r := (r1, r2, r3)) (Checked.mixed Try.checked) (fun Φ base _ => trig_ArcSin.OQ_ok k Φ base) (LS := fun _ => True) (fun Φ base _ c _ live len f e => by cases e) Try.func70 rfl (fun _ _ => trivial) rfl (fun u m hu => ?_) rfl (((trig_ArcSin.run k a0_0 a0_1).trans h)) w
  unfold trig_ArcSin.F at hu
  split at hu
  · cases hu; rfl
  · cases hu
end Go.Proofs.Ytedakilpogagiaa.PAll
end
section
namespace Go.Proofs.Ytedakilpogagiaa.PAll
open Go Go.RowKit YtedakilpogagiaaW.PrintWords Sx
def sun_Equator.f (k : Nat) (a0_0 : Int) (a0_1 : Int) (a1_0 : Int) (a1_1 : Int) : Option (Int × Int × Int × Int × Int) :=
  ob (interval_Check.f k a0_0 a0_1) fun t1 =>
  oif ((t1 != 0) = true) (
   some (0, 0, 0, 0, t1)) (
   ob (interval_Check.f k a1_0 a1_1) fun t2 =>
   oif ((t2 != 0) = true) (
    some (0, 0, 0, 0, t2)) (
    oif (decide (a1_0 < -125000000) = true) (
     some (0, 0, 0, 0, 3)) (
     oif (decide (a1_1 > 125000000) = true) (
      some (0, 0, 0, 0, 3)) (
      ob (trig_Sin.f k 65109000) fun t3 =>
      ob (trig_Cos.f k 65109000) fun t4 =>
      ob (trig_SinOver.f k a0_0 a0_1) fun t5 =>
      ob (trig_CosOver.f k a0_0 a0_1) fun t6 =>
      ob (trig_SinOver.f k a1_0 a1_1) fun t7 =>
      ob (trig_CosOver.f k a1_0 a1_1) fun t8 =>
      ob (sun_Unit.f k t8.fst t8.snd.fst t5.fst t5.snd.fst) fun t9 =>
      ob (sun_Unit.f k t9.fst t9.snd t3.fst t3.snd.fst) fun t10 =>
      ob (sun_Unit.f k t7.fst t7.snd.fst t4.fst t4.snd.fst) fun t11 =>
      ob (sun_plus.f t10.fst t10.snd t11.fst t11.snd) fun t12 =>
      ob (sun_Unit.f k t9.fst t9.snd t4.fst t4.snd.fst) fun t13 =>
      ob (sun_Unit.f k t7.fst t7.snd.fst t3.fst t3.snd.fst) fun t14 =>
      ob (sun_less.f t13.fst t13.snd t14.fst t14.snd) fun t15 =>
      ob (sun_Unit.f k t8.fst t8.snd.fst t6.fst t6.snd.fst) fun t16 =>
      ob (trig_Arc.f k t15.fst t15.snd t16.fst t16.snd) fun t17 =>
      oif ((t17.snd.snd != 0) = true) (
       some (0, 0, 0, 0, t17.snd.snd)) (
       ob (trig_ArcSin.f k t12.fst t12.snd) fun t18 =>
       some (t17.fst, t17.snd.fst, t18.fst, t18.snd.fst, 0))))))
def sun_Equator.OQ {R : Type} (k : Nat) : OraQ R := fun g args K => match g with
  | 61 => (match args with | [.agg ⟨[.int .i64 a0_0, .int .i64 a0_1]⟩] => (interval_Check.f k a0_0 a0_1).bind fun q => K (.int .i64 q) | _ => none)
  | 62 => (match args with | [.int .i64 a0] => (trig_Sin.f k a0).bind fun q => K (.tuple ⟨[.agg ⟨[.int .i64 q.1, .int .i64 q.2.1]⟩, .int .i64 q.2.2]⟩) | _ => none)
  | 63 => (match args with | [.int .i64 a0] => (trig_Cos.f k a0).bind fun q => K (.tuple ⟨[.agg ⟨[.int .i64 q.1, .int .i64 q.2.1]⟩, .int .i64 q.2.2]⟩) | _ => none)
  | 64 => (match args with | [.agg ⟨[.int .i64 a0_0, .int .i64 a0_1]⟩] => (trig_SinOver.f k a0_0 a0_1).bind fun q => K (.tuple ⟨[.agg ⟨[.int .i64 q.1, .int .i64 q.2.1]⟩, .int .i64 q.2.2]⟩) | _ => none)
  | 65 => (match args with | [.agg ⟨[.int .i64 a0_0, .int .i64 a0_1]⟩] => (trig_CosOver.f k a0_0 a0_1).bind fun q => K (.tuple ⟨[.agg ⟨[.int .i64 q.1, .int .i64 q.2.1]⟩, .int .i64 q.2.2]⟩) | _ => none)
  | 66 => (match args with | [.agg ⟨[.int .i64 a0_0, .int .i64 a0_1]⟩, .agg ⟨[.int .i64 a1_0, .int .i64 a1_1]⟩] => (sun_Unit.f k a0_0 a0_1 a1_0 a1_1).bind fun q => K (.agg ⟨[.int .i64 q.1, .int .i64 q.2]⟩) | _ => none)
  | 67 => (match args with | [.agg ⟨[.int .i64 a0_0, .int .i64 a0_1]⟩, .agg ⟨[.int .i64 a1_0, .int .i64 a1_1]⟩] => (sun_plus.f a0_0 a0_1 a1_0 a1_1).bind fun q => K (.agg ⟨[.int .i64 q.1, .int .i64 q.2]⟩) | _ => none)
  | 68 => (match args with | [.agg ⟨[.int .i64 a0_0, .int .i64 a0_1]⟩, .agg ⟨[.int .i64 a1_0, .int .i64 a1_1]⟩] => (trig_Arc.f k a0_0 a0_1 a1_0 a1_1).bind fun q => K (.tuple ⟨[.agg ⟨[.int .i64 q.1, .int .i64 q.2.1]⟩, .int .i64 q.2.2]⟩) | _ => none)
  | 69 => (match args with | [.agg ⟨[.int .i64 a0_0, .int .i64 a0_1]⟩, .agg ⟨[.int .i64 a1_0, .int .i64 a1_1]⟩] => (sun_less.f a0_0 a0_1 a1_0 a1_1).bind fun q => K (.agg ⟨[.int .i64 q.1, .int .i64 q.2]⟩) | _ => none)
  | 70 => (match args with | [.agg ⟨[.int .i64 a0_0, .int .i64 a0_1]⟩] => (trig_ArcSin.f k a0_0 a0_1).bind fun q => K (.tuple ⟨[.agg ⟨[.int .i64 q.1, .int .i64 q.2.1]⟩, .int .i64 q.2.2]⟩) | _ => none)
  | _ => none
theorem sun_Equator.OQ_ok (k : Nat) (Φ : World → Prop) (base : Nat) {R : Type} : OraQOk Try.prog (fun _ => undef) Φ base (sun_Equator.OQ (R := R) k) := by
  intro g args K r h
  unfold sun_Equator.OQ at h
  split at h
  · split at h
    · obtain ⟨q, hq, h⟩ := Option.bind_eq_some_iff.mp h
      exact ⟨_, h, callQ_of rfl rfl fun w => (interval_Check.calls k _ _ _ w hq).mono fun e w' he => ⟨he.1, he.2⟩⟩
    · cases h
  · split at h
    · obtain ⟨q, hq, h⟩ := Option.bind_eq_some_iff.mp h
      exact ⟨_, h, callQ_of rfl rfl fun w => (trig_Sin.calls k _ _ _ _ w hq).mono fun e w' he => ⟨he.1, he.2⟩⟩
    · cases h
  · split at h
    · obtain ⟨q, hq, h⟩ := Option.bind_eq_some_iff.mp h
      exact ⟨_, h, callQ_of rfl rfl fun w => (trig_Cos.calls k _ _ _ _ w hq).mono fun e w' he => ⟨he.1, he.2⟩⟩
    · cases h
  · split at h
    · obtain ⟨q, hq, h⟩ := Option.bind_eq_some_iff.mp h
      exact ⟨_, h, callQ_of rfl rfl fun w => (trig_SinOver.calls k _ _ _ _ _ w hq).mono fun e w' he => ⟨he.1, he.2⟩⟩
    · cases h
  · split at h
    · obtain ⟨q, hq, h⟩ := Option.bind_eq_some_iff.mp h
      exact ⟨_, h, callQ_of rfl rfl fun w => (trig_CosOver.calls k _ _ _ _ _ w hq).mono fun e w' he => ⟨he.1, he.2⟩⟩
    · cases h
  · split at h
    · obtain ⟨q, hq, h⟩ := Option.bind_eq_some_iff.mp h
      exact ⟨_, h, callQ_of rfl rfl fun w => (sun_Unit.calls k _ _ _ _ _ _ w hq).mono fun e w' he => ⟨he.1, he.2⟩⟩
    · cases h
  · split at h
    · obtain ⟨q, hq, h⟩ := Option.bind_eq_some_iff.mp h
      exact ⟨_, h, callQ_of rfl rfl fun w => (sun_plus.calls _ _ _ _ _ _ w hq).mono fun e w' he => ⟨he.1, he.2⟩⟩
    · cases h
  · split at h
    · obtain ⟨q, hq, h⟩ := Option.bind_eq_some_iff.mp h
      exact ⟨_, h, callQ_of rfl rfl fun w => (trig_Arc.calls k _ _ _ _ _ _ _ w hq).mono fun e w' he => ⟨he.1, he.2⟩⟩
    · cases h
  · split at h
    · obtain ⟨q, hq, h⟩ := Option.bind_eq_some_iff.mp h
      exact ⟨_, h, callQ_of rfl rfl fun w => (sun_less.calls _ _ _ _ _ _ w hq).mono fun e w' he => ⟨he.1, he.2⟩⟩
    · cases h
  · split at h
    · obtain ⟨q, hq, h⟩ := Option.bind_eq_some_iff.mp h
      exact ⟨_, h, callQ_of rfl rfl fun w => (trig_ArcSin.calls k _ _ _ _ _ w hq).mono fun e w' he => ⟨he.1, he.2⟩⟩
    · cases h
  · cases h
def sun_Equator.F (v : Value) (_ : Mem) : Option (Int × Int × Int × Int × Int) := match v with | .tuple ⟨[.agg ⟨[.int .i64 r1, .int .i64 r2]⟩, .agg ⟨[.int .i64 r3, .int .i64 r4]⟩, .int .i64 r5]⟩ => some (r1, r2, r3, r4, r5) | _ => none
theorem sun_Equator.run (k : Nat) (a0_0 : Int) (a0_1 : Int) (a1_0 : Int) (a1_1 : Int) : runM Try.prog (liftQ (sun_Equator.OQ k)) (drawQ Try.prog (sun_Equator.OQ k)) (fun _ => none) (atEnd Try.prog Try.f16 sun_Equator.F) 5000 [.code (Try.f16.body.getD .skip)] ([.agg ⟨[.int .i64 a0_0, .int .i64 a0_1]⟩, .agg ⟨[.int .i64 a1_0, .int .i64 a1_1]⟩] ++ List.replicate (Try.f16.ntmps - ([.agg ⟨[.int .i64 a0_0, .int .i64 a0_1]⟩, .agg ⟨[.int .i64 a1_0, .int .i64 a1_1]⟩] : List Value).length) undef) [] = sun_Equator.f k a0_0 a0_1 a1_0 a1_1 := by kernel_rfl
theorem sun_Equator.calls (k : Nat) (a0_0 : Int) (a0_1 : Int) (a1_0 : Int) (a1_1 : Int) (r1 : Int) (r2 : Int) (r3 : Int) (r4 : Int) (r5 : Int) (w : World) (h : sun_Equator.f k a0_0 a0_1 a1_0 a1_1 = some (r1, r2, r3, r4, r5)) :
    Calls Try.prog 16 #[.agg #[.int .i64 a0_0, .int .i64 a0_1], .agg #[.int .i64 a1_0, .int .i64 a1_1]] w fun e w' => e = .returned (.tuple #[.agg #[.int .i64 r1, .int .i64 r2], .agg #[.int .i64 r3, .int .i64 r4], .int .i64 r5]) ∧ Below w.heap.size w w' := by
  refine calls_closed (OQ := sun_Equator.OQ k) (LF := fun _ => none) (F := sun_Equator.F) (r := (r1, r2, r3, r4, r5)) (Checked.mixed Try.checked) (fun Φ base _ => sun_Equator.OQ_ok k Φ base) (LS := fun _ => True) (fun Φ base _ c _ live len f e => by cases e) Try.func16 rfl (fun _ _ => trivial) rfl (fun u m hu => ?_) rfl (((sun_Equator.run k a0_0 a0_1 a1_0 a1_1).trans h)) w
  unfold sun_Equator.F at hu
  split at hu
  · cases hu; rfl
  · cases hu
end Go.Proofs.Ytedakilpogagiaa.PAll
end
section
namespace Go.Proofs.Ytedakilpogagiaa.PAll
open Go.RowKit YtedakilpogagiaaW.PrintWords YtedakilpogagiaaW.PrintLast YtedakilpogagiaaW.PrintMore More2 Sq
attribute [local go_sem] max2_int min2_int max_two min_two max_three min_three max_four min_four tdiv2e18_ tdiv1e18_ cellSS_  -- for this text's walks alone
def sun_Series.f  : Option (Int × Int × (List (S94)) × Int) := some (775342092, 2737909333333, (([(⟨5318339, 84888545, 2737778555556⟩ : S94), (⟨55536, 169777090, 5475557111112⟩ : S94)] : List (S94))), 2000)
theorem sun_Series.calls  (r1 : Int) (r2 : Int) (r3 : List (S94)) (r4 : Int) (w : World) (h : sun_Series.f  = some (r1, r2, r3, r4)) :
  Calls Try.prog 97 #[] w fun e w' => ∃ v2_ : Value, e = .returned (.agg #[.int .i64 r1, .int .i64 r2, v2_, .int .i64 r4]) ∧ Kd.R k94 94 w' w.heap.size (fun _ => True) v2_ r3 ∧ Below w.heap.size w w' := by
 have hu82 := Try.underlying82
 have hu94 := Try.underlying94
 have HB := Aside0.mk (Below.refl w.heap.size w)
 have H : (some (775342092, 2737909333333, (([(⟨5318339, 84888545, 2737778555556⟩ : S94), (⟨55536, 169777090, 5475557111112⟩ : S94)] : List (S94))), 2000)) = some (r1, r2, r3, r4) := h
 clear h
 obtain ⟨y249, hy249⟩ : ∃ y_ : List (S94), y_ = (([(⟨5318339, 84888545, 2737778555556⟩ : S94), (⟨55536, 169777090, 5475557111112⟩ : S94)] : List (S94))) := ⟨_, rfl⟩
 replace H : (some (775342092, 2737909333333, y249, 2000)) = some (r1, r2, r3, r4) := by first | (rw [hy249]; with_reducible exact H) | (have H2_ := (Option.bind_some _ _).symm.trans H; rw [hy249]; with_reducible exact H2_) | (have H2_ := (Option.bind_some _ _).symm.trans H; with_reducible exact H2_) | with_reducible exact H | (rw [hy249]; exact H) | exact H
 have Ny249 := Aside0.mk hy249
 clear hy249
 simp only [Option.some.injEq, Prod.mk.injEq] at H
 obtain ⟨rfl, rfl, rfl, rfl⟩ := H
 go_enter Try.func97, Try.ntmps97
 go_wp2_with (first | ((with_reducible refine gate_dst (N := 0) rfl ?_); refine box_event ?hg (N := 0) ?hd (cs := #[.int .i64 0, .int .i64 0, .slice none 0 0, .int .i64 0]) (t := 82) ?hr ?_; (case hd => rfl); (case hg => rfl); (case hr => first | (go_simp; done) | (go_simp; rfl)); intro gb248 hg w1 hbox hb; have BK248 := Aside0.mk (hbox); have GW248 := ge_ hg HB; have GE248 := ge_ hg HB; replace HB := bs_ HB hb; clear hb hbox hg) | ((with_reducible refine gate_dst (N := 3) rfl ?_); refine Kd.R_lit k94 _ 94 ?hg (N := 3) ?hd (xs := ([(⟨5318339, 84888545, 2737778555556⟩ : S94), (⟨55536, 169777090, 5475557111112⟩ : S94)] : List (S94))) (inner := [.int .i64 5318339, .int .i64 84888545, .int .i64 2737778555556, .int .i64 55536, .int .i64 169777090, .int .i64 5475557111112]) (ok := fun _ => True) (okp := fun _ => True) ?hr ?hp (fun _ hk => hk) trivial (Below.refl _ _) (Nat.le_refl _) (by simp) ?_; (case hd => rfl); (case hg => rfl); (case hr => first | (go_simp; done) | (go_simp; rfl)); (case hp => exact (Reps.c3 (show Kd.M k94 _ _ _ (⟨5318339, 84888545, 2737778555556⟩ : S94) [.int .i64 5318339, .int .i64 84888545, .int .i64 2737778555556] from (k94_mkM _ _ _ (⟨5318339, 84888545, 2737778555556⟩ : S94) )) (Reps.c3 (show Kd.M k94 _ _ _ (⟨55536, 169777090, 5475557111112⟩ : S94) [.int .i64 55536, .int .i64 169777090, .int .i64 5475557111112] from (k94_mkM _ _ _ (⟨55536, 169777090, 5475557111112⟩ : S94) )) (Reps.none _ _)))); intro v250 w2 ho3 hb hg_ hnew_; clear hg_ hnew_; (first | rw [← Ny249.out] at ho3 | (simp only [Int.reduceToNat] at ho3; rw [← Ny249.out] at ho3)); have HO251 := Aside0.mk (Kd.R_lower ho3 (below_size (be_ HB).out)); replace BK248 := kb_ BK248 hb; replace HB := bs_ HB hb; clear hb ho3; obtain ⟨Ao4, co4, eo4⟩ := Kd.R_slice HO251.out; subst eo4; have hcz5_0 : w2.cell? ⟨gb248, 0, none⟩ = some (.int .i64 0) := (blk_cell BK248.out 0).trans rfl; have hcz5_1 : w2.cell? ⟨gb248, 1, none⟩ = some (.int .i64 0) := (blk_cell BK248.out 1).trans rfl; have hcz5_2 : w2.cell? ⟨gb248, 2, none⟩ = some (.slice none 0 0) := (blk_cell BK248.out 2).trans rfl; have hcz5_3 : w2.cell? ⟨gb248, 3, none⟩ = some (.int .i64 0) := (blk_cell BK248.out 3).trans rfl; have hfz5_0 := blk_frozen BK248.out 0; have hfz5_1 := blk_frozen BK248.out 1; have hfz5_2 := blk_frozen BK248.out 2; have hfz5_3 := blk_frozen BK248.out 3))
 refine bodyPost_ret (results_cell_row rfl _ _ gb248 82 #[.int .i64 775342092, .int .i64 2737909333333, .slice Ao4 y249.length co4, .int .i64 2000] (0, 0) _ rfl (by (with_reducible repeat (first | refine blk_drewN ?_ _ | refine blk_drew ?_ | refine blk_alloc ?_ _)); refine blk_put (cs := #[.int .i64 775342092, .int .i64 2737909333333, .slice Ao4 y249.length co4, .int .i64 0]) ?_ 3 _ rfl; (with_reducible repeat (first | refine blk_drewN ?_ _ | refine blk_drew ?_ | refine blk_alloc ?_ _)); refine blk_put (cs := #[.int .i64 775342092, .int .i64 2737909333333, .slice none 0 0, .int .i64 0]) ?_ 2 _ rfl; (with_reducible repeat (first | refine blk_drewN ?_ _ | refine blk_drew ?_ | refine blk_alloc ?_ _)); refine blk_put (cs := #[.int .i64 775342092, .int .i64 0, .slice none 0 0, .int .i64 0]) ?_ 1 _ rfl; (with_reducible repeat (first | refine blk_drewN ?_ _ | refine blk_drew ?_ | refine blk_alloc ?_ _)); refine blk_put (cs := #[.int .i64 0, .int .i64 0, .slice none 0 0, .int .i64 0]) ?_ 0 _ rfl; (with_reducible repeat (first | refine blk_drewN ?_ _ | refine blk_drew ?_ | refine blk_alloc ?_ _)); exact BK248.out) Try.underlying82 rfl (by kernel_rfl)) rfl ?_
 exact ⟨_, by first | rfl | (simp [errW_none, errW_some] <;> rfl) | (simp [*, errW_none, errW_some] <;> rfl), by (with_reducible repeat (first | apply Kd.R_alloc | apply Kd.R_drewN | apply Kd.R_drew)); exact Kd.R_mono (Kd.R_far (p := ⟨gb248, 3, none⟩) (Kd.R_far (p := ⟨gb248, 2, none⟩) (Kd.R_far (p := ⟨gb248, 1, none⟩) (Kd.R_far (p := ⟨gb248, 0, none⟩) (Kd.R_types HO251.out BK248.out (by decide)) (fun _ hk => hk.2) (.int .i64 775342092)) (fun _ hk => hk.2) (.int .i64 2737909333333)) (fun _ hk => hk.2) (.slice Ao4 y249.length co4)) (fun _ hk => hk.2) (.int .i64 2000)) (fun _ hk => trivial), (be_ HB).out⟩
end Go.Proofs.Ytedakilpogagiaa.PAll
end
section
namespace Go.Proofs.Ytedakilpogagiaa.PAll
open Go.RowKit YtedakilpogagiaaW.PrintWords YtedakilpogagiaaW.PrintLast YtedakilpogagiaaW.PrintMore More2 Sq
attribute [local go_sem] max2_int min2_int max_two min_two max_three min_three max_four min_four tdiv2e18_ tdiv1e18_ cellSS_  -- for this text's walks alone
def series_Reduced.f (a0_0 : Int) (a0_1 : Int) : Option (Int × Int) := (interval_Floor.f a0_0 1000000000).bind fun t254 => (some (wrap64 (a0_0 - (wrap64 (t254 * 1000000000))), wrap64 (a0_1 - (wrap64 (t254 * 1000000000)))))
theorem series_Reduced.calls (a0_0 : Int) (a0_1 : Int) (r1 : Int) (r2 : Int) (w : World) (h : series_Reduced.f a0_0 a0_1 = some (r1, r2)) :
  Calls Try.prog 82 #[.agg #[.int .i64 a0_0, .int .i64 a0_1]] w fun e w' => e = .returned (.agg #[.int .i64 r1, .int .i64 r2]) ∧ Below w.heap.size w w' := by
 have hu23 := Try.underlying23
 have HB := Aside0.mk (Below.refl w.heap.size w)
 have H : ((interval_Floor.f a0_0 1000000000).bind fun t254 => (some (wrap64 (a0_0 - (wrap64 (t254 * 1000000000))), wrap64 (a0_1 - (wrap64 (t254 * 1000000000)))))) = some (r1, r2) := h
 clear h
 replace H := Option.bind_eq_some_iff.mp H
 obtain ⟨t254, A20, H⟩ := H
 replace H : (some (wrap64 (a0_0 - (wrap64 (t254 * 1000000000))), wrap64 (a0_1 - (wrap64 (t254 * 1000000000))))) = some (r1, r2) := H
 have A2 := Aside0.mk A20
 clear A20
 simp only [Option.some.injEq, Prod.mk.injEq] at H
 obtain ⟨rfl, rfl⟩ := H
 go_enter Try.func82, Try.ntmps82
 go_wp2_with (first | ((with_reducible refine gate_dst (N := 1) rfl ?_); refine box_event ?hg (N := 1) ?hd (cs := #[.int .i64 a0_0, .int .i64 a0_1]) (t := 23) ?hr ?_; (case hd => rfl); (case hg => rfl); (case hr => first | (go_simp; done) | (go_simp; rfl)); intro gb252 hg w3 hbox hb; have BK252 := Aside0.mk (hbox); have GW252 := ge_ hg HB; have GE252 := ge_ hg HB; replace HB := bs_ HB hb; clear hb hbox hg) | ((with_reducible refine gate_dst (N := 2) rfl ?_); refine box_event ?hg (N := 2) ?hd (cs := #[.int .i64 0, .int .i64 0]) (t := 23) ?hr ?_; (case hd => rfl); (case hg => rfl); (case hr => first | (go_simp; done) | (go_simp; rfl)); intro gb253 hg w4 hbox hb; have BK253 := Aside0.mk (hbox); have GW253 := ge_ hg HB; have GE253 := ge_ hg HB; have NB252_253 := nl_ hg BK252; have NB253_252 := ng_ hg BK252; replace BK252 := kb_ BK252 hb; replace HB := bs_ HB hb; clear hb hbox hg; have hnb5 := NB252_253.out; have hnc5 := NB253_252.out; have hcz6_0 : w4.cell? ⟨gb252, 0, none⟩ = some (.int .i64 a0_0) := (blk_cell BK252.out 0).trans rfl; have hcz6_1 : w4.cell? ⟨gb252, 1, none⟩ = some (.int .i64 a0_1) := (blk_cell BK252.out 1).trans rfl; have hfz6_0 := blk_frozen BK252.out 0; have hfz6_1 := blk_frozen BK252.out 1) | ((with_reducible refine gate_callee (f := 93) rfl ?_); refine goesL_ (some 6) rfl rfl Try.func93 (by kernel_rfl) rfl #[.int .i64 a0_0, .int .i64 1000000000] rfl (by (try simp only [List.map_toArray, List.map_cons, List.map_nil]); first | done | rfl | (simp only [List.length_drop, List.length_take]; rfl)) ?_; (with_reducible refine (interval_Floor.calls a0_0 1000000000 t254 _ A2.out).mono ?_); rintro e w' ⟨rfl, ⟨nd, rfl⟩⟩; refine ⟨_, rfl, ?_⟩; (try (rw [drewN_self w4]; generalize hq_ : World.drewN w4 _ = w4; have n0_ : Aside0 (w4.heap[gb252]? = some (.cells #[.int .i64 a0_0, .int .i64 a0_1] 23 (0, 0))) := ⟨by rw [← hq_]; exact (kk_ BK252)⟩; have n1_ : Aside0 (w4.heap[gb253]? = some (.cells #[.int .i64 0, .int .i64 0] 23 (0, 0))) := ⟨by rw [← hq_]; exact (kk_ BK253)⟩; have n2_ : Aside0 (Below w.heap.size w w4) := ⟨by rw [← hq_]; exact (be_ HB).out⟩; clear BK252 BK253 HB hq_; have BK252 := n0_; have BK253 := n1_; have HB := n2_; clear n0_ n1_ n2_; have hcy252_0 : w4.cell? ⟨gb252, 0, none⟩ = some (.int .i64 a0_0) := (blk_cell BK252.out 0).trans rfl; have hfy252_0 := blk_frozen BK252.out 0; have hcy252_1 : w4.cell? ⟨gb252, 1, none⟩ = some (.int .i64 a0_1) := (blk_cell BK252.out 1).trans rfl; have hfy252_1 := blk_frozen BK252.out 1; have hcy253_0 : w4.cell? ⟨gb253, 0, none⟩ = some (.int .i64 0) := (blk_cell BK253.out 0).trans rfl; have hfy253_0 := blk_frozen BK253.out 0; have hcy253_1 : w4.cell? ⟨gb253, 1, none⟩ = some (.int .i64 0) := (blk_cell BK253.out 1).trans rfl; have hfy253_1 := blk_frozen BK253.out 1)); have hcz7_0 : w4.cell? ⟨gb253, 0, none⟩ = some (.int .i64 0) := (blk_cell BK253.out 0).trans rfl; have hcz7_1 : w4.cell? ⟨gb253, 1, none⟩ = some (.int .i64 0) := (blk_cell BK253.out 1).trans rfl; have hfz7_0 := blk_frozen BK253.out 0; have hfz7_1 := blk_frozen BK253.out 1))
 refine bodyPost_ret (results_cell_row rfl _ _ gb253 23 #[.int .i64 (wrap64 (a0_0 - (wrap64 (t254 * 1000000000)))), .int .i64 (wrap64 (a0_1 - (wrap64 (t254 * 1000000000))))] (0, 0) _ rfl (by (with_reducible repeat (first | refine blk_drewN ?_ _ | refine blk_drew ?_ | refine blk_alloc ?_ _)); refine blk_put (cs := #[.int .i64 (wrap64 (a0_0 - (wrap64 (t254 * 1000000000)))), .int .i64 0]) ?_ 1 _ rfl; (with_reducible repeat (first | refine blk_drewN ?_ _ | refine blk_drew ?_ | refine blk_alloc ?_ _)); refine blk_put (cs := #[.int .i64 0, .int .i64 0]) ?_ 0 _ rfl; (with_reducible repeat (first | refine blk_drewN ?_ _ | refine blk_drew ?_ | refine blk_alloc ?_ _)); exact BK253.out) Try.underlying23 rfl (by kernel_rfl)) rfl ?_
 exact ⟨by first | rfl | (simp [errW_none, errW_some] <;> rfl) | (simp [*, errW_none, errW_some] <;> rfl), (be_ HB).out⟩
end Go.Proofs.Ytedakilpogagiaa.PAll
end
section
namespace Go.Proofs.Ytedakilpogagiaa.PAll
open Go.RowKit YtedakilpogagiaaW.PrintWords YtedakilpogagiaaW.PrintLast YtedakilpogagiaaW.PrintMore More2 Sq
attribute [local go_sem] max2_int min2_int max_two min_two max_three min_three max_four min_four tdiv2e18_ tdiv1e18_ cellSS_  -- for this text's walks alone
def series_Valid.f (a0 : Int) : Option (Bool) := if a0 ≥ (-345600000000000) then (some (decide (a0 < 345600086400000))) else (some false)
theorem series_Valid.calls (a0 : Int) (r : Bool) (w : World) (h : series_Valid.f a0 = some r) :
  Calls Try.prog 84 #[.int .i64 a0] w fun e w' => e = .returned (.bool r) ∧ Drawn0 w w' := by
 have H : (if a0 ≥ (-345600000000000) then (some (decide (a0 < 345600086400000))) else (some false)) = some r := h
 clear h
 by_cases c2 : a0 ≥ (-345600000000000)
 ·rw [if_pos c2] at H
  have c2b0 : decide ((-345600000000000) ≤ a0) = true := decide_eq_true c2
  clear c2
  obtain rfl := Option.some.inj H
  simp only [Option.some.injEq, Prod.mk.injEq] at H
  obtain ⟨rfl⟩ := H
  go_enter Try.func84, Try.ntmps84
  go_wp2
  go_ret
  exact ⟨by first | rfl | (simp; done) | (simp [*]; done), by repeat (first | exact Drawn0.refl _ | apply Drawn0.step)⟩
 ·rw [if_neg c2] at H
  have c2b0 : decide ((-345600000000000) ≤ a0) = false := decide_eq_false c2
  clear c2
  obtain rfl := Option.some.inj H
  simp only [Option.some.injEq, Prod.mk.injEq] at H
  obtain ⟨rfl⟩ := H
  go_enter Try.func84, Try.ntmps84
  go_wp2
  go_ret
  exact ⟨by first | rfl | (simp; done) | (simp [*]; done), by repeat (first | exact Drawn0.refl _ | apply Drawn0.step)⟩
end Go.Proofs.Ytedakilpogagiaa.PAll
end
section
namespace Go.Proofs.Ytedakilpogagiaa.PAll
open Go.RowKit YtedakilpogagiaaW.PrintWords YtedakilpogagiaaW.PrintLast YtedakilpogagiaaW.PrintMore More2 Sq
attribute [local go_sem] max2_int min2_int max_two min_two max_three min_three max_four min_four tdiv2e18_ tdiv1e18_ cellSS_  -- for this text's walks alone
def series_beyond.f (a0 : Int) (a1 : Int) : Option (Bool) := if a0 < (wrap64 (-a1)) then (some true) else (some (decide (a0 > a1)))
theorem series_beyond.calls (a0 : Int) (a1 : Int) (r : Bool) (w : World) (h : series_beyond.f a0 a1 = some r) :
  Calls Try.prog 133 #[.int .i64 a0, .int .i64 a1] w fun e w' => e = .returned (.bool r) ∧ Drawn0 w w' := by
 have H : (if a0 < (wrap64 (-a1)) then (some true) else (some (decide (a0 > a1)))) = some r := h
 clear h
 by_cases c3 : a0 < (wrap64 (-a1))
 ·rw [if_pos c3] at H
  have c3b0 : decide (a0 < (wrap64 (-a1))) = true := decide_eq_true c3
  clear c3
  obtain rfl := Option.some.inj H
  simp only [Option.some.injEq, Prod.mk.injEq] at H
  obtain ⟨rfl⟩ := H
  go_enter Try.func133, Try.ntmps133
  go_wp2
  go_ret
  exact ⟨by first | rfl | (simp; done) | (simp [*]; done), by repeat (first | exact Drawn0.refl _ | apply Drawn0.step)⟩
 ·rw [if_neg c3] at H
  have c3b0 : decide (a0 < (wrap64 (-a1))) = false := decide_eq_false c3
  clear c3
  obtain rfl := Option.some.inj H
  simp only [Option.some.injEq, Prod.mk.injEq] at H
  obtain ⟨rfl⟩ := H
  go_enter Try.func133, Try.ntmps133
  go_wp2
  go_ret
  exact ⟨by first | rfl | (simp; done) | (simp [*]; done), by repeat (first | exact Drawn0.refl _ | apply Drawn0.step)⟩
end Go.Proofs.Ytedakilpogagiaa.PAll
end
section
namespace Go.Proofs.Ytedakilpogagiaa.PAll
open Go.RowKit YtedakilpogagiaaW.PrintWords YtedakilpogagiaaW.PrintLast YtedakilpogagiaaW.PrintMore More2 Sq
attribute [local go_sem] max2_int min2_int max_two min_two max_three min_three max_four min_four tdiv2e18_ tdiv1e18_ cellSS_  -- for this text's walks alone
mutual
def series_Check.j0 : Nat → Bool → Int → Int → List (S94) → Int → Option (Int)
 | 0, _, _, _, _, _ => none
 | k + 1, x26, x256000, x256001, x256002, x256003 => if x26 = true then (some 3) else (series_Check.l0 k x256002 (x256002.length : Int) 0)
def series_Check.l0 : Nat → List (S94) → Int → Int → Option (Int)
 | 0, _, _, _ => none
 | k + 1, x28, x29, x30 => if x30 < x29 then (if 0 ≤ x30 then (if x30 < (x28.length : Int) then ((series_beyond.f ((rd_T94 x28 x30).f0) 1000000000).bind fun t260 => (if t260 = true then (some 3) else (if ((rd_T94 x28 x30).f1) < 0 then (some 3) else (if ((rd_T94 x28 x30).f1) ≥ 1000000000 then (some 3) else ((series_beyond.f ((rd_T94 x28 x30).f2) 4000000000000000).bind fun t261 => (if t261 = true then (some 3) else (series_Check.l0 k x28 x29 (wrap64 (x30 + 1))))))))) else (none)) else (none)) else (some 0)
end
def series_Check.f (k : Nat) (a0_0 : Int) (a0_1 : Int) (l0_2 : List (S94)) (a0_3 : Int) : Option (Int) := if (l0_2.length : Int) > 40 then (some 2) else ((series_beyond.f a0_0 1000000000).bind fun t256 => (if t256 = true then (series_Check.j0 k true a0_0 a0_1 l0_2 a0_3) else ((series_beyond.f a0_1 4000000000000000).bind fun t257 => (if t257 = true then (series_Check.j0 k true a0_0 a0_1 l0_2 a0_3) else (if a0_3 < 0 then (series_Check.j0 k true a0_0 a0_1 l0_2 a0_3) else (series_Check.j0 k (decide (a0_3 > 100000000)) a0_0 a0_1 l0_2 a0_3))))))
theorem series_Check.calls (k : Nat) (a0_0 : Int) (a0_1 : Int) (A0_2 : Option Addr) (c0_2 : Nat) (l0_2 : List (S94)) (a0_3 : Int) (r : Int) (w : World) (hr0_2 : Kd.C k94 w A0_2 l0_2.length l0_2) (hc0_2 : l0_2.length ≤ c0_2) (h : series_Check.f k a0_0 a0_1 l0_2 a0_3 = some r) :
  Calls Try.prog 122 #[.agg #[.int .i64 a0_0, .int .i64 a0_1, .slice A0_2 l0_2.length c0_2, .int .i64 a0_3]] w fun e w' => e = .returned (.int .i64 r) ∧ Below w.heap.size w w' := by
 have hu82 := Try.underlying82
 have hu94 := Try.underlying94
 have HR0_2 := Aside0.mk hr0_2
 have HC0_2 := Aside0.mk hc0_2
 clear hr0_2 hc0_2
 have HB := Aside0.mk (Below.refl w.heap.size w)
 have H : (if (l0_2.length : Int) > 40 then (some 2) else ((series_beyond.f a0_0 1000000000).bind fun t256 => (if t256 = true then (series_Check.j0 k true a0_0 a0_1 l0_2 a0_3) else ((series_beyond.f a0_1 4000000000000000).bind fun t257 => (if t257 = true then (series_Check.j0 k true a0_0 a0_1 l0_2 a0_3) else (if a0_3 < 0 then (series_Check.j0 k true a0_0 a0_1 l0_2 a0_3) else (series_Check.j0 k (decide (a0_3 > 100000000)) a0_0 a0_1 l0_2 a0_3))))))) = some r := h
 clear h
 by_cases c2 : (l0_2.length : Int) > 40
 ·rw [if_pos c2] at H
  have c2b0 : decide (40 < (l0_2.length : Int)) = true := decide_eq_true c2
  have c2b1 : decide (40 < l0_2.length) = true := decide_eq_true (by omega)
  clear c2
  obtain rfl := Option.some.inj H
  simp only [Option.some.injEq, Prod.mk.injEq] at H
  obtain ⟨rfl⟩ := H
  go_enter Try.func122, Try.ntmps122
  go_wp2_with (first | ((with_reducible refine gate_dst (N := 1) rfl ?_); refine box_event ?hg (N := 1) ?hd (cs := #[.int .i64 a0_0, .int .i64 a0_1, .slice A0_2 l0_2.length c0_2, .int .i64 a0_3]) (t := 82) ?hr ?_; (case hd => rfl); (case hg => rfl); (case hr => first | (go_simp; done) | (go_simp; rfl)); intro gb255 hg w3 hbox hb; have BK255 := Aside0.mk (hbox); have GW255 := ge_ hg HB; have GE255 := ge_ hg HB; replace HB := bs_ HB hb; clear hb hbox hg; have hcz4_0 : w3.cell? ⟨gb255, 0, none⟩ = some (.int .i64 a0_0) := (blk_cell BK255.out 0).trans rfl; have hcz4_1 : w3.cell? ⟨gb255, 1, none⟩ = some (.int .i64 a0_1) := (blk_cell BK255.out 1).trans rfl; have hcz4_2 : w3.cell? ⟨gb255, 2, none⟩ = some (.slice A0_2 l0_2.length c0_2) := (blk_cell BK255.out 2).trans rfl; have hcz4_3 : w3.cell? ⟨gb255, 3, none⟩ = some (.int .i64 a0_3) := (blk_cell BK255.out 3).trans rfl; have hfz4_0 := blk_frozen BK255.out 0; have hfz4_1 := blk_frozen BK255.out 1; have hfz4_2 := blk_frozen BK255.out 2; have hfz4_3 := blk_frozen BK255.out 3))
  go_ret
  exact ⟨by first | rfl | (simp [errW_none, errW_some] <;> rfl) | (simp [*, errW_none, errW_some] <;> rfl), (be_ HB).out⟩
 ·rw [if_neg c2] at H
  have c2b0 : decide (40 < (l0_2.length : Int)) = false := decide_eq_false c2
  have c2b1 : decide (40 < l0_2.length) = false := decide_eq_false (by omega)
  clear c2
  have HC5 := Aside0.mk H
  clear H
  go_enter Try.func122, Try.ntmps122
  go_upto_region 3 with (first | ((with_reducible refine gate_dst (N := 1) rfl ?_); refine box_event ?hg (N := 1) ?hd (cs := #[.int .i64 a0_0, .int .i64 a0_1, .slice A0_2 l0_2.length c0_2, .int .i64 a0_3]) (t := 82) ?hr ?_; (case hd => rfl); (case hg => rfl); (case hr => first | (go_simp; done) | (go_simp; rfl)); intro gb255 hg w6 hbox hb; have BK255 := Aside0.mk (hbox); have GW255 := ge_ hg HB; have GE255 := ge_ hg HB; replace HB := bs_ HB hb; clear hb hbox hg; have hcz7_0 : w6.cell? ⟨gb255, 0, none⟩ = some (.int .i64 a0_0) := (blk_cell BK255.out 0).trans rfl; have hcz7_1 : w6.cell? ⟨gb255, 1, none⟩ = some (.int .i64 a0_1) := (blk_cell BK255.out 1).trans rfl; have hcz7_2 : w6.cell? ⟨gb255, 2, none⟩ = some (.slice A0_2 l0_2.length c0_2) := (blk_cell BK255.out 2).trans rfl; have hcz7_3 : w6.cell? ⟨gb255, 3, none⟩ = some (.int .i64 a0_3) := (blk_cell BK255.out 3).trans rfl; have hfz7_0 := blk_frozen BK255.out 0; have hfz7_1 := blk_frozen BK255.out 1; have hfz7_2 := blk_frozen BK255.out 2; have hfz7_3 := blk_frozen BK255.out 3))
  (try simp only [Act.put, List.setIfInBounds_toArray, List.set_cons_zero, List.set_cons_succ])
  go_cut [26] (fun v26 wc => ∃ (kq : Nat) (x26_4 : Bool), v26 = .bool x26_4 ∧ Aside0 (series_Check.j0 kq x26_4 a0_0 a0_1 l0_2 a0_3 = some r) ∧ Aside0 (kq ≤ k) ∧ Aside0 (wc.heap[gb255]? = some (.cells #[.int .i64 a0_0, .int .i64 a0_1, (.slice A0_2 l0_2.length c0_2), .int .i64 a0_3] 82 (0, 0))) ∧ Aside0 (Below w.heap.size w wc))
  case first =>
   have H := HC5.out
   clear HC5
   replace H := Option.bind_eq_some_iff.mp H
   obtain ⟨t256, A80, H⟩ := H
   replace H : (if t256 = true then (series_Check.j0 k true a0_0 a0_1 l0_2 a0_3) else ((series_beyond.f a0_1 4000000000000000).bind fun t257 => (if t257 = true then (series_Check.j0 k true a0_0 a0_1 l0_2 a0_3) else (if a0_3 < 0 then (series_Check.j0 k true a0_0 a0_1 l0_2 a0_3) else (series_Check.j0 k (decide (a0_3 > 100000000)) a0_0 a0_1 l0_2 a0_3))))) = some r := H
   have A8 := Aside0.mk A80
   clear A80
   by_cases c9 : t256 = true
   ·subst c9
    have H1 : (series_Check.j0 k true a0_0 a0_1 l0_2 a0_3) = some r := by rw [if_pos rfl] at H; exact H
    clear H
    have H := H1
    clear H1
    have H' := Aside0.mk H
    clear H
    have hcz10_0 : w6.cell? ⟨gb255, 0, none⟩ = some (.int .i64 a0_0) := (blk_cell BK255.out 0).trans rfl
    have hcz10_1 : w6.cell? ⟨gb255, 1, none⟩ = some (.int .i64 a0_1) := (blk_cell BK255.out 1).trans rfl
    have hcz10_2 : w6.cell? ⟨gb255, 2, none⟩ = some (.slice A0_2 l0_2.length c0_2) := (blk_cell BK255.out 2).trans rfl
    have hcz10_3 : w6.cell? ⟨gb255, 3, none⟩ = some (.int .i64 a0_3) := (blk_cell BK255.out 3).trans rfl
    have hfz10_0 := blk_frozen BK255.out 0
    have hfz10_1 := blk_frozen BK255.out 1
    have hfz10_2 := blk_frozen BK255.out 2
    have hfz10_3 := blk_frozen BK255.out 3
    go_wp2_with (first | ((with_reducible refine gate_callee (f := 133) rfl ?_); refine goesL_ (some 11) rfl rfl Try.func133 (by kernel_rfl) rfl #[.int .i64 a0_0, .int .i64 1000000000] rfl (by (try simp only [List.map_toArray, List.map_cons, List.map_nil]); first | done | rfl | (simp only [List.length_drop, List.length_take]; rfl)) ?_; (with_reducible refine (series_beyond.calls a0_0 1000000000 true _ A8.out).mono ?_); rintro e w' ⟨rfl, ⟨nd, rfl⟩⟩; refine ⟨_, rfl, ?_⟩))
    go_meet
    case rel => exact ⟨_, (true), (by first | rfl | (simp; done) | (simp [*]; done)), H', ⟨by first | omega | exact Nat.le_refl _⟩, ⟨kk_ BK255⟩, (be_ HB)⟩
   ·replace c9 := Bool.eq_false_iff.mpr c9
    subst c9
    have H1 : ((series_beyond.f a0_1 4000000000000000).bind fun t257 => (if t257 = true then (series_Check.j0 k true a0_0 a0_1 l0_2 a0_3) else (if a0_3 < 0 then (series_Check.j0 k true a0_0 a0_1 l0_2 a0_3) else (series_Check.j0 k (decide (a0_3 > 100000000)) a0_0 a0_1 l0_2 a0_3)))) = some r := by rw [if_neg (show ¬ (false = true) by decide)] at H; exact H
    clear H
    have H := H1
    clear H1
    replace H := Option.bind_eq_some_iff.mp H
    obtain ⟨t257, A110, H⟩ := H
    replace H : (if t257 = true then (series_Check.j0 k true a0_0 a0_1 l0_2 a0_3) else (if a0_3 < 0 then (series_Check.j0 k true a0_0 a0_1 l0_2 a0_3) else (series_Check.j0 k (decide (a0_3 > 100000000)) a0_0 a0_1 l0_2 a0_3))) = some r := H
    have A11 := Aside0.mk A110
    clear A110
    by_cases c12 : t257 = true
    ·subst c12
     have H1 : (series_Check.j0 k true a0_0 a0_1 l0_2 a0_3) = some r := by rw [if_pos rfl] at H; exact H
     clear H
     have H := H1
     clear H1
     have H' := Aside0.mk H
     clear H
     have hcz13_0 : w6.cell? ⟨gb255, 0, none⟩ = some (.int .i64 a0_0) := (blk_cell BK255.out 0).trans rfl
     have hcz13_1 : w6.cell? ⟨gb255, 1, none⟩ = some (.int .i64 a0_1) := (blk_cell BK255.out 1).trans rfl
     have hcz13_2 : w6.cell? ⟨gb255, 2, none⟩ = some (.slice A0_2 l0_2.length c0_2) := (blk_cell BK255.out 2).trans rfl
     have hcz13_3 : w6.cell? ⟨gb255, 3, none⟩ = some (.int .i64 a0_3) := (blk_cell BK255.out 3).trans rfl
     have hfz13_0 := blk_frozen BK255.out 0
     have hfz13_1 := blk_frozen BK255.out 1
     have hfz13_2 := blk_frozen BK255.out 2
     have hfz13_3 := blk_frozen BK255.out 3
     go_wp2_with (first | ((with_reducible refine gate_callee (f := 133) rfl ?_); refine goesL_ (some 11) rfl rfl Try.func133 (by kernel_rfl) rfl #[.int .i64 a0_0, .int .i64 1000000000] rfl (by (try simp only [List.map_toArray, List.map_cons, List.map_nil]); first | done | rfl | (simp only [List.length_drop, List.length_take]; rfl)) ?_; (with_reducible refine (series_beyond.calls a0_0 1000000000 false _ A8.out).mono ?_); rintro e w' ⟨rfl, ⟨nd, rfl⟩⟩; refine ⟨_, rfl, ?_⟩) | (go_at_call 133; (with_reducible refine (series_beyond.calls a0_1 4000000000000000 true _ A11.out).mono ?_); rintro e w' ⟨rfl, ⟨nd, rfl⟩⟩))
     go_meet
     case rel => exact ⟨_, (true), (by first | rfl | (simp; done) | (simp [*]; done)), H', ⟨by first | omega | exact Nat.le_refl _⟩, ⟨kk_ BK255⟩, (be_ HB)⟩
    ·replace c12 := Bool.eq_false_iff.mpr c12
     subst c12
     have H1 : (if a0_3 < 0 then (series_Check.j0 k true a0_0 a0_1 l0_2 a0_3) else (series_Check.j0 k (decide (a0_3 > 100000000)) a0_0 a0_1 l0_2 a0_3)) = some r := by rw [if_neg (show ¬ (false = true) by decide)] at H; exact H
     clear H
     have H := H1
     clear H1
     by_cases c14 : a0_3 < 0
     ·rw [if_pos c14] at H
      have c14b0 : decide (a0_3 < 0) = true := decide_eq_true c14
      clear c14
      (first | rw [c14b0] | (simp only [i64_w, i32_w]; rw [c14b0]) | skip)
      have H' := Aside0.mk H
      clear H
      have hcz15_0 : w6.cell? ⟨gb255, 0, none⟩ = some (.int .i64 a0_0) := (blk_cell BK255.out 0).trans rfl
      have hcz15_1 : w6.cell? ⟨gb255, 1, none⟩ = some (.int .i64 a0_1) := (blk_cell BK255.out 1).trans rfl
      have hcz15_2 : w6.cell? ⟨gb255, 2, none⟩ = some (.slice A0_2 l0_2.length c0_2) := (blk_cell BK255.out 2).trans rfl
      have hcz15_3 : w6.cell? ⟨gb255, 3, none⟩ = some (.int .i64 a0_3) := (blk_cell BK255.out 3).trans rfl
      have hfz15_0 := blk_frozen BK255.out 0
      have hfz15_1 := blk_frozen BK255.out 1
      have hfz15_2 := blk_frozen BK255.out 2
      have hfz15_3 := blk_frozen BK255.out 3
      go_wp2_with (first | ((with_reducible refine gate_callee (f := 133) rfl ?_); refine goesL_ (some 11) rfl rfl Try.func133 (by kernel_rfl) rfl #[.int .i64 a0_0, .int .i64 1000000000] rfl (by (try simp only [List.map_toArray, List.map_cons, List.map_nil]); first | done | rfl | (simp only [List.length_drop, List.length_take]; rfl)) ?_; (with_reducible refine (series_beyond.calls a0_0 1000000000 false _ A8.out).mono ?_); rintro e w' ⟨rfl, ⟨nd, rfl⟩⟩; refine ⟨_, rfl, ?_⟩) | (go_at_call 133; (with_reducible refine (series_beyond.calls a0_1 4000000000000000 false _ A11.out).mono ?_); rintro e w' ⟨rfl, ⟨nd, rfl⟩⟩))
      go_meet
      case rel => exact ⟨_, (true), (by first | rfl | (simp; done) | (simp [*]; done)), H', ⟨by first | omega | exact Nat.le_refl _⟩, ⟨kk_ BK255⟩, (be_ HB)⟩
     ·rw [if_neg c14] at H
      have c14b0 : decide (a0_3 < 0) = false := decide_eq_false c14
      clear c14
      (first | rw [c14b0] | (simp only [i64_w, i32_w]; rw [c14b0]) | skip)
      have H' := Aside0.mk H
      clear H
      have hcz16_0 : w6.cell? ⟨gb255, 0, none⟩ = some (.int .i64 a0_0) := (blk_cell BK255.out 0).trans rfl
      have hcz16_1 : w6.cell? ⟨gb255, 1, none⟩ = some (.int .i64 a0_1) := (blk_cell BK255.out 1).trans rfl
      have hcz16_2 : w6.cell? ⟨gb255, 2, none⟩ = some (.slice A0_2 l0_2.length c0_2) := (blk_cell BK255.out 2).trans rfl
      have hcz16_3 : w6.cell? ⟨gb255, 3, none⟩ = some (.int .i64 a0_3) := (blk_cell BK255.out 3).trans rfl
      have hfz16_0 := blk_frozen BK255.out 0
      have hfz16_1 := blk_frozen BK255.out 1
      have hfz16_2 := blk_frozen BK255.out 2
      have hfz16_3 := blk_frozen BK255.out 3
      go_wp2_with (first | ((with_reducible refine gate_callee (f := 133) rfl ?_); refine goesL_ (some 11) rfl rfl Try.func133 (by kernel_rfl) rfl #[.int .i64 a0_0, .int .i64 1000000000] rfl (by (try simp only [List.map_toArray, List.map_cons, List.map_nil]); first | done | rfl | (simp only [List.length_drop, List.length_take]; rfl)) ?_; (with_reducible refine (series_beyond.calls a0_0 1000000000 false _ A8.out).mono ?_); rintro e w' ⟨rfl, ⟨nd, rfl⟩⟩; refine ⟨_, rfl, ?_⟩) | (go_at_call 133; (with_reducible refine (series_beyond.calls a0_1 4000000000000000 false _ A11.out).mono ?_); rintro e w' ⟨rfl, ⟨nd, rfl⟩⟩))
      go_meet
      case rel => exact ⟨_, (decide (a0_3 > 100000000)), (by first | rfl | (simp; done) | (simp [*]; done)), H', ⟨by first | omega | exact Nat.le_refl _⟩, ⟨kk_ BK255⟩, (be_ HB)⟩
  case rest =>
   clear HC5
   try clear c1
   try clear c2
   try clear c2b0
   try clear c2b1
   try clear p2
   try clear c9
   try clear c12
   try clear c13
   try clear c14
   try clear c14b0
   try clear hcz10_0
   try clear hcz10_1
   try clear hcz10_2
   try clear hcz10_3
   try clear hcz13_0
   try clear hcz13_1
   try clear hcz13_2
   try clear hcz13_3
   try clear hcz15_0
   try clear hcz15_1
   try clear hcz15_2
   try clear hcz15_3
   try clear hcz16_0
   try clear hcz16_1
   try clear hcz16_2
   try clear hcz16_3
   try clear hcz4_0
   try clear hcz4_1
   try clear hcz4_2
   try clear hcz4_3
   try clear hcz7_0
   try clear hcz7_1
   try clear hcz7_2
   try clear hcz7_3
   try clear hfz10_0
   try clear hfz10_1
   try clear hfz10_2
   try clear hfz10_3
   try clear hfz13_0
   try clear hfz13_1
   try clear hfz13_2
   try clear hfz13_3
   try clear hfz15_0
   try clear hfz15_1
   try clear hfz15_2
   try clear hfz15_3
   try clear hfz16_0
   try clear hfz16_1
   try clear hfz16_2
   try clear hfz16_3
   try clear hfz4_0
   try clear hfz4_1
   try clear hfz4_2
   try clear hfz4_3
   try clear hfz7_0
   try clear hfz7_1
   try clear hfz7_2
   try clear hfz7_3
   obtain ⟨kq, x26_4, rfl, HA, HJ4, BK255, HB⟩ := hcut
   cases kq with
   | zero => exact absurd HA.out (by simp [series_Check.j0])
   | succ kj4 =>
    have H := HA.out
    clear HA
    simp only [series_Check.j0] at H
    by_cases c17 : x26_4 = true
    ·subst c17
     have H1 : (some 3) = some r := by rw [if_pos rfl] at H; exact H
     clear H
     have H := H1
     clear H1
     obtain rfl := Option.some.inj H
     simp only [Option.some.injEq, Prod.mk.injEq] at H
     obtain ⟨rfl⟩ := H
     go_wp2
     go_ret
     exact ⟨by first | rfl | (simp [errW_none, errW_some] <;> rfl) | (simp [*, errW_none, errW_some] <;> rfl), (be_ HB).out⟩
    ·replace c17 := Bool.eq_false_iff.mpr c17
     subst c17
     have H1 : (series_Check.l0 kj4 l0_2 (l0_2.length : Int) 0) = some r := by rw [if_neg (show ¬ (false = true) by decide)] at H; exact H
     clear H
     have H := H1
     clear H1
     have H' := Aside0.mk H
     clear H
     have hcz18_0 : wc.cell? ⟨gb255, 0, none⟩ = some (.int .i64 a0_0) := (blk_cell BK255.out 0).trans rfl
     have hcz18_1 : wc.cell? ⟨gb255, 1, none⟩ = some (.int .i64 a0_1) := (blk_cell BK255.out 1).trans rfl
     have hcz18_2 : wc.cell? ⟨gb255, 2, none⟩ = some (.slice A0_2 l0_2.length c0_2) := (blk_cell BK255.out 2).trans rfl
     have hcz18_3 : wc.cell? ⟨gb255, 3, none⟩ = some (.int .i64 a0_3) := (blk_cell BK255.out 3).trans rfl
     have hfz18_0 := blk_frozen BK255.out 0
     have hfz18_1 := blk_frozen BK255.out 1
     have hfz18_2 := blk_frozen BK255.out 2
     have hfz18_3 := blk_frozen BK255.out 3
     go_wp2
     go_loopg [30] kj4 (fun kq v30 w' => ∃ (x30_2 : Int), v30 = .int .i64 x30_2 ∧ Aside0 (series_Check.l0 kq l0_2 (l0_2.length : Int) x30_2 = some r) ∧ Aside0 (kq ≤ kj4) ∧ Aside0 (w'.heap[gb255]? = some (.cells #[.int .i64 a0_0, .int .i64 a0_1, (.slice A0_2 l0_2.length c0_2), .int .i64 a0_3] 82 (0, 0))) ∧ Aside0 (Below w.heap.size w w'))
     case atStart => exact ⟨(0), (by first | rfl | (simp; done) | (simp [*]; done)), H', ⟨Nat.le_refl _⟩, ⟨kk_ BK255⟩, (be_ HB)⟩
     case round =>
      clear H'
      try clear c1
      try clear c2
      try clear c2b0
      try clear c2b1
      try clear p2
      try clear c9
      try clear c12
      try clear c13
      try clear c14
      try clear c14b0
      try clear c17
      try clear hcz10_0
      try clear hcz10_1
      try clear hcz10_2
      try clear hcz10_3
      try clear hcz13_0
      try clear hcz13_1
      try clear hcz13_2
      try clear hcz13_3
      try clear hcz15_0
      try clear hcz15_1
      try clear hcz15_2
      try clear hcz15_3
      try clear hcz16_0
      try clear hcz16_1
      try clear hcz16_2
      try clear hcz16_3
      try clear hcz18_0
      try clear hcz18_1
      try clear hcz18_2
      try clear hcz18_3
      try clear hcz4_0
      try clear hcz4_1
      try clear hcz4_2
      try clear hcz4_3
      try clear hcz7_0
      try clear hcz7_1
      try clear hcz7_2
      try clear hcz7_3
      try clear hfz10_0
      try clear hfz10_1
      try clear hfz10_2
      try clear hfz10_3
      try clear hfz13_0
      try clear hfz13_1
      try clear hfz13_2
      try clear hfz13_3
      try clear hfz15_0
      try clear hfz15_1
      try clear hfz15_2
      try clear hfz15_3
      try clear hfz16_0
      try clear hfz16_1
      try clear hfz16_2
      try clear hfz16_3
      try clear hfz18_0
      try clear hfz18_1
      try clear hfz18_2
      try clear hfz18_3
      try clear hfz4_0
      try clear hfz4_1
      try clear hfz4_2
      try clear hfz4_3
      try clear hfz7_0
      try clear hfz7_1
      try clear hfz7_2
      try clear hfz7_3
      try clear p2
      obtain ⟨x30_2, rfl, HA, HK2, BK255, HB⟩ := hrel
      cases gk with
      | zero => exact absurd HA.out (by simp [series_Check.l0])
      | succ k2 =>
       have H := HA.out
       clear HA
       simp only [series_Check.l0] at H
       by_cases c19 : x30_2 < (l0_2.length : Int)
       ·rw [if_pos c19] at H
        have c19b0 : decide (x30_2 < (l0_2.length : Int)) = true := decide_eq_true c19
        clear c19
        by_cases c20 : 0 ≤ x30_2
        ·rw [if_pos c20] at H
         have c20b0 : decide (0 ≤ x30_2) = true := decide_eq_true c20
         clear c20
         by_cases c21 : x30_2 < (l0_2.length : Int)
         ·rw [if_pos c21] at H
          have c21b0 : decide (x30_2 < (l0_2.length : Int)) = true := decide_eq_true c21
          clear c21
          replace H := Option.bind_eq_some_iff.mp H
          obtain ⟨t260, A220, H⟩ := H
          replace H : (if t260 = true then (some 3) else (if ((rd_T94 l0_2 x30_2).f1) < 0 then (some 3) else (if ((rd_T94 l0_2 x30_2).f1) ≥ 1000000000 then (some 3) else ((series_beyond.f ((rd_T94 l0_2 x30_2).f2) 4000000000000000).bind fun t261 => (if t261 = true then (some 3) else (series_Check.l0 k2 l0_2 (l0_2.length : Int) (wrap64 (x30_2 + 1)))))))) = some r := H
          have A22 := Aside0.mk A220
          clear A220
          by_cases c23 : t260 = true
          ·subst c23
           have H1 : (some 3) = some r := by rw [if_pos rfl] at H; exact H
           clear H
           have H := H1
           clear H1
           obtain rfl := Option.some.inj H
           simp only [Option.some.injEq, Prod.mk.injEq] at H
           obtain ⟨rfl⟩ := H
           have p258 : 0 ≤ (x30_2 : Int) := of_decide_eq_true (by first | (with_reducible assumption) | assumption)
           have q258 : x30_2 < (l0_2.length : Int) := of_decide_eq_true (by first | (with_reducible assumption) | assumption)
           obtain ⟨ad258, e258, hx258_0, hx258_1, hx258_2⟩ := at_T94 HR0_2.out x30_2 p258 q258
           cases e258
           replace hx258_0 := (HB.out.cell (World.block_lt_of_cell? w _ hx258_0)).trans hx258_0
           replace hx258_1 := (HB.out.cell (World.block_lt_of_cell? w _ hx258_1)).trans hx258_1
           replace hx258_2 := (HB.out.cell (World.block_lt_of_cell? w _ hx258_2)).trans hx258_2
           replace p258 := eq_true p258
           replace q258 := eq_true q258
           go_wp2_with (first | ((with_reducible refine gate_dst (N := 4) rfl ?_); refine box_event ?hg (N := 4) ?hd (cs := #[.int .i64 0, .int .i64 0, .int .i64 0]) (t := 94) ?hr ?_; (case hd => rfl); (case hg => rfl); (case hr => first | (go_simp; done) | (go_simp; rfl)); intro gb259 hg w24 hbox hb; have BK259 := Aside0.mk (hbox); have GW259 := ge_ hg HB; have GE259 := ge_ hg HB; have NB255_259 := nl_ hg BK255; have NB259_255 := ng_ hg BK255; replace BK255 := kb_ BK255 hb; replace HB := bs_ HB hb; clear hb hbox hg; have hnb25 := NB259_255.out; have hnc25 := NB255_259.out; have hcz26_0 : w24.cell? ⟨gb259, 0, none⟩ = some (.int .i64 0) := (blk_cell BK259.out 0).trans rfl; have hcz26_1 : w24.cell? ⟨gb259, 1, none⟩ = some (.int .i64 0) := (blk_cell BK259.out 1).trans rfl; have hcz26_2 : w24.cell? ⟨gb259, 2, none⟩ = some (.int .i64 0) := (blk_cell BK259.out 2).trans rfl; have hfz26_0 := blk_frozen BK259.out 0; have hfz26_1 := blk_frozen BK259.out 1; have hfz26_2 := blk_frozen BK259.out 2) | ((with_reducible refine gate_callee (f := 133) rfl ?_); refine goesL_ (some 36) rfl rfl Try.func133 (by kernel_rfl) rfl #[.int .i64 ((rd_T94 l0_2 x30_2).f0), .int .i64 1000000000] rfl (by (try simp only [List.map_toArray, List.map_cons, List.map_nil]); first | done | rfl | (simp only [List.length_drop, List.length_take]; rfl)) ?_; (with_reducible refine (series_beyond.calls ((rd_T94 l0_2 x30_2).f0) 1000000000 true _ A22.out).mono ?_); rintro e w' ⟨rfl, ⟨nd, rfl⟩⟩; refine ⟨_, rfl, ?_⟩))
           go_ret
           exact ⟨by first | rfl | (simp [errW_none, errW_some] <;> rfl) | (simp [*, errW_none, errW_some] <;> rfl), (be_ HB).out⟩
          ·replace c23 := Bool.eq_false_iff.mpr c23
           subst c23
           have H1 : (if ((rd_T94 l0_2 x30_2).f1) < 0 then (some 3) else (if ((rd_T94 l0_2 x30_2).f1) ≥ 1000000000 then (some 3) else ((series_beyond.f ((rd_T94 l0_2 x30_2).f2) 4000000000000000).bind fun t261 => (if t261 = true then (some 3) else (series_Check.l0 k2 l0_2 (l0_2.length : Int) (wrap64 (x30_2 + 1))))))) = some r := by rw [if_neg (show ¬ (false = true) by decide)] at H; exact H
           clear H
           have H := H1
           clear H1
           by_cases c27 : ((rd_T94 l0_2 x30_2).f1) < 0
           ·rw [if_pos c27] at H
            have c27b0 : decide (((rd_T94 l0_2 x30_2).f1) < 0) = true := decide_eq_true c27
            clear c27
            obtain rfl := Option.some.inj H
            simp only [Option.some.injEq, Prod.mk.injEq] at H
            obtain ⟨rfl⟩ := H
            have p258 : 0 ≤ (x30_2 : Int) := of_decide_eq_true (by first | (with_reducible assumption) | assumption)
            have q258 : x30_2 < (l0_2.length : Int) := of_decide_eq_true (by first | (with_reducible assumption) | assumption)
            obtain ⟨ad258, e258, hx258_0, hx258_1, hx258_2⟩ := at_T94 HR0_2.out x30_2 p258 q258
            cases e258
            replace hx258_0 := (HB.out.cell (World.block_lt_of_cell? w _ hx258_0)).trans hx258_0
            replace hx258_1 := (HB.out.cell (World.block_lt_of_cell? w _ hx258_1)).trans hx258_1
            replace hx258_2 := (HB.out.cell (World.block_lt_of_cell? w _ hx258_2)).trans hx258_2
            replace p258 := eq_true p258
            replace q258 := eq_true q258
            go_wp2_with (first | ((with_reducible refine gate_dst (N := 4) rfl ?_); refine box_event ?hg (N := 4) ?hd (cs := #[.int .i64 0, .int .i64 0, .int .i64 0]) (t := 94) ?hr ?_; (case hd => rfl); (case hg => rfl); (case hr => first | (go_simp; done) | (go_simp; rfl)); intro gb259 hg w28 hbox hb; have BK259 := Aside0.mk (hbox); have GW259 := ge_ hg HB; have GE259 := ge_ hg HB; have NB255_259 := nl_ hg BK255; have NB259_255 := ng_ hg BK255; replace BK255 := kb_ BK255 hb; replace HB := bs_ HB hb; clear hb hbox hg; have hnb29 := NB259_255.out; have hnc29 := NB255_259.out; have hcz30_0 : w28.cell? ⟨gb259, 0, none⟩ = some (.int .i64 0) := (blk_cell BK259.out 0).trans rfl; have hcz30_1 : w28.cell? ⟨gb259, 1, none⟩ = some (.int .i64 0) := (blk_cell BK259.out 1).trans rfl; have hcz30_2 : w28.cell? ⟨gb259, 2, none⟩ = some (.int .i64 0) := (blk_cell BK259.out 2).trans rfl; have hfz30_0 := blk_frozen BK259.out 0; have hfz30_1 := blk_frozen BK259.out 1; have hfz30_2 := blk_frozen BK259.out 2) | ((with_reducible refine gate_callee (f := 133) rfl ?_); refine goesL_ (some 36) rfl rfl Try.func133 (by kernel_rfl) rfl #[.int .i64 ((rd_T94 l0_2 x30_2).f0), .int .i64 1000000000] rfl (by (try simp only [List.map_toArray, List.map_cons, List.map_nil]); first | done | rfl | (simp only [List.length_drop, List.length_take]; rfl)) ?_; (with_reducible refine (series_beyond.calls ((rd_T94 l0_2 x30_2).f0) 1000000000 false _ A22.out).mono ?_); rintro e w' ⟨rfl, ⟨nd, rfl⟩⟩; refine ⟨_, rfl, ?_⟩))
            go_ret
            exact ⟨by first | rfl | (simp [errW_none, errW_some] <;> rfl) | (simp [*, errW_none, errW_some] <;> rfl), (be_ HB).out⟩
           ·rw [if_neg c27] at H
            have c27b0 : decide (((rd_T94 l0_2 x30_2).f1) < 0) = false := decide_eq_false c27
            clear c27
            by_cases c31 : ((rd_T94 l0_2 x30_2).f1) ≥ 1000000000
            ·rw [if_pos c31] at H
             have c31b0 : decide (1000000000 ≤ ((rd_T94 l0_2 x30_2).f1)) = true := decide_eq_true c31
             clear c31
             obtain rfl := Option.some.inj H
             simp only [Option.some.injEq, Prod.mk.injEq] at H
             obtain ⟨rfl⟩ := H
             have p258 : 0 ≤ (x30_2 : Int) := of_decide_eq_true (by first | (with_reducible assumption) | assumption)
             have q258 : x30_2 < (l0_2.length : Int) := of_decide_eq_true (by first | (with_reducible assumption) | assumption)
             obtain ⟨ad258, e258, hx258_0, hx258_1, hx258_2⟩ := at_T94 HR0_2.out x30_2 p258 q258
             cases e258
             replace hx258_0 := (HB.out.cell (World.block_lt_of_cell? w _ hx258_0)).trans hx258_0
             replace hx258_1 := (HB.out.cell (World.block_lt_of_cell? w _ hx258_1)).trans hx258_1
             replace hx258_2 := (HB.out.cell (World.block_lt_of_cell? w _ hx258_2)).trans hx258_2
             replace p258 := eq_true p258
             replace q258 := eq_true q258
             go_wp2_with (first | ((with_reducible refine gate_dst (N := 4) rfl ?_); refine box_event ?hg (N := 4) ?hd (cs := #[.int .i64 0, .int .i64 0, .int .i64 0]) (t := 94) ?hr ?_; (case hd => rfl); (case hg => rfl); (case hr => first | (go_simp; done) | (go_simp; rfl)); intro gb259 hg w32 hbox hb; have BK259 := Aside0.mk (hbox); have GW259 := ge_ hg HB; have GE259 := ge_ hg HB; have NB255_259 := nl_ hg BK255; have NB259_255 := ng_ hg BK255; replace BK255 := kb_ BK255 hb; replace HB := bs_ HB hb; clear hb hbox hg; have hnb33 := NB259_255.out; have hnc33 := NB255_259.out; have hcz34_0 : w32.cell? ⟨gb259, 0, none⟩ = some (.int .i64 0) := (blk_cell BK259.out 0).trans rfl; have hcz34_1 : w32.cell? ⟨gb259, 1, none⟩ = some (.int .i64 0) := (blk_cell BK259.out 1).trans rfl; have hcz34_2 : w32.cell? ⟨gb259, 2, none⟩ = some (.int .i64 0) := (blk_cell BK259.out 2).trans rfl; have hfz34_0 := blk_frozen BK259.out 0; have hfz34_1 := blk_frozen BK259.out 1; have hfz34_2 := blk_frozen BK259.out 2) | ((with_reducible refine gate_callee (f := 133) rfl ?_); refine goesL_ (some 36) rfl rfl Try.func133 (by kernel_rfl) rfl #[.int .i64 ((rd_T94 l0_2 x30_2).f0), .int .i64 1000000000] rfl (by (try simp only [List.map_toArray, List.map_cons, List.map_nil]); first | done | rfl | (simp only [List.length_drop, List.length_take]; rfl)) ?_; (with_reducible refine (series_beyond.calls ((rd_T94 l0_2 x30_2).f0) 1000000000 false _ A22.out).mono ?_); rintro e w' ⟨rfl, ⟨nd, rfl⟩⟩; refine ⟨_, rfl, ?_⟩))
             go_ret
             exact ⟨by first | rfl | (simp [errW_none, errW_some] <;> rfl) | (simp [*, errW_none, errW_some] <;> rfl), (be_ HB).out⟩
            ·rw [if_neg c31] at H
             have c31b0 : decide (1000000000 ≤ ((rd_T94 l0_2 x30_2).f1)) = false := decide_eq_false c31
             clear c31
             replace H := Option.bind_eq_some_iff.mp H
             obtain ⟨t261, A350, H⟩ := H
             replace H : (if t261 = true then (some 3) else (series_Check.l0 k2 l0_2 (l0_2.length : Int) (wrap64 (x30_2 + 1)))) = some r := H
             have A35 := Aside0.mk A350
             clear A350
             by_cases c36 : t261 = true
             ·subst c36
              have H1 : (some 3) = some r := by rw [if_pos rfl] at H; exact H
              clear H
              have H := H1
              clear H1
              obtain rfl := Option.some.inj H
              simp only [Option.some.injEq, Prod.mk.injEq] at H
              obtain ⟨rfl⟩ := H
              have p258 : 0 ≤ (x30_2 : Int) := of_decide_eq_true (by first | (with_reducible assumption) | assumption)
              have q258 : x30_2 < (l0_2.length : Int) := of_decide_eq_true (by first | (with_reducible assumption) | assumption)
              obtain ⟨ad258, e258, hx258_0, hx258_1, hx258_2⟩ := at_T94 HR0_2.out x30_2 p258 q258
              cases e258
              replace hx258_0 := (HB.out.cell (World.block_lt_of_cell? w _ hx258_0)).trans hx258_0
              replace hx258_1 := (HB.out.cell (World.block_lt_of_cell? w _ hx258_1)).trans hx258_1
              replace hx258_2 := (HB.out.cell (World.block_lt_of_cell? w _ hx258_2)).trans hx258_2
              replace p258 := eq_true p258
              replace q258 := eq_true q258
              go_wp2_with (first | ((with_reducible refine gate_dst (N := 4) rfl ?_); refine box_event ?hg (N := 4) ?hd (cs := #[.int .i64 0, .int .i64 0, .int .i64 0]) (t := 94) ?hr ?_; (case hd => rfl); (case hg => rfl); (case hr => first | (go_simp; done) | (go_simp; rfl)); intro gb259 hg w37 hbox hb; have BK259 := Aside0.mk (hbox); have GW259 := ge_ hg HB; have GE259 := ge_ hg HB; have NB255_259 := nl_ hg BK255; have NB259_255 := ng_ hg BK255; replace BK255 := kb_ BK255 hb; replace HB := bs_ HB hb; clear hb hbox hg; have hnb38 := NB259_255.out; have hnc38 := NB255_259.out; have hcz39_0 : w37.cell? ⟨gb259, 0, none⟩ = some (.int .i64 0) := (blk_cell BK259.out 0).trans rfl; have hcz39_1 : w37.cell? ⟨gb259, 1, none⟩ = some (.int .i64 0) := (blk_cell BK259.out 1).trans rfl; have hcz39_2 : w37.cell? ⟨gb259, 2, none⟩ = some (.int .i64 0) := (blk_cell BK259.out 2).trans rfl; have hfz39_0 := blk_frozen BK259.out 0; have hfz39_1 := blk_frozen BK259.out 1; have hfz39_2 := blk_frozen BK259.out 2) | ((with_reducible refine gate_callee (f := 133) rfl ?_); refine goesL_ (some 36) rfl rfl Try.func133 (by kernel_rfl) rfl #[.int .i64 ((rd_T94 l0_2 x30_2).f0), .int .i64 1000000000] rfl (by (try simp only [List.map_toArray, List.map_cons, List.map_nil]); first | done | rfl | (simp only [List.length_drop, List.length_take]; rfl)) ?_; (with_reducible refine (series_beyond.calls ((rd_T94 l0_2 x30_2).f0) 1000000000 false _ A22.out).mono ?_); rintro e w' ⟨rfl, ⟨nd, rfl⟩⟩; refine ⟨_, rfl, ?_⟩) | (go_at_call 133; (with_reducible refine (series_beyond.calls ((rd_T94 l0_2 x30_2).f2) 4000000000000000 true _ A35.out).mono ?_); rintro e w' ⟨rfl, ⟨nd, rfl⟩⟩))
              go_ret
              exact ⟨by first | rfl | (simp [errW_none, errW_some] <;> rfl) | (simp [*, errW_none, errW_some] <;> rfl), (be_ HB).out⟩
             ·replace c36 := Bool.eq_false_iff.mpr c36
              subst c36
              have H1 : (series_Check.l0 k2 l0_2 (l0_2.length : Int) (wrap64 (x30_2 + 1))) = some r := by rw [if_neg (show ¬ (false = true) by decide)] at H; exact H
              clear H
              have H := H1
              clear H1
              have H' := Aside0.mk H
              clear H
              have p258 : 0 ≤ (x30_2 : Int) := of_decide_eq_true (by first | (with_reducible assumption) | assumption)
              have q258 : x30_2 < (l0_2.length : Int) := of_decide_eq_true (by first | (with_reducible assumption) | assumption)
              obtain ⟨ad258, e258, hx258_0, hx258_1, hx258_2⟩ := at_T94 HR0_2.out x30_2 p258 q258
              cases e258
              replace hx258_0 := (HB.out.cell (World.block_lt_of_cell? w _ hx258_0)).trans hx258_0
              replace hx258_1 := (HB.out.cell (World.block_lt_of_cell? w _ hx258_1)).trans hx258_1
              replace hx258_2 := (HB.out.cell (World.block_lt_of_cell? w _ hx258_2)).trans hx258_2
              replace p258 := eq_true p258
              replace q258 := eq_true q258
              go_wp2_with (first | ((with_reducible refine gate_dst (N := 4) rfl ?_); refine box_event ?hg (N := 4) ?hd (cs := #[.int .i64 0, .int .i64 0, .int .i64 0]) (t := 94) ?hr ?_; (case hd => rfl); (case hg => rfl); (case hr => first | (go_simp; done) | (go_simp; rfl)); intro gb259 hg w40 hbox hb; have BK259 := Aside0.mk (hbox); have GW259 := ge_ hg HB; have GE259 := ge_ hg HB; have NB255_259 := nl_ hg BK255; have NB259_255 := ng_ hg BK255; replace BK255 := kb_ BK255 hb; replace HB := bs_ HB hb; clear hb hbox hg; have hnb41 := NB259_255.out; have hnc41 := NB255_259.out; have hcz42_0 : w40.cell? ⟨gb259, 0, none⟩ = some (.int .i64 0) := (blk_cell BK259.out 0).trans rfl; have hcz42_1 : w40.cell? ⟨gb259, 1, none⟩ = some (.int .i64 0) := (blk_cell BK259.out 1).trans rfl; have hcz42_2 : w40.cell? ⟨gb259, 2, none⟩ = some (.int .i64 0) := (blk_cell BK259.out 2).trans rfl; have hfz42_0 := blk_frozen BK259.out 0; have hfz42_1 := blk_frozen BK259.out 1; have hfz42_2 := blk_frozen BK259.out 2) | ((with_reducible refine gate_callee (f := 133) rfl ?_); refine goesL_ (some 36) rfl rfl Try.func133 (by kernel_rfl) rfl #[.int .i64 ((rd_T94 l0_2 x30_2).f0), .int .i64 1000000000] rfl (by (try simp only [List.map_toArray, List.map_cons, List.map_nil]); first | done | rfl | (simp only [List.length_drop, List.length_take]; rfl)) ?_; (with_reducible refine (series_beyond.calls ((rd_T94 l0_2 x30_2).f0) 1000000000 false _ A22.out).mono ?_); rintro e w' ⟨rfl, ⟨nd, rfl⟩⟩; refine ⟨_, rfl, ?_⟩) | (go_at_call 133; (with_reducible refine (series_beyond.calls ((rd_T94 l0_2 x30_2).f2) 4000000000000000 false _ A35.out).mono ?_); rintro e w' ⟨rfl, ⟨nd, rfl⟩⟩))
              go_roundg k2
              case measure => have := HJ4.out; have := HK2.out; omega
              case rel => exact ⟨(wrap64 (x30_2 + 1)), (by first | rfl | (simp; done) | (simp [*]; done)), H', ⟨by have := HJ4.out; have := HK2.out; omega⟩, ⟨kk_ BK255⟩, (be_ HB)⟩
         ·rw [if_neg c21] at H
          exact absurd H (by simp)
        ·rw [if_neg c20] at H
         exact absurd H (by simp)
       ·rw [if_neg c19] at H
        have c19b0 : decide (x30_2 < (l0_2.length : Int)) = false := decide_eq_false c19
        clear c19
        obtain rfl := Option.some.inj H
        simp only [Option.some.injEq, Prod.mk.injEq] at H
        obtain ⟨rfl⟩ := H
        go_wp2
        go_ret
        exact ⟨by first | rfl | (simp [errW_none, errW_some] <;> rfl) | (simp [*, errW_none, errW_some] <;> rfl), (be_ HB).out⟩
end Go.Proofs.Ytedakilpogagiaa.PAll
end
