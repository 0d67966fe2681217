/- Written by a program of this session: what one law needs. -/
import Derived.Test.YtelcegpaakbppaaAstrolabeStarsn7
import Derived.Test.YtelcegpaakbppaaAstrolabeStarsn11
import Derived.Test.YtelcegpaakbppaaAstrolabeStarsn12
import Derived.Test.YtelcegpaakbppaaAstrolabeStarsn6
import Derived.Test.YtelcegpaakbppaaChecked
import Derived.Test.YtelcegpaakbppaaAstrolabeStarsn0
import Derived.Test.YtelcegpaakbppaaAstrolabeStarsn2
section
namespace Go.Proofs.Ytelcegpaakbppaa.PAll
open Go Go.RowKit Go.Proofs.YtelcegpaakbppaaW.PrintWords Go.Proofs.Ytelcegpaakbppaa.Sx
set_option linter.unusedVariables false
set_option linter.unusedSimpArgs false
set_option maxRecDepth 100000
def astrolabe_Star.f (k : Nat) (a0 : Int) (a1 : Int) : Option (Int × Int × Int × Int × Int) :=
  ob (astrolabe_Ring.f k a1) fun t1 =>
  oif ((t1.snd.snd != 0) = true) (
   some (0, 0, 0, 0, t1.snd.snd)) (
   oif (decide (a0 < 0) = true) (
    some (0, 0, 0, 0, 1)) (
    oif (decide (a0 ≥ 1000000000) = true) (
     some (0, 0, 0, 0, 1)) (
     ob (trig_Sin.f k a0) fun t2 =>
     ob (trig_Cos.f k a0) fun t3 =>
     ob (interval_Mul.f k t1.fst t1.snd.fst t3.fst t3.snd.fst) fun t4 =>
     ob (interval_Mul.f k t1.fst t1.snd.fst t2.fst t2.snd.fst) fun t5 =>
     ob (interval_Scale.f k t4.fst t4.snd.fst 1 1000000000) fun t6 =>
     ob (interval_Scale.f k t5.fst t5.snd.fst 1 1000000000) fun t7 =>
     some (t6.fst, t6.snd.fst, t7.fst, t7.snd.fst, 0))))
def astrolabe_Star.OQ {R : Type} (k : Nat) : OraQ R := fun g args K => match g with
  | 17 => (match args with | [.int .i64 a0] => (trig_Sin.f k a0).bind fun q => K (.tuple ⟨[.agg ⟨[.int .i64 q.1, .int .i64 q.2.1]⟩, .int .i64 q.2.2]⟩) | _ => none)
  | 18 => (match args with | [.int .i64 a0] => (trig_Cos.f k a0).bind fun q => K (.tuple ⟨[.agg ⟨[.int .i64 q.1, .int .i64 q.2.1]⟩, .int .i64 q.2.2]⟩) | _ => none)
  | 36 => (match args with | [.int .i64 a0] => (astrolabe_Ring.f k a0).bind fun q => K (.tuple ⟨[.agg ⟨[.int .i64 q.1, .int .i64 q.2.1]⟩, .int .i64 q.2.2]⟩) | _ => none)
  | 73 => (match args with | [.agg ⟨[.int .i64 a0_0, .int .i64 a0_1]⟩, .agg ⟨[.int .i64 a1_0, .int .i64 a1_1]⟩] => (interval_Mul.f k a0_0 a0_1 a1_0 a1_1).bind fun q => K (.tuple ⟨[.agg ⟨[.int .i64 q.1, .int .i64 q.2.1]⟩, .int .i64 q.2.2]⟩) | _ => none)
  | 74 => (match args with | [.agg ⟨[.int .i64 a0_0, .int .i64 a0_1]⟩, .int .i64 a1, .int .i64 a2] => (interval_Scale.f k a0_0 a0_1 a1 a2).bind fun q => K (.tuple ⟨[.agg ⟨[.int .i64 q.1, .int .i64 q.2.1]⟩, .int .i64 q.2.2]⟩) | _ => none)
  | _ => none
theorem astrolabe_Star.OQ_ok (k : Nat) (Φ : World → Prop) (base : Nat) {R : Type} : OraQOk Try.prog (fun _ => undef) Φ base (astrolabe_Star.OQ (R := R) k) := by
  intro g args K r h
  unfold astrolabe_Star.OQ at h
  split at h
  · split at h
    · obtain ⟨q, hq, h⟩ := Option.bind_eq_some_iff.mp h
      exact ⟨_, h, callQ_of rfl rfl fun w => (trig_Sin.calls k _ _ _ _ w hq).mono fun e w' he => ⟨he.1, he.2⟩⟩
    · cases h
  · split at h
    · obtain ⟨q, hq, h⟩ := Option.bind_eq_some_iff.mp h
      exact ⟨_, h, callQ_of rfl rfl fun w => (trig_Cos.calls k _ _ _ _ w hq).mono fun e w' he => ⟨he.1, he.2⟩⟩
    · cases h
  · split at h
    · obtain ⟨q, hq, h⟩ := Option.bind_eq_some_iff.mp h
      exact ⟨_, h, callQ_of rfl rfl fun w => (astrolabe_Ring.calls k _ _ _ _ w hq).mono fun e w' he => ⟨he.1, he.2⟩⟩
    · cases h
  · split at h
    · obtain ⟨q, hq, h⟩ := Option.bind_eq_some_iff.mp h
      exact ⟨_, h, callQ_of rfl rfl fun w => (interval_Mul.calls k _ _ _ _ _ _ _ w hq).mono fun e w' he => ⟨he.1, he.2⟩⟩
    · cases h
  · split at h
    · obtain ⟨q, hq, h⟩ := Option.bind_eq_some_iff.mp h
      exact ⟨_, h, callQ_of rfl rfl fun w => (interval_Scale.calls k _ _ _ _ _ _ _ w hq).mono fun e w' he => ⟨he.1, he.2⟩⟩
    · cases h
  · cases h
def astrolabe_Star.F (v : Value) (_ : Mem) : Option (Int × Int × Int × Int × Int) := match v with | .tuple ⟨[.agg ⟨[.int .i64 r1, .int .i64 r2]⟩, .agg ⟨[.int .i64 r3, .int .i64 r4]⟩, .int .i64 r5]⟩ => some (r1, r2, r3, r4, r5) | _ => none
theorem astrolabe_Star.run (k : Nat) (a0 : Int) (a1 : Int) : runM Try.prog (liftQ (astrolabe_Star.OQ k)) (drawQ Try.prog (astrolabe_Star.OQ k)) (fun _ => none) (atEnd Try.prog Try.f39 astrolabe_Star.F) 5000 [.code (Try.f39.body.getD .skip)] ([.int .i64 a0, .int .i64 a1] ++ List.replicate (Try.f39.ntmps - ([.int .i64 a0, .int .i64 a1] : List Value).length) undef) [] = astrolabe_Star.f k a0 a1 := by kernel_rfl
theorem astrolabe_Star.calls (k : Nat) (a0 : Int) (a1 : Int) (r1 : Int) (r2 : Int) (r3 : Int) (r4 : Int) (r5 : Int) (w : World) (h : astrolabe_Star.f k a0 a1 = some (r1, r2, r3, r4, r5)) :
    Calls Try.prog 39 #[.int .i64 a0, .int .i64 a1] w fun e w' => e = .returned (.tuple #[.agg #[.int .i64 r1, .int .i64 r2], .agg #[.int .i64 r3, .int .i64 r4], .int .i64 r5]) ∧ Below w.heap.size w w' := by
  refine calls_closed (OQ := astrolabe_Star.OQ k) (LF := fun _ => none) (F := astrolabe_Star.F) (r := (r1, r2, r3, r4, r5)) (Checked.mixed Try.checked) (fun Φ base _ => astrolabe_Star.OQ_ok k Φ base) (LS := fun _ => True) (fun Φ base _ c _ live len f e => by cases e) Try.func39 rfl (fun _ _ => trivial) rfl (fun u m hu => ?_) rfl (((astrolabe_Star.run k a0 a1).trans h)) w
  unfold astrolabe_Star.F at hu
  split at hu
  · cases hu; rfl
  · cases hu
end Go.Proofs.Ytelcegpaakbppaa.PAll
end
section
namespace Go.Proofs.Ytelcegpaakbppaa.PAll
open Go Go.RowKit Go.Proofs.YtelcegpaakbppaaW.PrintWords Go.Proofs.Ytelcegpaakbppaa.Sx
set_option linter.unusedVariables false
set_option linter.unusedSimpArgs false
set_option maxRecDepth 100000
def ephemerislaw2_AstrolabeStars.f (k : Nat) (a0 : Int) (a1 : Int) : Option (Bool) :=
  ob (ephemerislaw2_astrolabeWorks.f k) fun t1 =>
  oif (t1 = true) (
   ob (astrolabe_Star.f k a0 a1) fun t2 =>
   oif (decide (a1 < -195000000) = true) (
    ob (ephemerislaw2_none.f t2.fst t2.snd.fst t2.snd.snd.snd.snd 3) fun t3 =>
    oif (t3 = true) (
     some (t2.snd.snd.fst == 0 && (t2.snd.snd.snd.fst == 0 && true))) (
     some (false))) (
    oif (decide (a1 > 250000000) = true) (
     ob (ephemerislaw2_none.f t2.fst t2.snd.fst t2.snd.snd.snd.snd 3) fun t4 =>
     oif (t4 = true) (
      some (t2.snd.snd.fst == 0 && (t2.snd.snd.snd.fst == 0 && true))) (
      some (false))) (
     oif (decide (a0 < 0) = true) (
      ob (ephemerislaw2_none.f t2.fst t2.snd.fst t2.snd.snd.snd.snd 1) fun t5 =>
      oif (t5 = true) (
       some (t2.snd.snd.fst == 0 && (t2.snd.snd.snd.fst == 0 && true))) (
       some (false))) (
      oif (decide (a0 > 999999999) = true) (
       ob (ephemerislaw2_none.f t2.fst t2.snd.fst t2.snd.snd.snd.snd 1) fun t6 =>
       oif (t6 = true) (
        some (t2.snd.snd.fst == 0 && (t2.snd.snd.snd.fst == 0 && true))) (
        some (false))) (
       ob (ephemerisref2_SinCos.f k (IntKind.i64.wrap (a1 * 1000000))) fun t7 =>
       ob (ephemerisref2_SinCos.f k (IntKind.i64.wrap (a0 * 1000000))) fun t8 =>
       oif ((t2.snd.snd.snd.snd == 0) = true) (
        ob (ephemerisref2_Mul.f t7.snd t8.snd) fun t9 =>
        ob (ephemerisref2_InRatio.f k t2.fst t2.snd.fst t9 (IntKind.i64.wrap (576460752303423488 + IntKind.i64.wrap (t7.fst.tdiv 2)))) fun t10 =>
        oif (t10 = true) (
         ob (ephemerisref2_Mul.f t7.snd t8.fst) fun t11 =>
         ob (ephemerisref2_InRatio.f k t2.snd.snd.fst t2.snd.snd.snd.fst t11 (IntKind.i64.wrap (576460752303423488 + IntKind.i64.wrap (t7.fst.tdiv 2)))) fun t12 =>
         some (t12)) (
         some (false))) (
        some (false))))))) (
   none)
def ephemerislaw2_AstrolabeStars.OQ {R : Type} (k : Nat) : OraQ R := fun g args K => match g with
  | 20 => (match args with | [.agg ⟨[.int .i64 a0_0, .int .i64 a0_1]⟩, .int .i64 a1, .int .i64 a2] => (ephemerislaw2_none.f a0_0 a0_1 a1 a2).bind fun q => K (.bool q) | _ => none)
  | 21 => (match args with | [.int .i64 a0] => (ephemerisref2_SinCos.f k a0).bind fun q => K (.tuple ⟨[.int .i64 q.1, .int .i64 q.2]⟩) | _ => none)
  | 35 => (match args with | [] => (ephemerislaw2_astrolabeWorks.f k).bind fun q => (if q = true then K (.bool true) else none) | _ => none)
  | 37 => (match args with | [.agg ⟨[.int .i64 a0_0, .int .i64 a0_1]⟩, .int .i64 a1, .int .i64 a2] => (ephemerisref2_InRatio.f k a0_0 a0_1 a1 a2).bind fun q => K (.bool q) | _ => none)
  | 39 => (match args with | [.int .i64 a0, .int .i64 a1] => (astrolabe_Star.f k a0 a1).bind fun q => K (.tuple ⟨[.agg ⟨[.int .i64 q.1, .int .i64 q.2.1]⟩, .agg ⟨[.int .i64 q.2.2.1, .int .i64 q.2.2.2.1]⟩, .int .i64 q.2.2.2.2]⟩) | _ => none)
  | 40 => (match args with | [.int .i64 a0, .int .i64 a1] => (ephemerisref2_Mul.f a0 a1).bind fun q => K (.int .i64 q) | _ => none)
  | _ => none
theorem ephemerislaw2_AstrolabeStars.OQ_ok (k : Nat) (Φ : World → Prop) (base : Nat) {R : Type} : OraQOk Try.prog (fun _ => undef) Φ base (ephemerislaw2_AstrolabeStars.OQ (R := R) k) := by
  intro g args K r h
  unfold ephemerislaw2_AstrolabeStars.OQ at h
  split at h
  · split at h
    · obtain ⟨q, hq, h⟩ := Option.bind_eq_some_iff.mp h
      exact ⟨_, h, callQ_of rfl rfl fun w => (ephemerislaw2_none.calls _ _ _ _ _ w hq).mono fun e w' he => ⟨he.1, he.2⟩⟩
    · cases h
  · split at h
    · obtain ⟨q, hq, h⟩ := Option.bind_eq_some_iff.mp h
      exact ⟨_, h, callQ_of rfl rfl fun w => (ephemerisref2_SinCos.calls k _ _ _ w hq).mono fun e w' he => ⟨he.1, he.2.below⟩⟩
    · cases h
  · split at h
    · obtain ⟨q, hq, h⟩ := Option.bind_eq_some_iff.mp h
      split at h
      · rename_i hT; subst hT
        exact ⟨_, h, callQ_of rfl rfl fun w => (ephemerislaw2_astrolabeWorks.calls k _ w hq rfl).mono fun e w' he => ⟨he.1, he.2⟩⟩
      · cases h
    · cases h
  · split at h
    · obtain ⟨q, hq, h⟩ := Option.bind_eq_some_iff.mp h
      exact ⟨_, h, callQ_of rfl rfl fun w => (ephemerisref2_InRatio.calls k _ _ _ _ _ w hq).mono fun e w' he => ⟨he.1, he.2⟩⟩
    · cases h
  · split at h
    · obtain ⟨q, hq, h⟩ := Option.bind_eq_some_iff.mp h
      exact ⟨_, h, callQ_of rfl rfl fun w => (astrolabe_Star.calls k _ _ _ _ _ _ _ w hq).mono fun e w' he => ⟨he.1, he.2⟩⟩
    · cases h
  · split at h
    · obtain ⟨q, hq, h⟩ := Option.bind_eq_some_iff.mp h
      exact ⟨_, h, callQ_of rfl rfl fun w => (ephemerisref2_Mul.calls _ _ _ w hq).mono fun e w' he => ⟨he.1, he.2.below⟩⟩
    · cases h
  · cases h
def ephemerislaw2_AstrolabeStars.F (v : Value) (_ : Mem) : Option (Bool) := match v with | .bool r => some (r) | _ => none
theorem ephemerislaw2_AstrolabeStars.run (k : Nat) (a0 : Int) (a1 : Int) : runM Try.prog (liftQ (ephemerislaw2_AstrolabeStars.OQ k)) (drawQ Try.prog (ephemerislaw2_AstrolabeStars.OQ k)) (fun _ => none) (atEnd Try.prog Try.f10 ephemerislaw2_AstrolabeStars.F) 5000 [.code (Try.f10.body.getD .skip)] ([.int .i64 a0, .int .i64 a1] ++ List.replicate (Try.f10.ntmps - ([.int .i64 a0, .int .i64 a1] : List Value).length) undef) [] = ephemerislaw2_AstrolabeStars.f k a0 a1 := by kernel_rfl
theorem ephemerislaw2_AstrolabeStars.calls (k : Nat) (a0 : Int) (a1 : Int) (r : Bool) (w : World) (h : ephemerislaw2_AstrolabeStars.f k a0 a1 = some (r)) (hT : r = true) :
    Calls Try.prog 10 #[.int .i64 a0, .int .i64 a1] w fun e w' => e = .returned (.bool r) ∧ Below w.heap.size w w' := by
  refine calls_closed (OQ := ephemerislaw2_AstrolabeStars.OQ k) (LF := fun _ => none) (F := ephemerislaw2_AstrolabeStars.F) (r := (r)) (Checked.mixed Try.checked) (fun Φ base _ => ephemerislaw2_AstrolabeStars.OQ_ok k Φ base) (LS := fun _ => True) (fun Φ base _ c _ live len f e => by cases e) Try.func10 rfl (fun _ _ => trivial) rfl (fun u m hu => ?_) rfl (((ephemerislaw2_AstrolabeStars.run k a0 a1).trans h)) w
  unfold ephemerislaw2_AstrolabeStars.F at hu
  split at hu
  · cases hu; rfl
  · cases hu
end Go.Proofs.Ytelcegpaakbppaa.PAll
end
