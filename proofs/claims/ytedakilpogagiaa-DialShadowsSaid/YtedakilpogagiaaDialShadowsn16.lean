/- Written by a program of this session: what one law needs. -/
import Derived.Test.YtedakilpogagiaaDialShadowsn15
set_option maxRecDepth 100000
set_option linter.unusedSimpArgs false
set_option linter.unusedVariables false
section
namespace Go.Proofs.Ytedakilpogagiaa.PAll
open Go Go.RowKit YtedakilpogagiaaW.PrintWords Sx
def place_Ground.f (k : Nat) (a0_0 : Int) (a0_1 : Int) (a1_0 : Int) (a1_1 : Int) (a2_0 : Int) (a2_1 : Int) (a3 : Int) : Option (Int × Int × Int × Int × Int) :=
  ob (place_hour.f k a0_0 a0_1 a1_0 a1_1 a2_0 a2_1 a3) fun t1 =>
  oif ((t1.snd.snd != 0) = true) (
   some (0, 0, 0, 0, t1.snd.snd)) (
   ob (trig_Sin.f k a0_1) fun t2 =>
   ob (trig_Cos.f k a0_1) fun t3 =>
   ob (trig_SinOver.f k a2_0 a2_1) fun t4 =>
   ob (trig_CosOver.f k a2_0 a2_1) fun t5 =>
   ob (trig_SinOver.f k t1.fst t1.snd.fst) fun t6 =>
   ob (trig_CosOver.f k t1.fst t1.snd.fst) fun t7 =>
   ob (sun_Unit.f k t5.fst t5.snd.fst t6.fst t6.snd.fst) fun t8 =>
   ob (sun_Unit.f k t3.fst t3.snd.fst t4.fst t4.snd.fst) fun t9 =>
   ob (sun_Unit.f k t2.fst t2.snd.fst t5.fst t5.snd.fst) fun t10 =>
   ob (sun_Unit.f k t10.fst t10.snd t7.fst t7.snd.fst) fun t11 =>
   ob (sun_Clamp.f (IntKind.i64.wrap (t9.fst - t11.snd)) (IntKind.i64.wrap (t9.snd - t11.fst))) fun t12 =>
   some (IntKind.i64.wrap (0 - t8.snd), IntKind.i64.wrap (0 - t8.fst), t12.fst, t12.snd, 0))
def place_Ground.OQ {R : Type} (k : Nat) : OraQ R := fun g args K => match g with
  | 62 => (match args with | [.int .i64 a0] => (trig_Sin.f k a0).bind fun q => K (.tuple ⟨[.agg ⟨[.int .i64 q.1, .int .i64 q.2.1]⟩, .int .i64 q.2.2]⟩) | _ => none)
  | 63 => (match args with | [.int .i64 a0] => (trig_Cos.f k a0).bind fun q => K (.tuple ⟨[.agg ⟨[.int .i64 q.1, .int .i64 q.2.1]⟩, .int .i64 q.2.2]⟩) | _ => none)
  | 64 => (match args with | [.agg ⟨[.int .i64 a0_0, .int .i64 a0_1]⟩] => (trig_SinOver.f k a0_0 a0_1).bind fun q => K (.tuple ⟨[.agg ⟨[.int .i64 q.1, .int .i64 q.2.1]⟩, .int .i64 q.2.2]⟩) | _ => none)
  | 65 => (match args with | [.agg ⟨[.int .i64 a0_0, .int .i64 a0_1]⟩] => (trig_CosOver.f k a0_0 a0_1).bind fun q => K (.tuple ⟨[.agg ⟨[.int .i64 q.1, .int .i64 q.2.1]⟩, .int .i64 q.2.2]⟩) | _ => none)
  | 66 => (match args with | [.agg ⟨[.int .i64 a0_0, .int .i64 a0_1]⟩, .agg ⟨[.int .i64 a1_0, .int .i64 a1_1]⟩] => (sun_Unit.f k a0_0 a0_1 a1_0 a1_1).bind fun q => K (.agg ⟨[.int .i64 q.1, .int .i64 q.2]⟩) | _ => none)
  | 77 => (match args with | [.agg ⟨[.int .i64 a0_0, .int .i64 a0_1]⟩, .agg ⟨[.int .i64 a1_0, .int .i64 a1_1]⟩, .agg ⟨[.int .i64 a2_0, .int .i64 a2_1]⟩, .int .i64 a3] => (place_hour.f k a0_0 a0_1 a1_0 a1_1 a2_0 a2_1 a3).bind fun q => K (.tuple ⟨[.agg ⟨[.int .i64 q.1, .int .i64 q.2.1]⟩, .int .i64 q.2.2]⟩) | _ => none)
  | 78 => (match args with | [.agg ⟨[.int .i64 a0_0, .int .i64 a0_1]⟩] => (sun_Clamp.f a0_0 a0_1).bind fun q => K (.agg ⟨[.int .i64 q.1, .int .i64 q.2]⟩) | _ => none)
  | _ => none
theorem place_Ground.OQ_ok (k : Nat) (Φ : World → Prop) (base : Nat) {R : Type} : OraQOk Try.prog (fun _ => undef) Φ base (place_Ground.OQ (R := R) k) := by
  intro g args K r h
  unfold place_Ground.OQ at h
  split at h
  · split at h
    · obtain ⟨q, hq, h⟩ := Option.bind_eq_some_iff.mp h
      exact ⟨_, h, callQ_of rfl rfl fun w => (trig_Sin.calls k _ _ _ _ w hq).mono fun e w' he => ⟨he.1, he.2⟩⟩
    · cases h
  · split at h
    · obtain ⟨q, hq, h⟩ := Option.bind_eq_some_iff.mp h
      exact ⟨_, h, callQ_of rfl rfl fun w => (trig_Cos.calls k _ _ _ _ w hq).mono fun e w' he => ⟨he.1, he.2⟩⟩
    · cases h
  · split at h
    · obtain ⟨q, hq, h⟩ := Option.bind_eq_some_iff.mp h
      exact ⟨_, h, callQ_of rfl rfl fun w => (trig_SinOver.calls k _ _ _ _ _ w hq).mono fun e w' he => ⟨he.1, he.2⟩⟩
    · cases h
  · split at h
    · obtain ⟨q, hq, h⟩ := Option.bind_eq_some_iff.mp h
      exact ⟨_, h, callQ_of rfl rfl fun w => (trig_CosOver.calls k _ _ _ _ _ w hq).mono fun e w' he => ⟨he.1, he.2⟩⟩
    · cases h
  · split at h
    · obtain ⟨q, hq, h⟩ := Option.bind_eq_some_iff.mp h
      exact ⟨_, h, callQ_of rfl rfl fun w => (sun_Unit.calls k _ _ _ _ _ _ w hq).mono fun e w' he => ⟨he.1, he.2⟩⟩
    · cases h
  · split at h
    · obtain ⟨q, hq, h⟩ := Option.bind_eq_some_iff.mp h
      exact ⟨_, h, callQ_of rfl rfl fun w => (place_hour.calls k _ _ _ _ _ _ _ _ _ _ w hq).mono fun e w' he => ⟨he.1, he.2⟩⟩
    · cases h
  · split at h
    · obtain ⟨q, hq, h⟩ := Option.bind_eq_some_iff.mp h
      exact ⟨_, h, callQ_of rfl rfl fun w => (sun_Clamp.calls _ _ _ _ w hq).mono fun e w' he => ⟨he.1, he.2⟩⟩
    · cases h
  · cases h
def place_Ground.F (v : Value) (_ : Mem) : Option (Int × Int × Int × Int × Int) := match v with | .tuple ⟨[.agg ⟨[.int .i64 r1, .int .i64 r2]⟩, .agg ⟨[.int .i64 r3, .int .i64 r4]⟩, .int .i64 r5]⟩ => some (r1, r2, r3, r4, r5) | _ => none
theorem place_Ground.run (k : Nat) (a0_0 : Int) (a0_1 : Int) (a1_0 : Int) (a1_1 : Int) (a2_0 : Int) (a2_1 : Int) (a3 : Int) : runM Try.prog (liftQ (place_Ground.OQ k)) (drawQ Try.prog (place_Ground.OQ k)) (fun _ => none) (atEnd Try.prog Try.f33 place_Ground.F) 5000 [.code (Try.f33.body.getD .skip)] ([.agg ⟨[.int .i64 a0_0, .int .i64 a0_1]⟩, .agg ⟨[.int .i64 a1_0, .int .i64 a1_1]⟩, .agg ⟨[.int .i64 a2_0, .int .i64 a2_1]⟩, .int .i64 a3] ++ List.replicate (Try.f33.ntmps - ([.agg ⟨[.int .i64 a0_0, .int .i64 a0_1]⟩, .agg ⟨[.int .i64 a1_0, .int .i64 a1_1]⟩, .agg ⟨[.int .i64 a2_0, .int .i64 a2_1]⟩, .int .i64 a3] : List Value).length) undef) [] = place_Ground.f k a0_0 a0_1 a1_0 a1_1 a2_0 a2_1 a3 := by kernel_rfl
theorem place_Ground.calls (k : Nat) (a0_0 : Int) (a0_1 : Int) (a1_0 : Int) (a1_1 : Int) (a2_0 : Int) (a2_1 : Int) (a3 : Int) (r1 : Int) (r2 : Int) (r3 : Int) (r4 : Int) (r5 : Int) (w : World) (h : place_Ground.f k a0_0 a0_1 a1_0 a1_1 a2_0 a2_1 a3 = some (r1, r2, r3, r4, r5)) :
    Calls Try.prog 33 #[.agg #[.int .i64 a0_0, .int .i64 a0_1], .agg #[.int .i64 a1_0, .int .i64 a1_1], .agg #[.int .i64 a2_0, .int .i64 a2_1], .int .i64 a3] w fun e w' => e = .returned (.tuple #[.agg #[.int .i64 r1, .int .i64 r2], .agg #[.int .i64 r3, .int .i64 r4], .int .i64 r5]) ∧ Below w.heap.size w w' := by
  refine calls_closed (OQ := place_Ground.OQ k) (LF := fun _ => none) (F := place_Ground.F) (r := (r1, r2, r3, r4, r5)) (Checked.mixed Try.checked) (fun Φ base _ => place_Ground.OQ_ok k Φ base) (LS := fun _ => True) (fun Φ base _ c _ live len f e => by cases e) Try.func33 rfl (fun _ _ => trivial) rfl (fun u m hu => ?_) rfl (((place_Ground.run k a0_0 a0_1 a1_0 a1_1 a2_0 a2_1 a3).trans h)) w
  unfold place_Ground.F at hu
  split at hu
  · cases hu; rfl
  · cases hu
end Go.Proofs.Ytedakilpogagiaa.PAll
end
section
namespace Go.Proofs.Ytedakilpogagiaa.PAll
open Go Go.RowKit YtedakilpogagiaaW.PrintWords Sx
def place_Azimuth.f (k : Nat) (a0_0 : Int) (a0_1 : Int) (a1_0 : Int) (a1_1 : Int) (a2_0 : Int) (a2_1 : Int) (a3 : Int) : Option (Int × Int × Int) :=
  ob (place_Ground.f k a0_0 a0_1 a1_0 a1_1 a2_0 a2_1 a3) fun t1 =>
  oif ((t1.snd.snd.snd.snd != 0) = true) (
   some (0, 0, t1.snd.snd.snd.snd)) (
   ob (trig_Arc.f k t1.fst t1.snd.fst t1.snd.snd.fst t1.snd.snd.snd.fst) fun t2 =>
   some (t2.fst, t2.snd.fst, t2.snd.snd))
def place_Azimuth.OQ {R : Type} (k : Nat) : OraQ R := fun g args K => match g with
  | 33 => (match args with | [.agg ⟨[.int .i64 a0_0, .int .i64 a0_1]⟩, .agg ⟨[.int .i64 a1_0, .int .i64 a1_1]⟩, .agg ⟨[.int .i64 a2_0, .int .i64 a2_1]⟩, .int .i64 a3] => (place_Ground.f k a0_0 a0_1 a1_0 a1_1 a2_0 a2_1 a3).bind fun q => K (.tuple ⟨[.agg ⟨[.int .i64 q.1, .int .i64 q.2.1]⟩, .agg ⟨[.int .i64 q.2.2.1, .int .i64 q.2.2.2.1]⟩, .int .i64 q.2.2.2.2]⟩) | _ => none)
  | 68 => (match args with | [.agg ⟨[.int .i64 a0_0, .int .i64 a0_1]⟩, .agg ⟨[.int .i64 a1_0, .int .i64 a1_1]⟩] => (trig_Arc.f k a0_0 a0_1 a1_0 a1_1).bind fun q => K (.tuple ⟨[.agg ⟨[.int .i64 q.1, .int .i64 q.2.1]⟩, .int .i64 q.2.2]⟩) | _ => none)
  | _ => none
theorem place_Azimuth.OQ_ok (k : Nat) (Φ : World → Prop) (base : Nat) {R : Type} : OraQOk Try.prog (fun _ => undef) Φ base (place_Azimuth.OQ (R := R) k) := by
  intro g args K r h
  unfold place_Azimuth.OQ at h
  split at h
  · split at h
    · obtain ⟨q, hq, h⟩ := Option.bind_eq_some_iff.mp h
      exact ⟨_, h, callQ_of rfl rfl fun w => (place_Ground.calls k _ _ _ _ _ _ _ _ _ _ _ _ w hq).mono fun e w' he => ⟨he.1, he.2⟩⟩
    · cases h
  · split at h
    · obtain ⟨q, hq, h⟩ := Option.bind_eq_some_iff.mp h
      exact ⟨_, h, callQ_of rfl rfl fun w => (trig_Arc.calls k _ _ _ _ _ _ _ w hq).mono fun e w' he => ⟨he.1, he.2⟩⟩
    · cases h
  · cases h
def place_Azimuth.F (v : Value) (_ : Mem) : Option (Int × Int × Int) := match v with | .tuple ⟨[.agg ⟨[.int .i64 r1, .int .i64 r2]⟩, .int .i64 r3]⟩ => some (r1, r2, r3) | _ => none
theorem place_Azimuth.run (k : Nat) (a0_0 : Int) (a0_1 : Int) (a1_0 : Int) (a1_1 : Int) (a2_0 : Int) (a2_1 : Int) (a3 : Int) : runM Try.prog (liftQ (place_Azimuth.OQ k)) (drawQ Try.prog (place_Azimuth.OQ k)) (fun _ => none) (atEnd Try.prog Try.f34 place_Azimuth.F) 5000 [.code (Try.f34.body.getD .skip)] ([.agg ⟨[.int .i64 a0_0, .int .i64 a0_1]⟩, .agg ⟨[.int .i64 a1_0, .int .i64 a1_1]⟩, .agg ⟨[.int .i64 a2_0, .int .i64 a2_1]⟩, .int .i64 a3] ++ List.replicate (Try.f34.ntmps - ([.agg ⟨[.int .i64 a0_0, .int .i64 a0_1]⟩, .agg ⟨[.int .i64 a1_0, .int .i64 a1_1]⟩, .agg ⟨[.int .i64 a2_0, .int .i64 a2_1]⟩, .int .i64 a3] : List Value).length) undef) [] = place_Azimuth.f k a0_0 a0_1 a1_0 a1_1 a2_0 a2_1 a3 := by kernel_rfl
theorem place_Azimuth.calls (k : Nat) (a0_0 : Int) (a0_1 : Int) (a1_0 : Int) (a1_1 : Int) (a2_0 : Int) (a2_1 : Int) (a3 : Int) (r1 : Int) (r2 : Int) (r3 : Int) (w : World) (h : place_Azimuth.f k a0_0 a0_1 a1_0 a1_1 a2_0 a2_1 a3 = some (r1, r2, r3)) :
    Calls Try.prog 34 #[.agg #[.int .i64 a0_0, .int .i64 a0_1], .agg #[.int .i64 a1_0, .int .i64 a1_1], .agg #[.int .i64 a2_0, .int .i64 a2_1], .int .i64 a3] w fun e w' => e = .returned (.tuple #[.agg #[.int .i64 r1, .int .i64 r2], .int .i64 r3]) ∧ Below w.heap.size w w' := by
  refine calls_closed (OQ := place_Azimuth.OQ k) (LF := fun _ => none) (F := place_Azimuth.F) (r := (r1, r2, r3)) (Checked.mixed Try.checked) (fun Φ base _ => place_Azimuth.OQ_ok k Φ base) (LS := fun _ => True) (fun Φ base _ c _ live len f e => by cases e) Try.func34 rfl (fun _ _ => trivial) rfl (fun u m hu => ?_) rfl (((place_Azimuth.run k a0_0 a0_1 a1_0 a1_1 a2_0 a2_1 a3).trans h)) w
  unfold place_Azimuth.F at hu
  split at hu
  · cases hu; rfl
  · cases hu
end Go.Proofs.Ytedakilpogagiaa.PAll
end
section
namespace Go.Proofs.Ytedakilpogagiaa.PAll
open Go Go.RowKit YtedakilpogagiaaW.PrintWords Sx
def dial_Shadow.f (k : Nat) (a0_0 : Int) (a0_1 : Int) (a1 : Int) : Option (Int × Int × Int) :=
  ob (place_Check.f a0_0 a0_1) fun t1 =>
  oif ((t1 != 0) = true) (
   some (0, 0, t1)) (
   ob (sun_At.f k a1) fun t2 =>
   oif ((t2.snd.snd.snd.snd != 0) = true) (
    some (0, 0, t2.snd.snd.snd.snd)) (
    ob (place_Height.f k a0_0 a0_1 t2.fst t2.snd.fst t2.snd.snd.fst t2.snd.snd.snd.fst a1) fun t3 =>
    oif (decide (t3.fst ≤ 0) = true) (
     some (0, 0, 6)) (
     ob (place_Azimuth.f k a0_0 a0_1 t2.fst t2.snd.fst t2.snd.snd.fst t2.snd.snd.snd.fst a1) fun t4 =>
     oif ((t4.snd.snd != 0) = true) (
      some (0, 0, t4.snd.snd)) (
      ob (series_Reduced.f (IntKind.i64.wrap (t4.fst + 500000000)) (IntKind.i64.wrap (t4.snd.fst + 500000000))) fun t5 =>
      some (t5.fst, t5.snd, 0)))))
def dial_Shadow.OQ {R : Type} (k : Nat) : OraQ R := fun g args K => match g with
  | 23 => (match args with | [.int .i64 a0] => (sun_At.f k a0).bind fun q => K (.tuple ⟨[.agg ⟨[.int .i64 q.1, .int .i64 q.2.1]⟩, .agg ⟨[.int .i64 q.2.2.1, .int .i64 q.2.2.2.1]⟩, .int .i64 q.2.2.2.2]⟩) | _ => none)
  | 30 => (match args with | [.agg ⟨[.int .i64 a0_0, .int .i64 a0_1]⟩, .agg ⟨[.int .i64 a1_0, .int .i64 a1_1]⟩, .agg ⟨[.int .i64 a2_0, .int .i64 a2_1]⟩, .int .i64 a3] => (place_Height.f k a0_0 a0_1 a1_0 a1_1 a2_0 a2_1 a3).bind fun q => K (.tuple ⟨[.agg ⟨[.int .i64 q.1, .int .i64 q.2.1]⟩, .int .i64 q.2.2]⟩) | _ => none)
  | 34 => (match args with | [.agg ⟨[.int .i64 a0_0, .int .i64 a0_1]⟩, .agg ⟨[.int .i64 a1_0, .int .i64 a1_1]⟩, .agg ⟨[.int .i64 a2_0, .int .i64 a2_1]⟩, .int .i64 a3] => (place_Azimuth.f k a0_0 a0_1 a1_0 a1_1 a2_0 a2_1 a3).bind fun q => K (.tuple ⟨[.agg ⟨[.int .i64 q.1, .int .i64 q.2.1]⟩, .int .i64 q.2.2]⟩) | _ => none)
  | 81 => (match args with | [.agg ⟨[.int .i64 a0_0, .int .i64 a0_1]⟩] => (place_Check.f a0_0 a0_1).bind fun q => K (.int .i64 q) | _ => none)
  | 82 => (match args with | [.agg ⟨[.int .i64 a0_0, .int .i64 a0_1]⟩] => (series_Reduced.f a0_0 a0_1).bind fun q => K (.agg ⟨[.int .i64 q.1, .int .i64 q.2]⟩) | _ => none)
  | _ => none
theorem dial_Shadow.OQ_ok (k : Nat) (Φ : World → Prop) (base : Nat) {R : Type} : OraQOk Try.prog (fun _ => undef) Φ base (dial_Shadow.OQ (R := R) k) := by
  intro g args K r h
  unfold dial_Shadow.OQ at h
  split at h
  · split at h
    · obtain ⟨q, hq, h⟩ := Option.bind_eq_some_iff.mp h
      exact ⟨_, h, callQ_of rfl rfl fun w => (sun_At.calls k _ _ _ _ _ _ w hq).mono fun e w' he => ⟨he.1, he.2⟩⟩
    · cases h
  · split at h
    · obtain ⟨q, hq, h⟩ := Option.bind_eq_some_iff.mp h
      exact ⟨_, h, callQ_of rfl rfl fun w => (place_Height.calls k _ _ _ _ _ _ _ _ _ _ w hq).mono fun e w' he => ⟨he.1, he.2⟩⟩
    · cases h
  · split at h
    · obtain ⟨q, hq, h⟩ := Option.bind_eq_some_iff.mp h
      exact ⟨_, h, callQ_of rfl rfl fun w => (place_Azimuth.calls k _ _ _ _ _ _ _ _ _ _ w hq).mono fun e w' he => ⟨he.1, he.2⟩⟩
    · cases h
  · split at h
    · obtain ⟨q, hq, h⟩ := Option.bind_eq_some_iff.mp h
      exact ⟨_, h, callQ_of rfl rfl fun w => (place_Check.calls _ _ _ w hq).mono fun e w' he => ⟨he.1, he.2⟩⟩
    · cases h
  · split at h
    · obtain ⟨q, hq, h⟩ := Option.bind_eq_some_iff.mp h
      exact ⟨_, h, callQ_of rfl rfl fun w => (series_Reduced.calls _ _ _ _ w hq).mono fun e w' he => ⟨he.1, he.2⟩⟩
    · cases h
  · cases h
def dial_Shadow.F (v : Value) (_ : Mem) : Option (Int × Int × Int) := match v with | .tuple ⟨[.agg ⟨[.int .i64 r1, .int .i64 r2]⟩, .int .i64 r3]⟩ => some (r1, r2, r3) | _ => none
theorem dial_Shadow.run (k : Nat) (a0_0 : Int) (a0_1 : Int) (a1 : Int) : runM Try.prog (liftQ (dial_Shadow.OQ k)) (drawQ Try.prog (dial_Shadow.OQ k)) (fun _ => none) (atEnd Try.prog Try.f43 dial_Shadow.F) 5000 [.code (Try.f43.body.getD .skip)] ([.agg ⟨[.int .i64 a0_0, .int .i64 a0_1]⟩, .int .i64 a1] ++ List.replicate (Try.f43.ntmps - ([.agg ⟨[.int .i64 a0_0, .int .i64 a0_1]⟩, .int .i64 a1] : List Value).length) undef) [] = dial_Shadow.f k a0_0 a0_1 a1 := by kernel_rfl
theorem dial_Shadow.calls (k : Nat) (a0_0 : Int) (a0_1 : Int) (a1 : Int) (r1 : Int) (r2 : Int) (r3 : Int) (w : World) (h : dial_Shadow.f k a0_0 a0_1 a1 = some (r1, r2, r3)) :
    Calls Try.prog 43 #[.agg #[.int .i64 a0_0, .int .i64 a0_1], .int .i64 a1] w fun e w' => e = .returned (.tuple #[.agg #[.int .i64 r1, .int .i64 r2], .int .i64 r3]) ∧ Below w.heap.size w w' := by
  refine calls_closed (OQ := dial_Shadow.OQ k) (LF := fun _ => none) (F := dial_Shadow.F) (r := (r1, r2, r3)) (Checked.mixed Try.checked) (fun Φ base _ => dial_Shadow.OQ_ok k Φ base) (LS := fun _ => True) (fun Φ base _ c _ live len f e => by cases e) Try.func43 rfl (fun _ _ => trivial) rfl (fun u m hu => ?_) rfl (((dial_Shadow.run k a0_0 a0_1 a1).trans h)) w
  unfold dial_Shadow.F at hu
  split at hu
  · cases hu; rfl
  · cases hu
end Go.Proofs.Ytedakilpogagiaa.PAll
end
section
namespace Go.Proofs.Ytedakilpogagiaa.PAll
open Go Go.RowKit YtedakilpogagiaaW.PrintWords Sx
def ephemerislaw2_DialShadows.f (k : Nat) (a0_0 : Int) (a0_1 : Int) (a1 : Int) : Option (Bool) :=
  ob (ephemerislaw2_dialWorks.f k) fun t1 =>
  oif (t1 = true) (
   ob (dial_Shadow.f k a0_0 a0_1 a1) fun t2 =>
   ob (ephemerisref2_PlaceErr.f a0_0 a0_1) fun t3 =>
   oif ((t3 == 0) = true) (
    ob (ephemerisref2_InstantErr.f a1) fun t4 =>
    oif ((t4 != 0) = true) (
     ob (ephemerislaw2_none.f t2.fst t2.snd.fst t2.snd.snd t4) fun t5 =>
     some (t5)) (
     ob (sun_At.f k a1) fun t6 =>
     ob (place_Height.f k a0_0 a0_1 t6.fst t6.snd.fst t6.snd.snd.fst t6.snd.snd.snd.fst a1) fun t7 =>
     oif (decide (t7.fst ≤ 0) = true) (
      ob (ephemerislaw2_none.f t2.fst t2.snd.fst t2.snd.snd 6) fun t8 =>
      some (t8)) (
      ob (ephemerisref2_Body.f k 0 a1 0 0) fun t9 =>
      ob (ephemerisref2_Above.f k a0_0 a0_1 t9.fst t9.snd.fst t9.snd.snd a1) fun t10 =>
      ob (ephemerislaw2_none.f t2.fst t2.snd.fst t2.snd.snd 11) fun t11 =>
      oif (t11 = true) (
       some (true)) (
       oif ((t2.snd.snd == 0) = true) (
        ob (ephemerisref2_InArc.f k t2.fst t2.snd.fst (IntKind.i64.wrap (0 - t10.snd.fst)) (IntKind.i64.wrap (0 - t10.snd.snd))) fun t12 =>
        some (t12)) (
        some (false)))))) (
    oif ((t3 != 0) = true) (
     ob (ephemerislaw2_none.f t2.fst t2.snd.fst t2.snd.snd t3) fun t13 =>
     some (t13)) (
     ob (sun_At.f k a1) fun t14 =>
     ob (place_Height.f k a0_0 a0_1 t14.fst t14.snd.fst t14.snd.snd.fst t14.snd.snd.snd.fst a1) fun t15 =>
     oif (decide (t15.fst ≤ 0) = true) (
      ob (ephemerislaw2_none.f t2.fst t2.snd.fst t2.snd.snd 6) fun t16 =>
      some (t16)) (
      ob (ephemerisref2_Body.f k 0 a1 0 0) fun t17 =>
      ob (ephemerisref2_Above.f k a0_0 a0_1 t17.fst t17.snd.fst t17.snd.snd a1) fun t18 =>
      ob (ephemerislaw2_none.f t2.fst t2.snd.fst t2.snd.snd 11) fun t19 =>
      oif (t19 = true) (
       some (true)) (
       oif ((t2.snd.snd == 0) = true) (
        ob (ephemerisref2_InArc.f k t2.fst t2.snd.fst (IntKind.i64.wrap (0 - t18.snd.fst)) (IntKind.i64.wrap (0 - t18.snd.snd))) fun t20 =>
        some (t20)) (
        some (false))))))) (
   none)
def ephemerislaw2_DialShadows.OQ {R : Type} (k : Nat) : OraQ R := fun g args K => match g with
  | 18 => (match args with | [.agg ⟨[.int .i64 a0_0, .int .i64 a0_1]⟩, .int .i64 a1, .int .i64 a2] => (ephemerislaw2_none.f a0_0 a0_1 a1 a2).bind fun q => K (.bool q) | _ => none)
  | 21 => (match args with | [.agg ⟨[.int .i64 a0_0, .int .i64 a0_1]⟩, .int .i64 a1, .int .i64 a2] => (ephemerisref2_InArc.f k a0_0 a0_1 a1 a2).bind fun q => K (.bool q) | _ => none)
  | 23 => (match args with | [.int .i64 a0] => (sun_At.f k a0).bind fun q => K (.tuple ⟨[.agg ⟨[.int .i64 q.1, .int .i64 q.2.1]⟩, .agg ⟨[.int .i64 q.2.2.1, .int .i64 q.2.2.2.1]⟩, .int .i64 q.2.2.2.2]⟩) | _ => none)
  | 24 => (match args with | [.int .i64 a0] => (ephemerisref2_InstantErr.f a0).bind fun q => K (.int .i64 q) | _ => none)
  | 25 => (match args with | [.int .i64 a0, .int .i64 a1, .int .i64 a2, .int .i64 a3] => (ephemerisref2_Body.f k a0 a1 a2 a3).bind fun q => K (.agg ⟨[.int .i64 q.1, .int .i64 q.2.1, .int .i64 q.2.2]⟩) | _ => none)
  | 30 => (match args with | [.agg ⟨[.int .i64 a0_0, .int .i64 a0_1]⟩, .agg ⟨[.int .i64 a1_0, .int .i64 a1_1]⟩, .agg ⟨[.int .i64 a2_0, .int .i64 a2_1]⟩, .int .i64 a3] => (place_Height.f k a0_0 a0_1 a1_0 a1_1 a2_0 a2_1 a3).bind fun q => K (.tuple ⟨[.agg ⟨[.int .i64 q.1, .int .i64 q.2.1]⟩, .int .i64 q.2.2]⟩) | _ => none)
  | 31 => (match args with | [.agg ⟨[.int .i64 a0_0, .int .i64 a0_1]⟩] => (ephemerisref2_PlaceErr.f a0_0 a0_1).bind fun q => K (.int .i64 q) | _ => none)
  | 35 => (match args with | [.agg ⟨[.int .i64 a0_0, .int .i64 a0_1]⟩, .agg ⟨[.int .i64 a1_0, .int .i64 a1_1, .int .i64 a1_2]⟩, .int .i64 a2] => (ephemerisref2_Above.f k a0_0 a0_1 a1_0 a1_1 a1_2 a2).bind fun q => K (.tuple ⟨[.int .i64 q.1, .int .i64 q.2.1, .int .i64 q.2.2]⟩) | _ => none)
  | 37 => (match args with | [] => (ephemerislaw2_dialWorks.f k).bind fun q => (if q = true then K (.bool true) else none) | _ => none)
  | 43 => (match args with | [.agg ⟨[.int .i64 a0_0, .int .i64 a0_1]⟩, .int .i64 a1] => (dial_Shadow.f k a0_0 a0_1 a1).bind fun q => K (.tuple ⟨[.agg ⟨[.int .i64 q.1, .int .i64 q.2.1]⟩, .int .i64 q.2.2]⟩) | _ => none)
  | _ => none
theorem ephemerislaw2_DialShadows.OQ_ok (k : Nat) (Φ : World → Prop) (base : Nat) {R : Type} : OraQOk Try.prog (fun _ => undef) Φ base (ephemerislaw2_DialShadows.OQ (R := R) k) := by
  intro g args K r h
  unfold ephemerislaw2_DialShadows.OQ at h
  split at h
  · split at h
    · obtain ⟨q, hq, h⟩ := Option.bind_eq_some_iff.mp h
      exact ⟨_, h, callQ_of rfl rfl fun w => (ephemerislaw2_none.calls _ _ _ _ _ w hq).mono fun e w' he => ⟨he.1, he.2⟩⟩
    · cases h
  · split at h
    · obtain ⟨q, hq, h⟩ := Option.bind_eq_some_iff.mp h
      exact ⟨_, h, callQ_of rfl rfl fun w => (ephemerisref2_InArc.calls k _ _ _ _ _ w hq).mono fun e w' he => ⟨he.1, he.2⟩⟩
    · cases h
  · split at h
    · obtain ⟨q, hq, h⟩ := Option.bind_eq_some_iff.mp h
      exact ⟨_, h, callQ_of rfl rfl fun w => (sun_At.calls k _ _ _ _ _ _ w hq).mono fun e w' he => ⟨he.1, he.2⟩⟩
    · cases h
  · split at h
    · obtain ⟨q, hq, h⟩ := Option.bind_eq_some_iff.mp h
      exact ⟨_, h, callQ_of rfl rfl fun w => (ephemerisref2_InstantErr.calls _ _ w hq).mono fun e w' he => ⟨he.1, he.2.below⟩⟩
    · cases h
  · split at h
    · obtain ⟨q, hq, h⟩ := Option.bind_eq_some_iff.mp h
      exact ⟨_, h, callQ_of rfl rfl fun w => (ephemerisref2_Body.calls k _ _ _ _ _ _ _ w hq).mono fun e w' he => ⟨he.1, he.2⟩⟩
    · cases h
  · split at h
    · obtain ⟨q, hq, h⟩ := Option.bind_eq_some_iff.mp h
      exact ⟨_, h, callQ_of rfl rfl fun w => (place_Height.calls k _ _ _ _ _ _ _ _ _ _ w hq).mono fun e w' he => ⟨he.1, he.2⟩⟩
    · cases h
  · split at h
    · obtain ⟨q, hq, h⟩ := Option.bind_eq_some_iff.mp h
      exact ⟨_, h, callQ_of rfl rfl fun w => (ephemerisref2_PlaceErr.calls _ _ _ w hq).mono fun e w' he => ⟨he.1, he.2⟩⟩
    · cases h
  · split at h
    · obtain ⟨q, hq, h⟩ := Option.bind_eq_some_iff.mp h
      exact ⟨_, h, callQ_of rfl rfl fun w => (ephemerisref2_Above.calls k _ _ _ _ _ _ _ _ _ w hq).mono fun e w' he => ⟨he.1, he.2⟩⟩
    · cases h
  · split at h
    · obtain ⟨q, hq, h⟩ := Option.bind_eq_some_iff.mp h
      split at h
      · rename_i hT; subst hT
        exact ⟨_, h, callQ_of rfl rfl fun w => (ephemerislaw2_dialWorks.calls k _ w hq rfl).mono fun e w' he => ⟨he.1, he.2⟩⟩
      · cases h
    · cases h
  · split at h
    · obtain ⟨q, hq, h⟩ := Option.bind_eq_some_iff.mp h
      exact ⟨_, h, callQ_of rfl rfl fun w => (dial_Shadow.calls k _ _ _ _ _ _ w hq).mono fun e w' he => ⟨he.1, he.2⟩⟩
    · cases h
  · cases h
def ephemerislaw2_DialShadows.F (v : Value) (_ : Mem) : Option (Bool) := match v with | .bool r => some (r) | _ => none
theorem ephemerislaw2_DialShadows.run (k : Nat) (a0_0 : Int) (a0_1 : Int) (a1 : Int) : runM Try.prog (liftQ (ephemerislaw2_DialShadows.OQ k)) (drawQ Try.prog (ephemerislaw2_DialShadows.OQ k)) (fun _ => none) (atEnd Try.prog Try.f8 ephemerislaw2_DialShadows.F) 5000 [.code (Try.f8.body.getD .skip)] ([.agg ⟨[.int .i64 a0_0, .int .i64 a0_1]⟩, .int .i64 a1] ++ List.replicate (Try.f8.ntmps - ([.agg ⟨[.int .i64 a0_0, .int .i64 a0_1]⟩, .int .i64 a1] : List Value).length) undef) [] = ephemerislaw2_DialShadows.f k a0_0 a0_1 a1 := by kernel_rfl
theorem ephemerislaw2_DialShadows.calls (k : Nat) (a0_0 : Int) (a0_1 : Int) (a1 : Int) (r : Bool) (w : World) (h : ephemerislaw2_DialShadows.f k a0_0 a0_1 a1 = some (r)) (hT : r = true) :
    Calls Try.prog 8 #[.agg #[.int .i64 a0_0, .int .i64 a0_1], .int .i64 a1] w fun e w' => e = .returned (.bool r) ∧ Below w.heap.size w w' := by
  refine calls_closed (OQ := ephemerislaw2_DialShadows.OQ k) (LF := fun _ => none) (F := ephemerislaw2_DialShadows.F) (r := (r)) (Checked.mixed Try.checked) (fun Φ base _ => ephemerislaw2_DialShadows.OQ_ok k Φ base) (LS := fun _ => True) (fun Φ base _ c _ live len f e => by cases e) Try.func8 rfl (fun _ _ => trivial) rfl (fun u m hu => ?_) rfl (((ephemerislaw2_DialShadows.run k a0_0 a0_1 a1).trans h)) w
  unfold ephemerislaw2_DialShadows.F at hu
  split at hu
  · cases hu; rfl
  · cases hu
end Go.Proofs.Ytedakilpogagiaa.PAll
end
