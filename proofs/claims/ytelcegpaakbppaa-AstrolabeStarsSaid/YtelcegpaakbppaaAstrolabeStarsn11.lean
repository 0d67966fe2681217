/- Written by a program of this session: what one law needs. -/
import Derived.Test.YtelcegpaakbppaaAstrolabeStarsn7
import Derived.Test.YtelcegpaakbppaaAstrolabeStarsn9
import Derived.Test.YtelcegpaakbppaaAstrolabeStarsn6
import Derived.Test.YtelcegpaakbppaaChecked
import Derived.Test.YtelcegpaakbppaaAstrolabeStarsn0
import Derived.Test.YtelcegpaakbppaaAstrolabeStarsn2
import Derived.Test.YtelcegpaakbppaaAstrolabeStarsn10
section
namespace Go.Proofs.Ytelcegpaakbppaa.PAll
open Go Go.RowKit Go.Proofs.YtelcegpaakbppaaW.PrintWords Go.Proofs.Ytelcegpaakbppaa.Sx
set_option linter.unusedVariables false
set_option linter.unusedSimpArgs false
set_option maxRecDepth 100000
def astrolabe_ratio.f (k : Nat) (a0_0 : Int) (a0_1 : Int) (a1_0 : Int) (a1_1 : Int) : Option (Int × Int) :=
  ob (interval_Scale.f k a0_0 a0_1 1000000 1) fun t1 =>
  ob (interval_Div.f k t1.fst t1.snd.fst a1_0 a1_1) fun t2 =>
  some (t2.fst, t2.snd.fst)
theorem astrolabe_ratio.mono : ∀ a0_0 a0_1 a1_0 a1_1 k, LeO (astrolabe_ratio.f k a0_0 a0_1 a1_0 a1_1) (astrolabe_ratio.f (k + 1) a0_0 a0_1 a1_0 a1_1) := by
  intro a0_0 a0_1 a1_0 a1_1 k
  unfold astrolabe_ratio.f
  try simp only [ob_eq, oif_eq]
  repeat' first
    | (with_reducible exact interval_Scale.mono _ _ _ _ _)
    | (with_reducible exact interval_Div.mono _ _ _ _ _)
    | (with_reducible exact LeO.refl _)
    | (with_reducible exact LeO.none _)
    | (with_reducible refine LeO.ite ?_ ?_)
    | (with_reducible refine LeO.bind ?_ (fun _ => ?_))
def astrolabe_ratio.OQ {R : Type} (k : Nat) : OraQ R := fun g args K => match g with
  | 74 => (match args with | [.agg ⟨[.int .i64 a0_0, .int .i64 a0_1]⟩, .int .i64 a1, .int .i64 a2] => (interval_Scale.f k a0_0 a0_1 a1 a2).bind fun q => K (.tuple ⟨[.agg ⟨[.int .i64 q.1, .int .i64 q.2.1]⟩, .int .i64 q.2.2]⟩) | _ => none)
  | 89 => (match args with | [.agg ⟨[.int .i64 a0_0, .int .i64 a0_1]⟩, .agg ⟨[.int .i64 a1_0, .int .i64 a1_1]⟩] => (interval_Div.f k a0_0 a0_1 a1_0 a1_1).bind fun q => K (.tuple ⟨[.agg ⟨[.int .i64 q.1, .int .i64 q.2.1]⟩, .int .i64 q.2.2]⟩) | _ => none)
  | _ => none
theorem astrolabe_ratio.OQ_ok (k : Nat) (Φ : World → Prop) (base : Nat) {R : Type} : OraQOk Try.prog (fun _ => undef) Φ base (astrolabe_ratio.OQ (R := R) k) := by
  intro g args K r h
  unfold astrolabe_ratio.OQ at h
  split at h
  · split at h
    · obtain ⟨q, hq, h⟩ := Option.bind_eq_some_iff.mp h
      exact ⟨_, h, callQ_of rfl rfl fun w => (interval_Scale.calls k _ _ _ _ _ _ _ w hq).mono fun e w' he => ⟨he.1, he.2⟩⟩
    · cases h
  · split at h
    · obtain ⟨q, hq, h⟩ := Option.bind_eq_some_iff.mp h
      exact ⟨_, h, callQ_of rfl rfl fun w => (interval_Div.calls k _ _ _ _ _ _ _ w hq).mono fun e w' he => ⟨he.1, he.2⟩⟩
    · cases h
  · cases h
def astrolabe_ratio.F (v : Value) (_ : Mem) : Option (Int × Int) := match v with | .agg ⟨[.int .i64 r1, .int .i64 r2]⟩ => some (r1, r2) | _ => none
theorem astrolabe_ratio.run (k : Nat) (a0_0 : Int) (a0_1 : Int) (a1_0 : Int) (a1_1 : Int) : runM Try.prog (liftQ (astrolabe_ratio.OQ k)) (drawQ Try.prog (astrolabe_ratio.OQ k)) (fun _ => none) (atEnd Try.prog Try.f68 astrolabe_ratio.F) 5000 [.code (Try.f68.body.getD .skip)] ([.agg ⟨[.int .i64 a0_0, .int .i64 a0_1]⟩, .agg ⟨[.int .i64 a1_0, .int .i64 a1_1]⟩] ++ List.replicate (Try.f68.ntmps - ([.agg ⟨[.int .i64 a0_0, .int .i64 a0_1]⟩, .agg ⟨[.int .i64 a1_0, .int .i64 a1_1]⟩] : List Value).length) undef) [] = astrolabe_ratio.f k a0_0 a0_1 a1_0 a1_1 := by kernel_rfl
theorem astrolabe_ratio.calls (k : Nat) (a0_0 : Int) (a0_1 : Int) (a1_0 : Int) (a1_1 : Int) (r1 : Int) (r2 : Int) (w : World) (h : astrolabe_ratio.f k a0_0 a0_1 a1_0 a1_1 = some (r1, r2)) :
    Calls Try.prog 68 #[.agg #[.int .i64 a0_0, .int .i64 a0_1], .agg #[.int .i64 a1_0, .int .i64 a1_1]] w fun e w' => e = .returned (.agg #[.int .i64 r1, .int .i64 r2]) ∧ Below w.heap.size w w' := by
  refine calls_closed (OQ := astrolabe_ratio.OQ k) (LF := fun _ => none) (F := astrolabe_ratio.F) (r := (r1, r2)) (Checked.mixed Try.checked) (fun Φ base _ => astrolabe_ratio.OQ_ok k Φ base) (LS := fun _ => True) (fun Φ base _ c _ live len f e => by cases e) Try.func68 rfl (fun _ _ => trivial) rfl (fun u m hu => ?_) rfl (((astrolabe_ratio.run k a0_0 a0_1 a1_0 a1_1).trans h)) w
  unfold astrolabe_ratio.F at hu
  split at hu
  · cases hu; rfl
  · cases hu
end Go.Proofs.Ytelcegpaakbppaa.PAll
end
section
namespace Go.Proofs.Ytelcegpaakbppaa.PAll
open Go Go.RowKit Go.Proofs.YtelcegpaakbppaaW.PrintWords Go.Proofs.Ytelcegpaakbppaa.Sx
set_option linter.unusedVariables false
set_option linter.unusedSimpArgs false
set_option maxRecDepth 100000
def astrolabe_plus.f (k : Nat) (a0_0 : Int) (a0_1 : Int) (a1_0 : Int) (a1_1 : Int) : Option (Int × Int) :=
  some (IntKind.i64.wrap (a0_0 + a1_0), IntKind.i64.wrap (a0_1 + a1_1))
theorem astrolabe_plus.mono : ∀ a0_0 a0_1 a1_0 a1_1 k, LeO (astrolabe_plus.f k a0_0 a0_1 a1_0 a1_1) (astrolabe_plus.f (k + 1) a0_0 a0_1 a1_0 a1_1) := by
  intro a0_0 a0_1 a1_0 a1_1 k
  unfold astrolabe_plus.f
  try simp only [ob_eq, oif_eq]
  repeat' first
    | (with_reducible exact LeO.refl _)
    | (with_reducible exact LeO.none _)
    | (with_reducible refine LeO.ite ?_ ?_)
    | (with_reducible refine LeO.bind ?_ (fun _ => ?_))
def astrolabe_plus.OQ {R : Type} (k : Nat) : OraQ R := fun g args K => match g with
  | _ => none
theorem astrolabe_plus.OQ_ok (k : Nat) (Φ : World → Prop) (base : Nat) {R : Type} : OraQOk Try.prog (fun _ => undef) Φ base (astrolabe_plus.OQ (R := R) k) := by
  intro g args K r h
  unfold astrolabe_plus.OQ at h
  split at h
  · cases h
def astrolabe_plus.F (v : Value) (_ : Mem) : Option (Int × Int) := match v with | .agg ⟨[.int .i64 r1, .int .i64 r2]⟩ => some (r1, r2) | _ => none
theorem astrolabe_plus.run (k : Nat) (a0_0 : Int) (a0_1 : Int) (a1_0 : Int) (a1_1 : Int) : runM Try.prog (liftQ (astrolabe_plus.OQ k)) (drawQ Try.prog (astrolabe_plus.OQ k)) (fun _ => none) (atEnd Try.prog Try.f69 astrolabe_plus.F) 5000 [.code (Try.f69.body.getD .skip)] ([.agg ⟨[.int .i64 a0_0, .int .i64 a0_1]⟩, .agg ⟨[.int .i64 a1_0, .int .i64 a1_1]⟩] ++ List.replicate (Try.f69.ntmps - ([.agg ⟨[.int .i64 a0_0, .int .i64 a0_1]⟩, .agg ⟨[.int .i64 a1_0, .int .i64 a1_1]⟩] : List Value).length) undef) [] = astrolabe_plus.f k a0_0 a0_1 a1_0 a1_1 := by kernel_rfl
theorem astrolabe_plus.calls (k : Nat) (a0_0 : Int) (a0_1 : Int) (a1_0 : Int) (a1_1 : Int) (r1 : Int) (r2 : Int) (w : World) (h : astrolabe_plus.f k a0_0 a0_1 a1_0 a1_1 = some (r1, r2)) :
    Calls Try.prog 69 #[.agg #[.int .i64 a0_0, .int .i64 a0_1], .agg #[.int .i64 a1_0, .int .i64 a1_1]] w fun e w' => e = .returned (.agg #[.int .i64 r1, .int .i64 r2]) ∧ Below w.heap.size w w' := by
  refine calls_closed (OQ := astrolabe_plus.OQ k) (LF := fun _ => none) (F := astrolabe_plus.F) (r := (r1, r2)) (Checked.mixed Try.checked) (fun Φ base _ => astrolabe_plus.OQ_ok k Φ base) (LS := fun _ => True) (fun Φ base _ c _ live len f e => by cases e) Try.func69 rfl (fun _ _ => trivial) rfl (fun u m hu => ?_) rfl (((astrolabe_plus.run k a0_0 a0_1 a1_0 a1_1).trans h)) w
  unfold astrolabe_plus.F at hu
  split at hu
  · cases hu; rfl
  · cases hu
end Go.Proofs.Ytelcegpaakbppaa.PAll
end
section
namespace Go.Proofs.Ytelcegpaakbppaa.PAll
open Go Go.RowKit Go.Proofs.YtelcegpaakbppaaW.PrintWords Go.Proofs.Ytelcegpaakbppaa.Sx
set_option linter.unusedVariables false
set_option linter.unusedSimpArgs false
set_option maxRecDepth 100000
def astrolabe_Ring.f (k : Nat) (a0 : Int) : Option (Int × Int × Int) :=
  oif (decide (a0 < -195000000) = true) (
   some (0, 0, 3)) (
   oif (decide (a0 > 250000000) = true) (
    some (0, 0, 3)) (
    ob (trig_Sin.f k a0) fun t1 =>
    ob (trig_Cos.f k a0) fun t2 =>
    ob (astrolabe_plus.f k 1000000000 1000000000 t1.fst t1.snd.fst) fun t3 =>
    ob (astrolabe_ratio.f k t2.fst t2.snd.fst t3.fst t3.snd) fun t4 =>
    some (t4.fst, t4.snd, 0)))
theorem astrolabe_Ring.mono : ∀ a0 k, LeO (astrolabe_Ring.f k a0) (astrolabe_Ring.f (k + 1) a0) := by
  intro a0 k
  unfold astrolabe_Ring.f
  try simp only [ob_eq, oif_eq]
  repeat' first
    | (with_reducible exact trig_Sin.mono _ _)
    | (with_reducible exact trig_Cos.mono _ _)
    | (with_reducible exact astrolabe_ratio.mono _ _ _ _ _)
    | (with_reducible exact astrolabe_plus.mono _ _ _ _ _)
    | (with_reducible exact LeO.refl _)
    | (with_reducible exact LeO.none _)
    | (with_reducible refine LeO.ite ?_ ?_)
    | (with_reducible refine LeO.bind ?_ (fun _ => ?_))
def astrolabe_Ring.OQ {R : Type} (k : Nat) : OraQ R := fun g args K => match g with
  | 17 => (match args with | [.int .i64 a0] => (trig_Sin.f k a0).bind fun q => K (.tuple ⟨[.agg ⟨[.int .i64 q.1, .int .i64 q.2.1]⟩, .int .i64 q.2.2]⟩) | _ => none)
  | 18 => (match args with | [.int .i64 a0] => (trig_Cos.f k a0).bind fun q => K (.tuple ⟨[.agg ⟨[.int .i64 q.1, .int .i64 q.2.1]⟩, .int .i64 q.2.2]⟩) | _ => none)
  | 68 => (match args with | [.agg ⟨[.int .i64 a0_0, .int .i64 a0_1]⟩, .agg ⟨[.int .i64 a1_0, .int .i64 a1_1]⟩] => (astrolabe_ratio.f k a0_0 a0_1 a1_0 a1_1).bind fun q => K (.agg ⟨[.int .i64 q.1, .int .i64 q.2]⟩) | _ => none)
  | 69 => (match args with | [.agg ⟨[.int .i64 a0_0, .int .i64 a0_1]⟩, .agg ⟨[.int .i64 a1_0, .int .i64 a1_1]⟩] => (astrolabe_plus.f k a0_0 a0_1 a1_0 a1_1).bind fun q => K (.agg ⟨[.int .i64 q.1, .int .i64 q.2]⟩) | _ => none)
  | _ => none
theorem astrolabe_Ring.OQ_ok (k : Nat) (Φ : World → Prop) (base : Nat) {R : Type} : OraQOk Try.prog (fun _ => undef) Φ base (astrolabe_Ring.OQ (R := R) k) := by
  intro g args K r h
  unfold astrolabe_Ring.OQ at h
  split at h
  · split at h
    · obtain ⟨q, hq, h⟩ := Option.bind_eq_some_iff.mp h
      exact ⟨_, h, callQ_of rfl rfl fun w => (trig_Sin.calls k _ _ _ _ w hq).mono fun e w' he => ⟨he.1, he.2⟩⟩
    · cases h
  · split at h
    · obtain ⟨q, hq, h⟩ := Option.bind_eq_some_iff.mp h
      exact ⟨_, h, callQ_of rfl rfl fun w => (trig_Cos.calls k _ _ _ _ w hq).mono fun e w' he => ⟨he.1, he.2⟩⟩
    · cases h
  · split at h
    · obtain ⟨q, hq, h⟩ := Option.bind_eq_some_iff.mp h
      exact ⟨_, h, callQ_of rfl rfl fun w => (astrolabe_ratio.calls k _ _ _ _ _ _ w hq).mono fun e w' he => ⟨he.1, he.2⟩⟩
    · cases h
  · split at h
    · obtain ⟨q, hq, h⟩ := Option.bind_eq_some_iff.mp h
      exact ⟨_, h, callQ_of rfl rfl fun w => (astrolabe_plus.calls k _ _ _ _ _ _ w hq).mono fun e w' he => ⟨he.1, he.2⟩⟩
    · cases h
  · cases h
def astrolabe_Ring.F (v : Value) (_ : Mem) : Option (Int × Int × Int) := match v with | .tuple ⟨[.agg ⟨[.int .i64 r1, .int .i64 r2]⟩, .int .i64 r3]⟩ => some (r1, r2, r3) | _ => none
theorem astrolabe_Ring.run (k : Nat) (a0 : Int) : runM Try.prog (liftQ (astrolabe_Ring.OQ k)) (drawQ Try.prog (astrolabe_Ring.OQ k)) (fun _ => none) (atEnd Try.prog Try.f36 astrolabe_Ring.F) 5000 [.code (Try.f36.body.getD .skip)] ([.int .i64 a0] ++ List.replicate (Try.f36.ntmps - ([.int .i64 a0] : List Value).length) undef) [] = astrolabe_Ring.f k a0 := by kernel_rfl
theorem astrolabe_Ring.calls (k : Nat) (a0 : Int) (r1 : Int) (r2 : Int) (r3 : Int) (w : World) (h : astrolabe_Ring.f k a0 = some (r1, r2, r3)) :
    Calls Try.prog 36 #[.int .i64 a0] w fun e w' => e = .returned (.tuple #[.agg #[.int .i64 r1, .int .i64 r2], .int .i64 r3]) ∧ Below w.heap.size w w' := by
  refine calls_closed (OQ := astrolabe_Ring.OQ k) (LF := fun _ => none) (F := astrolabe_Ring.F) (r := (r1, r2, r3)) (Checked.mixed Try.checked) (fun Φ base _ => astrolabe_Ring.OQ_ok k Φ base) (LS := fun _ => True) (fun Φ base _ c _ live len f e => by cases e) Try.func36 rfl (fun _ _ => trivial) rfl (fun u m hu => ?_) rfl (((astrolabe_Ring.run k a0).trans h)) w
  unfold astrolabe_Ring.F at hu
  split at hu
  · cases hu; rfl
  · cases hu
end Go.Proofs.Ytelcegpaakbppaa.PAll
end
section
namespace Go.Proofs.Ytelcegpaakbppaa.PAll
open Go Go.RowKit Go.Proofs.YtelcegpaakbppaaW.PrintWords Go.Proofs.Ytelcegpaakbppaa.Sx
set_option linter.unusedVariables false
set_option linter.unusedSimpArgs false
set_option maxRecDepth 100000
def astrolabe_Almucantar.f (k : Nat) (a0 : Int) (a1 : Int) : Option (Int × Int × Int × Int × Int) :=
  oif (decide (a0 < 10000000) = true) (
   some (0, 0, 0, 0, 3)) (
   oif (decide (a0 > 220000000) = true) (
    some (0, 0, 0, 0, 3)) (
    oif (decide (a1 < 0) = true) (
     some (0, 0, 0, 0, 1)) (
     oif (decide (a1 > 220000000) = true) (
      some (0, 0, 0, 0, 1)) (
      ob (trig_Sin.f k a0) fun t1 =>
      ob (trig_Cos.f k a0) fun t2 =>
      ob (trig_Sin.f k a1) fun t3 =>
      ob (trig_Cos.f k a1) fun t4 =>
      ob (astrolabe_plus.f k t1.fst t1.snd.fst t3.fst t3.snd.fst) fun t5 =>
      ob (astrolabe_ratio.f k t2.fst t2.snd.fst t5.fst t5.snd) fun t6 =>
      ob (astrolabe_ratio.f k t4.fst t4.snd.fst t5.fst t5.snd) fun t7 =>
      some (t6.fst, t6.snd, t7.fst, t7.snd, 0)))))
theorem astrolabe_Almucantar.mono : ∀ a0 a1 k, LeO (astrolabe_Almucantar.f k a0 a1) (astrolabe_Almucantar.f (k + 1) a0 a1) := by
  intro a0 a1 k
  unfold astrolabe_Almucantar.f
  try simp only [ob_eq, oif_eq]
  repeat' first
    | (with_reducible exact trig_Sin.mono _ _)
    | (with_reducible exact trig_Cos.mono _ _)
    | (with_reducible exact astrolabe_ratio.mono _ _ _ _ _)
    | (with_reducible exact astrolabe_plus.mono _ _ _ _ _)
    | (with_reducible exact LeO.refl _)
    | (with_reducible exact LeO.none _)
    | (with_reducible refine LeO.ite ?_ ?_)
    | (with_reducible refine LeO.bind ?_ (fun _ => ?_))
def astrolabe_Almucantar.OQ {R : Type} (k : Nat) : OraQ R := fun g args K => match g with
  | 17 => (match args with | [.int .i64 a0] => (trig_Sin.f k a0).bind fun q => K (.tuple ⟨[.agg ⟨[.int .i64 q.1, .int .i64 q.2.1]⟩, .int .i64 q.2.2]⟩) | _ => none)
  | 18 => (match args with | [.int .i64 a0] => (trig_Cos.f k a0).bind fun q => K (.tuple ⟨[.agg ⟨[.int .i64 q.1, .int .i64 q.2.1]⟩, .int .i64 q.2.2]⟩) | _ => none)
  | 68 => (match args with | [.agg ⟨[.int .i64 a0_0, .int .i64 a0_1]⟩, .agg ⟨[.int .i64 a1_0, .int .i64 a1_1]⟩] => (astrolabe_ratio.f k a0_0 a0_1 a1_0 a1_1).bind fun q => K (.agg ⟨[.int .i64 q.1, .int .i64 q.2]⟩) | _ => none)
  | 69 => (match args with | [.agg ⟨[.int .i64 a0_0, .int .i64 a0_1]⟩, .agg ⟨[.int .i64 a1_0, .int .i64 a1_1]⟩] => (astrolabe_plus.f k a0_0 a0_1 a1_0 a1_1).bind fun q => K (.agg ⟨[.int .i64 q.1, .int .i64 q.2]⟩) | _ => none)
  | _ => none
theorem astrolabe_Almucantar.OQ_ok (k : Nat) (Φ : World → Prop) (base : Nat) {R : Type} : OraQOk Try.prog (fun _ => undef) Φ base (astrolabe_Almucantar.OQ (R := R) k) := by
  intro g args K r h
  unfold astrolabe_Almucantar.OQ at h
  split at h
  · split at h
    · obtain ⟨q, hq, h⟩ := Option.bind_eq_some_iff.mp h
      exact ⟨_, h, callQ_of rfl rfl fun w => (trig_Sin.calls k _ _ _ _ w hq).mono fun e w' he => ⟨he.1, he.2⟩⟩
    · cases h
  · split at h
    · obtain ⟨q, hq, h⟩ := Option.bind_eq_some_iff.mp h
      exact ⟨_, h, callQ_of rfl rfl fun w => (trig_Cos.calls k _ _ _ _ w hq).mono fun e w' he => ⟨he.1, he.2⟩⟩
    · cases h
  · split at h
    · obtain ⟨q, hq, h⟩ := Option.bind_eq_some_iff.mp h
      exact ⟨_, h, callQ_of rfl rfl fun w => (astrolabe_ratio.calls k _ _ _ _ _ _ w hq).mono fun e w' he => ⟨he.1, he.2⟩⟩
    · cases h
  · split at h
    · obtain ⟨q, hq, h⟩ := Option.bind_eq_some_iff.mp h
      exact ⟨_, h, callQ_of rfl rfl fun w => (astrolabe_plus.calls k _ _ _ _ _ _ w hq).mono fun e w' he => ⟨he.1, he.2⟩⟩
    · cases h
  · cases h
def astrolabe_Almucantar.F (v : Value) (_ : Mem) : Option (Int × Int × Int × Int × Int) := match v with | .tuple ⟨[.agg ⟨[.int .i64 r1, .int .i64 r2]⟩, .agg ⟨[.int .i64 r3, .int .i64 r4]⟩, .int .i64 r5]⟩ => some (r1, r2, r3, r4, r5) | _ => none
theorem astrolabe_Almucantar.run (k : Nat) (a0 : Int) (a1 : Int) : runM Try.prog (liftQ (astrolabe_Almucantar.OQ k)) (drawQ Try.prog (astrolabe_Almucantar.OQ k)) (fun _ => none) (atEnd Try.prog Try.f38 astrolabe_Almucantar.F) 5000 [.code (Try.f38.body.getD .skip)] ([.int .i64 a0, .int .i64 a1] ++ List.replicate (Try.f38.ntmps - ([.int .i64 a0, .int .i64 a1] : List Value).length) undef) [] = astrolabe_Almucantar.f k a0 a1 := by kernel_rfl
theorem astrolabe_Almucantar.calls (k : Nat) (a0 : Int) (a1 : Int) (r1 : Int) (r2 : Int) (r3 : Int) (r4 : Int) (r5 : Int) (w : World) (h : astrolabe_Almucantar.f k a0 a1 = some (r1, r2, r3, r4, r5)) :
    Calls Try.prog 38 #[.int .i64 a0, .int .i64 a1] w fun e w' => e = .returned (.tuple #[.agg #[.int .i64 r1, .int .i64 r2], .agg #[.int .i64 r3, .int .i64 r4], .int .i64 r5]) ∧ Below w.heap.size w w' := by
  refine calls_closed (OQ := astrolabe_Almucantar.OQ k) (LF := fun _ => none) (F := astrolabe_Almucantar.F) (r := (r1, r2, r3, r4, r5)) (Checked.mixed Try.checked) (fun Φ base _ => astrolabe_Almucantar.OQ_ok k Φ base) (LS := fun _ => True) (fun Φ base _ c _ live len f e => by cases e) Try.func38 rfl (fun _ _ => trivial) rfl (fun u m hu => ?_) rfl (((astrolabe_Almucantar.run k a0 a1).trans h)) w
  unfold astrolabe_Almucantar.F at hu
  split at hu
  · cases hu; rfl
  · cases hu
end Go.Proofs.Ytelcegpaakbppaa.PAll
end
section
namespace Go.Proofs.Ytelcegpaakbppaa.PAll
open Go.RowKit Go.Proofs.YtelcegpaakbppaaW.PrintWords Go.Proofs.YtelcegpaakbppaaW.PrintLast Go.Proofs.YtelcegpaakbppaaW.PrintMore Go.Proofs.Ytelcegpaakbppaa.More2
attribute [local go_sem] max2_int min2_int max_two min_two max_three min_three max_four min_four tdiv2e18_ tdiv1e18_ cellSS_  -- for this text's walks alone
set_option linter.unusedVariables false
set_option linter.unusedSimpArgs false
def ephemerislaw2_has.f (a0_0 : Int) (a0_1 : Int) (a1 : Int) (a2 : Int) : Option (Bool) := if a0_0 ≤ a1 then (if a1 ≤ a0_1 then (some (decide ((wrap64 (a0_1 - a0_0)) ≤ a2))) else (some false)) else (some false)
set_option maxHeartbeats 8000000 in
set_option maxRecDepth 100000 in
theorem ephemerislaw2_has.calls (a0_0 : Int) (a0_1 : Int) (a1 : Int) (a2 : Int) (r : Bool) (w : World) (h : ephemerislaw2_has.f a0_0 a0_1 a1 a2 = some r) :
    Calls Try.prog 56 #[.agg #[.int .i64 a0_0, .int .i64 a0_1], .int .i64 a1, .int .i64 a2] w fun e w' => e = .returned (.bool r) ∧ Below w.heap.size w w' := by
  have hu24 := Try.underlying24
  have HB := Aside0.mk (Below.refl w.heap.size w)
  have H : (if a0_0 ≤ a1 then (if a1 ≤ a0_1 then (some (decide ((wrap64 (a0_1 - a0_0)) ≤ a2))) else (some false)) else (some false)) = some r := h
  clear h
  by_cases c4 : a0_0 ≤ a1
  · rw [if_pos c4] at H
    have c4b0 : decide (a0_0 ≤ a1) = true := decide_eq_true c4
    clear c4
    by_cases c5 : a1 ≤ a0_1
    · rw [if_pos c5] at H
      have c5b0 : decide (a1 ≤ a0_1) = true := decide_eq_true c5
      clear c5
      obtain rfl := Option.some.inj H
      simp only [Option.some.injEq, Prod.mk.injEq] at H
      obtain ⟨rfl⟩ := H
      go_enter Try.func56, Try.ntmps56
      go_wp2_with (first | ((with_reducible refine gate_dst (N := 3) rfl ?_); refine box_event ?hg (N := 3) ?hd (cs := #[.int .i64 a0_0, .int .i64 a0_1]) (t := 24) ?hr ?_; (case hd => rfl); (case hg => rfl); (case hr => first | (go_simp; done) | (go_simp; rfl)); intro gb164 hg w6 hbox hb; have n0_ := Aside0.mk (below_step (by repeat (first | (with_reducible first | exact HB.out | apply below_alloc | apply pw_below_drewN | apply below_drew1) | exact HB.out)) hb); have n1_ := Aside0.mk (hbox); have n2_ := Aside0.mk ((by rw [hg]; exact (below_size (by repeat (first | (with_reducible first | exact HB.out | apply below_alloc | apply pw_below_drewN | apply below_drew1) | exact HB.out))) : w.heap.size ≤ gb164)); have n3_ := Aside0.mk ((by rw [hg]; exact (below_size (by repeat (first | (with_reducible first | exact HB.out | apply below_alloc | apply pw_below_drewN | apply below_drew1) | exact HB.out))) : w.heap.size ≤ gb164)); clear HB; have HB := n0_; have BK164 := n1_; have GW164 := n2_; have GE164 := n3_; clear n0_ n1_ n2_ n3_; clear hb hbox hg; have hcz7_0 : w6.cell? ⟨gb164, 0, none⟩ = some (.int .i64 a0_0) := (blk_cell BK164.out 0).trans rfl; have hcz7_1 : w6.cell? ⟨gb164, 1, none⟩ = some (.int .i64 a0_1) := (blk_cell BK164.out 1).trans rfl; have hfz7_0 := blk_frozen BK164.out 0; have hfz7_1 := blk_frozen BK164.out 1))
      go_ret
      exact ⟨by first | rfl | (simp [errW_none, errW_some] <;> rfl) | (simp [*, errW_none, errW_some] <;> rfl), by repeat (first | (with_reducible first | exact HB.out | apply below_alloc | apply pw_below_drewN | apply below_drew1 | refine below_set ?_ GE164.out) | exact HB.out)⟩
    · rw [if_neg c5] at H
      have c5b0 : decide (a1 ≤ a0_1) = false := decide_eq_false c5
      clear c5
      obtain rfl := Option.some.inj H
      simp only [Option.some.injEq, Prod.mk.injEq] at H
      obtain ⟨rfl⟩ := H
      go_enter Try.func56, Try.ntmps56
      go_wp2_with (first | ((with_reducible refine gate_dst (N := 3) rfl ?_); refine box_event ?hg (N := 3) ?hd (cs := #[.int .i64 a0_0, .int .i64 a0_1]) (t := 24) ?hr ?_; (case hd => rfl); (case hg => rfl); (case hr => first | (go_simp; done) | (go_simp; rfl)); intro gb164 hg w8 hbox hb; have n0_ := Aside0.mk (below_step (by repeat (first | (with_reducible first | exact HB.out | apply below_alloc | apply pw_below_drewN | apply below_drew1) | exact HB.out)) hb); have n1_ := Aside0.mk (hbox); have n2_ := Aside0.mk ((by rw [hg]; exact (below_size (by repeat (first | (with_reducible first | exact HB.out | apply below_alloc | apply pw_below_drewN | apply below_drew1) | exact HB.out))) : w.heap.size ≤ gb164)); have n3_ := Aside0.mk ((by rw [hg]; exact (below_size (by repeat (first | (with_reducible first | exact HB.out | apply below_alloc | apply pw_below_drewN | apply below_drew1) | exact HB.out))) : w.heap.size ≤ gb164)); clear HB; have HB := n0_; have BK164 := n1_; have GW164 := n2_; have GE164 := n3_; clear n0_ n1_ n2_ n3_; clear hb hbox hg; have hcz9_0 : w8.cell? ⟨gb164, 0, none⟩ = some (.int .i64 a0_0) := (blk_cell BK164.out 0).trans rfl; have hcz9_1 : w8.cell? ⟨gb164, 1, none⟩ = some (.int .i64 a0_1) := (blk_cell BK164.out 1).trans rfl; have hfz9_0 := blk_frozen BK164.out 0; have hfz9_1 := blk_frozen BK164.out 1))
      go_ret
      exact ⟨by first | rfl | (simp [errW_none, errW_some] <;> rfl) | (simp [*, errW_none, errW_some] <;> rfl), by repeat (first | (with_reducible first | exact HB.out | apply below_alloc | apply pw_below_drewN | apply below_drew1 | refine below_set ?_ GE164.out) | exact HB.out)⟩
  · rw [if_neg c4] at H
    have c4b0 : decide (a0_0 ≤ a1) = false := decide_eq_false c4
    clear c4
    obtain rfl := Option.some.inj H
    simp only [Option.some.injEq, Prod.mk.injEq] at H
    obtain ⟨rfl⟩ := H
    go_enter Try.func56, Try.ntmps56
    go_wp2_with (first | ((with_reducible refine gate_dst (N := 3) rfl ?_); refine box_event ?hg (N := 3) ?hd (cs := #[.int .i64 a0_0, .int .i64 a0_1]) (t := 24) ?hr ?_; (case hd => rfl); (case hg => rfl); (case hr => first | (go_simp; done) | (go_simp; rfl)); intro gb164 hg w10 hbox hb; have n0_ := Aside0.mk (below_step (by repeat (first | (with_reducible first | exact HB.out | apply below_alloc | apply pw_below_drewN | apply below_drew1) | exact HB.out)) hb); have n1_ := Aside0.mk (hbox); have n2_ := Aside0.mk ((by rw [hg]; exact (below_size (by repeat (first | (with_reducible first | exact HB.out | apply below_alloc | apply pw_below_drewN | apply below_drew1) | exact HB.out))) : w.heap.size ≤ gb164)); have n3_ := Aside0.mk ((by rw [hg]; exact (below_size (by repeat (first | (with_reducible first | exact HB.out | apply below_alloc | apply pw_below_drewN | apply below_drew1) | exact HB.out))) : w.heap.size ≤ gb164)); clear HB; have HB := n0_; have BK164 := n1_; have GW164 := n2_; have GE164 := n3_; clear n0_ n1_ n2_ n3_; clear hb hbox hg; have hcz11_0 : w10.cell? ⟨gb164, 0, none⟩ = some (.int .i64 a0_0) := (blk_cell BK164.out 0).trans rfl; have hcz11_1 : w10.cell? ⟨gb164, 1, none⟩ = some (.int .i64 a0_1) := (blk_cell BK164.out 1).trans rfl; have hfz11_0 := blk_frozen BK164.out 0; have hfz11_1 := blk_frozen BK164.out 1))
    go_ret
    exact ⟨by first | rfl | (simp [errW_none, errW_some] <;> rfl) | (simp [*, errW_none, errW_some] <;> rfl), by repeat (first | (with_reducible first | exact HB.out | apply below_alloc | apply pw_below_drewN | apply below_drew1 | refine below_set ?_ GE164.out) | exact HB.out)⟩
end Go.Proofs.Ytelcegpaakbppaa.PAll
end
section
namespace Go.Proofs.Ytelcegpaakbppaa.PAll
open Go Go.RowKit Go.Proofs.YtelcegpaakbppaaW.PrintWords Go.Proofs.Ytelcegpaakbppaa.Sx
set_option linter.unusedVariables false
set_option linter.unusedSimpArgs false
set_option maxRecDepth 100000
def ephemerislaw2_astrolabeWorks.f (k : Nat)  : Option (Bool) :=
  ob (astrolabe_Ring.f k 0) fun t1 =>
  ob (astrolabe_Almucantar.f k 125000000 0) fun t2 =>
  oif ((t1.snd.snd == 0) = true) (
   ob (ephemerislaw2_has.f t1.fst t1.snd.fst 1000000 4) fun t3 =>
   oif (t3 = true) (
    oif ((t2.snd.snd.snd.snd == 0) = true) (
     ob (ephemerislaw2_has.f t2.fst t2.snd.fst 1000000 10) fun t4 =>
     some (t4)) (
     some (false))) (
    some (false))) (
   some (false))
theorem ephemerislaw2_astrolabeWorks.mono : ∀ k, LeO (ephemerislaw2_astrolabeWorks.f k) (ephemerislaw2_astrolabeWorks.f (k + 1)) := by
  intro  k
  unfold ephemerislaw2_astrolabeWorks.f
  try simp only [ob_eq, oif_eq]
  repeat' first
    | (with_reducible exact astrolabe_Ring.mono _ _)
    | (with_reducible exact astrolabe_Almucantar.mono _ _ _)
    | (with_reducible exact LeO.refl _)
    | (with_reducible exact LeO.none _)
    | (with_reducible refine LeO.ite ?_ ?_)
    | (with_reducible refine LeO.bind ?_ (fun _ => ?_))
def ephemerislaw2_astrolabeWorks.OQ {R : Type} (k : Nat) : OraQ R := fun g args K => match g with
  | 36 => (match args with | [.int .i64 a0] => (astrolabe_Ring.f k a0).bind fun q => K (.tuple ⟨[.agg ⟨[.int .i64 q.1, .int .i64 q.2.1]⟩, .int .i64 q.2.2]⟩) | _ => none)
  | 38 => (match args with | [.int .i64 a0, .int .i64 a1] => (astrolabe_Almucantar.f k a0 a1).bind fun q => K (.tuple ⟨[.agg ⟨[.int .i64 q.1, .int .i64 q.2.1]⟩, .agg ⟨[.int .i64 q.2.2.1, .int .i64 q.2.2.2.1]⟩, .int .i64 q.2.2.2.2]⟩) | _ => none)
  | 56 => (match args with | [.agg ⟨[.int .i64 a0_0, .int .i64 a0_1]⟩, .int .i64 a1, .int .i64 a2] => (ephemerislaw2_has.f a0_0 a0_1 a1 a2).bind fun q => K (.bool q) | _ => none)
  | _ => none
theorem ephemerislaw2_astrolabeWorks.OQ_ok (k : Nat) (Φ : World → Prop) (base : Nat) {R : Type} : OraQOk Try.prog (fun _ => undef) Φ base (ephemerislaw2_astrolabeWorks.OQ (R := R) k) := by
  intro g args K r h
  unfold ephemerislaw2_astrolabeWorks.OQ at h
  split at h
  · split at h
    · obtain ⟨q, hq, h⟩ := Option.bind_eq_some_iff.mp h
      exact ⟨_, h, callQ_of rfl rfl fun w => (astrolabe_Ring.calls k _ _ _ _ w hq).mono fun e w' he => ⟨he.1, he.2⟩⟩
    · cases h
  · split at h
    · obtain ⟨q, hq, h⟩ := Option.bind_eq_some_iff.mp h
      exact ⟨_, h, callQ_of rfl rfl fun w => (astrolabe_Almucantar.calls k _ _ _ _ _ _ _ w hq).mono fun e w' he => ⟨he.1, he.2⟩⟩
    · cases h
  · split at h
    · obtain ⟨q, hq, h⟩ := Option.bind_eq_some_iff.mp h
      exact ⟨_, h, callQ_of rfl rfl fun w => (ephemerislaw2_has.calls _ _ _ _ _ w hq).mono fun e w' he => ⟨he.1, he.2⟩⟩
    · cases h
  · cases h
def ephemerislaw2_astrolabeWorks.F (v : Value) (_ : Mem) : Option (Bool) := match v with | .bool r => some (r) | _ => none
theorem ephemerislaw2_astrolabeWorks.run (k : Nat)  : runM Try.prog (liftQ (ephemerislaw2_astrolabeWorks.OQ k)) (drawQ Try.prog (ephemerislaw2_astrolabeWorks.OQ k)) (fun _ => none) (atEnd Try.prog Try.f35 ephemerislaw2_astrolabeWorks.F) 5000 [.code (Try.f35.body.getD .skip)] ([] ++ List.replicate (Try.f35.ntmps - ([] : List Value).length) undef) [] = ephemerislaw2_astrolabeWorks.f k  := by kernel_rfl
theorem ephemerislaw2_astrolabeWorks.calls (k : Nat)  (r : Bool) (w : World) (h : ephemerislaw2_astrolabeWorks.f k  = some (r)) (hT : r = true) :
    Calls Try.prog 35 #[] w fun e w' => e = .returned (.bool r) ∧ Below w.heap.size w w' := by
  refine calls_closed (OQ := ephemerislaw2_astrolabeWorks.OQ k) (LF := fun _ => none) (F := ephemerislaw2_astrolabeWorks.F) (r := (r)) (Checked.mixed Try.checked) (fun Φ base _ => ephemerislaw2_astrolabeWorks.OQ_ok k Φ base) (LS := fun _ => True) (fun Φ base _ c _ live len f e => by cases e) Try.func35 rfl (fun _ _ => trivial) rfl (fun u m hu => ?_) rfl (((ephemerislaw2_astrolabeWorks.run k ).trans h)) w
  unfold ephemerislaw2_astrolabeWorks.F at hu
  split at hu
  · cases hu; rfl
  · cases hu
end Go.Proofs.Ytelcegpaakbppaa.PAll
end
section
namespace Go.Proofs.Ytelcegpaakbppaa.PAll
open Go Go.RowKit Go.Proofs.YtelcegpaakbppaaW.PrintWords Go.Proofs.Ytelcegpaakbppaa.Sx
set_option linter.unusedVariables false
set_option linter.unusedSimpArgs false
set_option maxRecDepth 100000
def ephemerisref2_Times.f (k : Nat) (a0_0 : Bool) (a0_1 : Int) (a0_2 : Int) (a0_3 : Int) (a0_4 : Int) (a0_5 : Int) (a0_6 : Int) (a1_0 : Bool) (a1_1 : Int) (a1_2 : Int) (a1_3 : Int) (a1_4 : Int) (a1_5 : Int) (a1_6 : Int) : Option (Bool × Int × Int × Int × Int × Int × Int) :=
  ol (IntKind.i64.wrap (IntKind.i64.wrap (0 + IntKind.i64.wrap (a0_1 * a1_1)) + 0)) fun n1 =>
  ol (IntKind.i64.wrap (IntKind.i64.wrap (0 + IntKind.i64.wrap (a0_1 * a1_2)) + IntKind.i64.wrap (n1.tdiv 1000000000))) fun n2 =>
  ol (IntKind.i64.wrap (IntKind.i64.wrap (0 + IntKind.i64.wrap (a0_1 * a1_3)) + IntKind.i64.wrap (n2.tdiv 1000000000))) fun n3 =>
  ol (IntKind.i64.wrap (0 + IntKind.i64.wrap (n3.tdiv 1000000000))) fun n4 =>
  ol (IntKind.i64.wrap (0 + IntKind.i64.wrap (n4.tdiv 1000000000))) fun n5 =>
  ol (IntKind.i64.wrap (0 + IntKind.i64.wrap (n5.tdiv 1000000000))) fun n6 =>
  ol (IntKind.i64.wrap (IntKind.i64.wrap (n2.tmod 1000000000 + IntKind.i64.wrap (a0_2 * a1_1)) + 0)) fun n7 =>
  ol (IntKind.i64.wrap (IntKind.i64.wrap (n3.tmod 1000000000 + IntKind.i64.wrap (a0_2 * a1_2)) + IntKind.i64.wrap (n7.tdiv 1000000000))) fun n8 =>
  ol (IntKind.i64.wrap (IntKind.i64.wrap (n4.tmod 1000000000 + IntKind.i64.wrap (a0_2 * a1_3)) + IntKind.i64.wrap (n8.tdiv 1000000000))) fun n9 =>
  ol (IntKind.i64.wrap (n5.tmod 1000000000 + IntKind.i64.wrap (n9.tdiv 1000000000))) fun n10 =>
  ol (IntKind.i64.wrap (n6.tmod 1000000000 + IntKind.i64.wrap (n10.tdiv 1000000000))) fun n11 =>
  ol (IntKind.i64.wrap (IntKind.i64.wrap (n8.tmod 1000000000 + IntKind.i64.wrap (a0_3 * a1_1)) + 0)) fun n12 =>
  ol (IntKind.i64.wrap (IntKind.i64.wrap (n9.tmod 1000000000 + IntKind.i64.wrap (a0_3 * a1_2)) + IntKind.i64.wrap (n12.tdiv 1000000000))) fun n13 =>
  ol (IntKind.i64.wrap (IntKind.i64.wrap (n10.tmod 1000000000 + IntKind.i64.wrap (a0_3 * a1_3)) + IntKind.i64.wrap (n13.tdiv 1000000000))) fun n14 =>
  ol (IntKind.i64.wrap (n11.tmod 1000000000 + IntKind.i64.wrap (n14.tdiv 1000000000))) fun n15 =>
  some (!a0_0 == a1_0, n1.tmod 1000000000, n7.tmod 1000000000, n12.tmod 1000000000, n13.tmod 1000000000, n14.tmod 1000000000, n15.tmod 1000000000)
def ephemerisref2_Times.OQ {R : Type} (k : Nat) : OraQ R := fun g args K => match g with
  | _ => none
theorem ephemerisref2_Times.OQ_ok (k : Nat) (Φ : World → Prop) (base : Nat) {R : Type} : OraQOk Try.prog (fun _ => undef) Φ base (ephemerisref2_Times.OQ (R := R) k) := by
  intro g args K r h
  unfold ephemerisref2_Times.OQ at h
  split at h
  · cases h
def ephemerisref2_Times.F (v : Value) (_ : Mem) : Option (Bool × Int × Int × Int × Int × Int × Int) := match v with | .agg ⟨[.bool r1, .int .i64 r2, .int .i64 r3, .int .i64 r4, .int .i64 r5, .int .i64 r6, .int .i64 r7]⟩ => some (r1, r2, r3, r4, r5, r6, r7) | _ => none
theorem ephemerisref2_Times.run (k : Nat) (a0_0 : Bool) (a0_1 : Int) (a0_2 : Int) (a0_3 : Int) (a0_4 : Int) (a0_5 : Int) (a0_6 : Int) (a1_0 : Bool) (a1_1 : Int) (a1_2 : Int) (a1_3 : Int) (a1_4 : Int) (a1_5 : Int) (a1_6 : Int) : runNm Try.prog (liftQ (ephemerisref2_Times.OQ k)) (drawQ Try.prog (ephemerisref2_Times.OQ k)) (fun _ => none) (hook ol [(10, [9], []), (16, [11], [])]) (atEnd Try.prog Try.f70 ephemerisref2_Times.F) 5000 [.code (Try.f70.body.getD .skip)] ([.agg ⟨[.bool a0_0, .int .i64 a0_1, .int .i64 a0_2, .int .i64 a0_3, .int .i64 a0_4, .int .i64 a0_5, .int .i64 a0_6]⟩, .agg ⟨[.bool a1_0, .int .i64 a1_1, .int .i64 a1_2, .int .i64 a1_3, .int .i64 a1_4, .int .i64 a1_5, .int .i64 a1_6]⟩] ++ List.replicate (Try.f70.ntmps - ([.agg ⟨[.bool a0_0, .int .i64 a0_1, .int .i64 a0_2, .int .i64 a0_3, .int .i64 a0_4, .int .i64 a0_5, .int .i64 a0_6]⟩, .agg ⟨[.bool a1_0, .int .i64 a1_1, .int .i64 a1_2, .int .i64 a1_3, .int .i64 a1_4, .int .i64 a1_5, .int .i64 a1_6]⟩] : List Value).length) undef) [] = ephemerisref2_Times.f k a0_0 a0_1 a0_2 a0_3 a0_4 a0_5 a0_6 a1_0 a1_1 a1_2 a1_3 a1_4 a1_5 a1_6 := by kernel_rfl
theorem ephemerisref2_Times.calls (k : Nat) (a0_0 : Bool) (a0_1 : Int) (a0_2 : Int) (a0_3 : Int) (a0_4 : Int) (a0_5 : Int) (a0_6 : Int) (a1_0 : Bool) (a1_1 : Int) (a1_2 : Int) (a1_3 : Int) (a1_4 : Int) (a1_5 : Int) (a1_6 : Int) (r1 : Bool) (r2 : Int) (r3 : Int) (r4 : Int) (r5 : Int) (r6 : Int) (r7 : Int) (w : World) (h : ephemerisref2_Times.f k a0_0 a0_1 a0_2 a0_3 a0_4 a0_5 a0_6 a1_0 a1_1 a1_2 a1_3 a1_4 a1_5 a1_6 = some (r1, r2, r3, r4, r5, r6, r7)) :
    Calls Try.prog 70 #[.agg #[.bool a0_0, .int .i64 a0_1, .int .i64 a0_2, .int .i64 a0_3, .int .i64 a0_4, .int .i64 a0_5, .int .i64 a0_6], .agg #[.bool a1_0, .int .i64 a1_1, .int .i64 a1_2, .int .i64 a1_3, .int .i64 a1_4, .int .i64 a1_5, .int .i64 a1_6]] w fun e w' => e = .returned (.agg #[.bool r1, .int .i64 r2, .int .i64 r3, .int .i64 r4, .int .i64 r5, .int .i64 r6, .int .i64 r7]) ∧ Below w.heap.size w w' := by
  refine calls_closed (OQ := ephemerisref2_Times.OQ k) (LF := fun _ => none) (F := ephemerisref2_Times.F) (r := (r1, r2, r3, r4, r5, r6, r7)) (Checked.mixed Try.checked) (fun Φ base _ => ephemerisref2_Times.OQ_ok k Φ base) (LS := fun _ => True) (fun Φ base _ c _ live len f e => by cases e) Try.func70 rfl (fun _ _ => trivial) rfl (fun u m hu => ?_) rfl ((runNm_eq (hook_eq _) _ _ _ _).symm.trans ((ephemerisref2_Times.run k a0_0 a0_1 a0_2 a0_3 a0_4 a0_5 a0_6 a1_0 a1_1 a1_2 a1_3 a1_4 a1_5 a1_6).trans h)) w
  unfold ephemerisref2_Times.F at hu
  split at hu
  · cases hu; rfl
  · cases hu
end Go.Proofs.Ytelcegpaakbppaa.PAll
end
section
namespace Go.Proofs.Ytelcegpaakbppaa.PAll
open Go Go.RowKit Go.Proofs.YtelcegpaakbppaaW.PrintWords Go.Proofs.Ytelcegpaakbppaa.Sx
set_option linter.unusedVariables false
set_option linter.unusedSimpArgs false
set_option maxRecDepth 100000
def ephemerisref2_ToWide.f (k : Nat) (a0 : Int) : Option (Bool × Int × Int × Int × Int × Int × Int) :=
  ol (a0.tmod 1000000000) fun n1 =>
  oif (decide (n1 < 0) = true) (
   ol (IntKind.i64.wrap (0 - n1)) fun n2 =>
   ol (IntKind.i64.wrap (a0.tdiv 1000000000)) fun n3 =>
   ol (n3.tmod 1000000000) fun n4 =>
   oif (decide (n4 < 0) = true) (
    ol (IntKind.i64.wrap (0 - n4)) fun n5 =>
    ol (IntKind.i64.wrap (n3.tdiv 1000000000)) fun n6 =>
    ol (n6.tmod 1000000000) fun n7 =>
    oif (decide (n7 < 0) = true) (
     ol (IntKind.i64.wrap (0 - n7)) fun n8 =>
     ol (IntKind.i64.wrap (n6.tdiv 1000000000)) fun n9 =>
     ol (n9.tmod 1000000000) fun n10 =>
     oif (decide (n10 < 0) = true) (
      ol (IntKind.i64.wrap (0 - n10)) fun n11 =>
      ol (IntKind.i64.wrap (n9.tdiv 1000000000)) fun n12 =>
      ol (n12.tmod 1000000000) fun n13 =>
      oif (decide (n13 < 0) = true) (
       ol (IntKind.i64.wrap (0 - n13)) fun n14 =>
       ol (IntKind.i64.wrap (n12.tdiv 1000000000)) fun n15 =>
       ol (n15.tmod 1000000000) fun n16 =>
       oif (decide (n16 < 0) = true) (
        ol (IntKind.i64.wrap (0 - n16)) fun n17 =>
        ol (IntKind.i64.wrap (n15.tdiv 1000000000)) fun n18 =>
        some (decide (a0 < 0), n2, n5, n8, n11, n14, n17)) (
        ol (IntKind.i64.wrap (n15.tdiv 1000000000)) fun n19 =>
        some (decide (a0 < 0), n2, n5, n8, n11, n14, n16))) (
       ol (IntKind.i64.wrap (n12.tdiv 1000000000)) fun n20 =>
       ol (n20.tmod 1000000000) fun n21 =>
       oif (decide (n21 < 0) = true) (
        ol (IntKind.i64.wrap (0 - n21)) fun n22 =>
        ol (IntKind.i64.wrap (n20.tdiv 1000000000)) fun n23 =>
        some (decide (a0 < 0), n2, n5, n8, n11, n13, n22)) (
        ol (IntKind.i64.wrap (n20.tdiv 1000000000)) fun n24 =>
        some (decide (a0 < 0), n2, n5, n8, n11, n13, n21)))) (
      ol (IntKind.i64.wrap (n9.tdiv 1000000000)) fun n25 =>
      ol (n25.tmod 1000000000) fun n26 =>
      oif (decide (n26 < 0) = true) (
       ol (IntKind.i64.wrap (0 - n26)) fun n27 =>
       ol (IntKind.i64.wrap (n25.tdiv 1000000000)) fun n28 =>
       ol (n28.tmod 1000000000) fun n29 =>
       oif (decide (n29 < 0) = true) (
        ol (IntKind.i64.wrap (0 - n29)) fun n30 =>
        ol (IntKind.i64.wrap (n28.tdiv 1000000000)) fun n31 =>
        some (decide (a0 < 0), n2, n5, n8, n10, n27, n30)) (
        ol (IntKind.i64.wrap (n28.tdiv 1000000000)) fun n32 =>
        some (decide (a0 < 0), n2, n5, n8, n10, n27, n29))) (
       ol (IntKind.i64.wrap (n25.tdiv 1000000000)) fun n33 =>
       ol (n33.tmod 1000000000) fun n34 =>
       oif (decide (n34 < 0) = true) (
        ol (IntKind.i64.wrap (0 - n34)) fun n35 =>
        ol (IntKind.i64.wrap (n33.tdiv 1000000000)) fun n36 =>
        some (decide (a0 < 0), n2, n5, n8, n10, n26, n35)) (
        ol (IntKind.i64.wrap (n33.tdiv 1000000000)) fun n37 =>
        some (decide (a0 < 0), n2, n5, n8, n10, n26, n34))))) (
     ol (IntKind.i64.wrap (n6.tdiv 1000000000)) fun n38 =>
     ol (n38.tmod 1000000000) fun n39 =>
     oif (decide (n39 < 0) = true) (
      ol (IntKind.i64.wrap (0 - n39)) fun n40 =>
      ol (IntKind.i64.wrap (n38.tdiv 1000000000)) fun n41 =>
      ol (n41.tmod 1000000000) fun n42 =>
      oif (decide (n42 < 0) = true) (
       ol (IntKind.i64.wrap (0 - n42)) fun n43 =>
       ol (IntKind.i64.wrap (n41.tdiv 1000000000)) fun n44 =>
       ol (n44.tmod 1000000000) fun n45 =>
       oif (decide (n45 < 0) = true) (
        ol (IntKind.i64.wrap (0 - n45)) fun n46 =>
        ol (IntKind.i64.wrap (n44.tdiv 1000000000)) fun n47 =>
        some (decide (a0 < 0), n2, n5, n7, n40, n43, n46)) (
        ol (IntKind.i64.wrap (n44.tdiv 1000000000)) fun n48 =>
        some (decide (a0 < 0), n2, n5, n7, n40, n43, n45))) (
       ol (IntKind.i64.wrap (n41.tdiv 1000000000)) fun n49 =>
       ol (n49.tmod 1000000000) fun n50 =>
       oif (decide (n50 < 0) = true) (
        ol (IntKind.i64.wrap (0 - n50)) fun n51 =>
        ol (IntKind.i64.wrap (n49.tdiv 1000000000)) fun n52 =>
        some (decide (a0 < 0), n2, n5, n7, n40, n42, n51)) (
        ol (IntKind.i64.wrap (n49.tdiv 1000000000)) fun n53 =>
        some (decide (a0 < 0), n2, n5, n7, n40, n42, n50)))) (
      ol (IntKind.i64.wrap (n38.tdiv 1000000000)) fun n54 =>
      ol (n54.tmod 1000000000) fun n55 =>
      oif (decide (n55 < 0) = true) (
       ol (IntKind.i64.wrap (0 - n55)) fun n56 =>
       ol (IntKind.i64.wrap (n54.tdiv 1000000000)) fun n57 =>
       ol (n57.tmod 1000000000) fun n58 =>
       oif (decide (n58 < 0) = true) (
        ol (IntKind.i64.wrap (0 - n58)) fun n59 =>
        ol (IntKind.i64.wrap (n57.tdiv 1000000000)) fun n60 =>
        some (decide (a0 < 0), n2, n5, n7, n39, n56, n59)) (
        ol (IntKind.i64.wrap (n57.tdiv 1000000000)) fun n61 =>
        some (decide (a0 < 0), n2, n5, n7, n39, n56, n58))) (
       ol (IntKind.i64.wrap (n54.tdiv 1000000000)) fun n62 =>
       ol (n62.tmod 1000000000) fun n63 =>
       oif (decide (n63 < 0) = true) (
        ol (IntKind.i64.wrap (0 - n63)) fun n64 =>
        ol (IntKind.i64.wrap (n62.tdiv 1000000000)) fun n65 =>
        some (decide (a0 < 0), n2, n5, n7, n39, n55, n64)) (
        ol (IntKind.i64.wrap (n62.tdiv 1000000000)) fun n66 =>
        some (decide (a0 < 0), n2, n5, n7, n39, n55, n63)))))) (
    ol (IntKind.i64.wrap (n3.tdiv 1000000000)) fun n67 =>
    ol (n67.tmod 1000000000) fun n68 =>
    oif (decide (n68 < 0) = true) (
     ol (IntKind.i64.wrap (0 - n68)) fun n69 =>
     ol (IntKind.i64.wrap (n67.tdiv 1000000000)) fun n70 =>
     ol (n70.tmod 1000000000) fun n71 =>
     oif (decide (n71 < 0) = true) (
      ol (IntKind.i64.wrap (0 - n71)) fun n72 =>
      ol (IntKind.i64.wrap (n70.tdiv 1000000000)) fun n73 =>
      ol (n73.tmod 1000000000) fun n74 =>
      oif (decide (n74 < 0) = true) (
       ol (IntKind.i64.wrap (0 - n74)) fun n75 =>
       ol (IntKind.i64.wrap (n73.tdiv 1000000000)) fun n76 =>
       ol (n76.tmod 1000000000) fun n77 =>
       oif (decide (n77 < 0) = true) (
        ol (IntKind.i64.wrap (0 - n77)) fun n78 =>
        ol (IntKind.i64.wrap (n76.tdiv 1000000000)) fun n79 =>
        some (decide (a0 < 0), n2, n4, n69, n72, n75, n78)) (
        ol (IntKind.i64.wrap (n76.tdiv 1000000000)) fun n80 =>
        some (decide (a0 < 0), n2, n4, n69, n72, n75, n77))) (
       ol (IntKind.i64.wrap (n73.tdiv 1000000000)) fun n81 =>
       ol (n81.tmod 1000000000) fun n82 =>
       oif (decide (n82 < 0) = true) (
        ol (IntKind.i64.wrap (0 - n82)) fun n83 =>
        ol (IntKind.i64.wrap (n81.tdiv 1000000000)) fun n84 =>
        some (decide (a0 < 0), n2, n4, n69, n72, n74, n83)) (
        ol (IntKind.i64.wrap (n81.tdiv 1000000000)) fun n85 =>
        some (decide (a0 < 0), n2, n4, n69, n72, n74, n82)))) (
      ol (IntKind.i64.wrap (n70.tdiv 1000000000)) fun n86 =>
      ol (n86.tmod 1000000000) fun n87 =>
      oif (decide (n87 < 0) = true) (
       ol (IntKind.i64.wrap (0 - n87)) fun n88 =>
       ol (IntKind.i64.wrap (n86.tdiv 1000000000)) fun n89 =>
       ol (n89.tmod 1000000000) fun n90 =>
       oif (decide (n90 < 0) = true) (
        ol (IntKind.i64.wrap (0 - n90)) fun n91 =>
        ol (IntKind.i64.wrap (n89.tdiv 1000000000)) fun n92 =>
        some (decide (a0 < 0), n2, n4, n69, n71, n88, n91)) (
        ol (IntKind.i64.wrap (n89.tdiv 1000000000)) fun n93 =>
        some (decide (a0 < 0), n2, n4, n69, n71, n88, n90))) (
       ol (IntKind.i64.wrap (n86.tdiv 1000000000)) fun n94 =>
       ol (n94.tmod 1000000000) fun n95 =>
       oif (decide (n95 < 0) = true) (
        ol (IntKind.i64.wrap (0 - n95)) fun n96 =>
        ol (IntKind.i64.wrap (n94.tdiv 1000000000)) fun n97 =>
        some (decide (a0 < 0), n2, n4, n69, n71, n87, n96)) (
        ol (IntKind.i64.wrap (n94.tdiv 1000000000)) fun n98 =>
        some (decide (a0 < 0), n2, n4, n69, n71, n87, n95))))) (
     ol (IntKind.i64.wrap (n67.tdiv 1000000000)) fun n99 =>
     ol (n99.tmod 1000000000) fun n100 =>
     oif (decide (n100 < 0) = true) (
      ol (IntKind.i64.wrap (0 - n100)) fun n101 =>
      ol (IntKind.i64.wrap (n99.tdiv 1000000000)) fun n102 =>
      ol (n102.tmod 1000000000) fun n103 =>
      oif (decide (n103 < 0) = true) (
       ol (IntKind.i64.wrap (0 - n103)) fun n104 =>
       ol (IntKind.i64.wrap (n102.tdiv 1000000000)) fun n105 =>
       ol (n105.tmod 1000000000) fun n106 =>
       oif (decide (n106 < 0) = true) (
        ol (IntKind.i64.wrap (0 - n106)) fun n107 =>
        ol (IntKind.i64.wrap (n105.tdiv 1000000000)) fun n108 =>
        some (decide (a0 < 0), n2, n4, n68, n101, n104, n107)) (
        ol (IntKind.i64.wrap (n105.tdiv 1000000000)) fun n109 =>
        some (decide (a0 < 0), n2, n4, n68, n101, n104, n106))) (
       ol (IntKind.i64.wrap (n102.tdiv 1000000000)) fun n110 =>
       ol (n110.tmod 1000000000) fun n111 =>
       oif (decide (n111 < 0) = true) (
        ol (IntKind.i64.wrap (0 - n111)) fun n112 =>
        ol (IntKind.i64.wrap (n110.tdiv 1000000000)) fun n113 =>
        some (decide (a0 < 0), n2, n4, n68, n101, n103, n112)) (
        ol (IntKind.i64.wrap (n110.tdiv 1000000000)) fun n114 =>
        some (decide (a0 < 0), n2, n4, n68, n101, n103, n111)))) (
      ol (IntKind.i64.wrap (n99.tdiv 1000000000)) fun n115 =>
      ol (n115.tmod 1000000000) fun n116 =>
      oif (decide (n116 < 0) = true) (
       ol (IntKind.i64.wrap (0 - n116)) fun n117 =>
       ol (IntKind.i64.wrap (n115.tdiv 1000000000)) fun n118 =>
       ol (n118.tmod 1000000000) fun n119 =>
       oif (decide (n119 < 0) = true) (
        ol (IntKind.i64.wrap (0 - n119)) fun n120 =>
        ol (IntKind.i64.wrap (n118.tdiv 1000000000)) fun n121 =>
        some (decide (a0 < 0), n2, n4, n68, n100, n117, n120)) (
        ol (IntKind.i64.wrap (n118.tdiv 1000000000)) fun n122 =>
        some (decide (a0 < 0), n2, n4, n68, n100, n117, n119))) (
       ol (IntKind.i64.wrap (n115.tdiv 1000000000)) fun n123 =>
       ol (n123.tmod 1000000000) fun n124 =>
       oif (decide (n124 < 0) = true) (
        ol (IntKind.i64.wrap (0 - n124)) fun n125 =>
        ol (IntKind.i64.wrap (n123.tdiv 1000000000)) fun n126 =>
        some (decide (a0 < 0), n2, n4, n68, n100, n116, n125)) (
        ol (IntKind.i64.wrap (n123.tdiv 1000000000)) fun n127 =>
        some (decide (a0 < 0), n2, n4, n68, n100, n116, n124))))))) (
   ol (IntKind.i64.wrap (a0.tdiv 1000000000)) fun n128 =>
   ol (n128.tmod 1000000000) fun n129 =>
   oif (decide (n129 < 0) = true) (
    ol (IntKind.i64.wrap (0 - n129)) fun n130 =>
    ol (IntKind.i64.wrap (n128.tdiv 1000000000)) fun n131 =>
    ol (n131.tmod 1000000000) fun n132 =>
    oif (decide (n132 < 0) = true) (
     ol (IntKind.i64.wrap (0 - n132)) fun n133 =>
     ol (IntKind.i64.wrap (n131.tdiv 1000000000)) fun n134 =>
     ol (n134.tmod 1000000000) fun n135 =>
     oif (decide (n135 < 0) = true) (
      ol (IntKind.i64.wrap (0 - n135)) fun n136 =>
      ol (IntKind.i64.wrap (n134.tdiv 1000000000)) fun n137 =>
      ol (n137.tmod 1000000000) fun n138 =>
      oif (decide (n138 < 0) = true) (
       ol (IntKind.i64.wrap (0 - n138)) fun n139 =>
       ol (IntKind.i64.wrap (n137.tdiv 1000000000)) fun n140 =>
       ol (n140.tmod 1000000000) fun n141 =>
       oif (decide (n141 < 0) = true) (
        ol (IntKind.i64.wrap (0 - n141)) fun n142 =>
        ol (IntKind.i64.wrap (n140.tdiv 1000000000)) fun n143 =>
        some (decide (a0 < 0), n1, n130, n133, n136, n139, n142)) (
        ol (IntKind.i64.wrap (n140.tdiv 1000000000)) fun n144 =>
        some (decide (a0 < 0), n1, n130, n133, n136, n139, n141))) (
       ol (IntKind.i64.wrap (n137.tdiv 1000000000)) fun n145 =>
       ol (n145.tmod 1000000000) fun n146 =>
       oif (decide (n146 < 0) = true) (
        ol (IntKind.i64.wrap (0 - n146)) fun n147 =>
        ol (IntKind.i64.wrap (n145.tdiv 1000000000)) fun n148 =>
        some (decide (a0 < 0), n1, n130, n133, n136, n138, n147)) (
        ol (IntKind.i64.wrap (n145.tdiv 1000000000)) fun n149 =>
        some (decide (a0 < 0), n1, n130, n133, n136, n138, n146)))) (
      ol (IntKind.i64.wrap (n134.tdiv 1000000000)) fun n150 =>
      ol (n150.tmod 1000000000) fun n151 =>
      oif (decide (n151 < 0) = true) (
       ol (IntKind.i64.wrap (0 - n151)) fun n152 =>
       ol (IntKind.i64.wrap (n150.tdiv 1000000000)) fun n153 =>
       ol (n153.tmod 1000000000) fun n154 =>
       oif (decide (n154 < 0) = true) (
        ol (IntKind.i64.wrap (0 - n154)) fun n155 =>
        ol (IntKind.i64.wrap (n153.tdiv 1000000000)) fun n156 =>
        some (decide (a0 < 0), n1, n130, n133, n135, n152, n155)) (
        ol (IntKind.i64.wrap (n153.tdiv 1000000000)) fun n157 =>
        some (decide (a0 < 0), n1, n130, n133, n135, n152, n154))) (
       ol (IntKind.i64.wrap (n150.tdiv 1000000000)) fun n158 =>
       ol (n158.tmod 1000000000) fun n159 =>
       oif (decide (n159 < 0) = true) (
        ol (IntKind.i64.wrap (0 - n159)) fun n160 =>
        ol (IntKind.i64.wrap (n158.tdiv 1000000000)) fun n161 =>
        some (decide (a0 < 0), n1, n130, n133, n135, n151, n160)) (
        ol (IntKind.i64.wrap (n158.tdiv 1000000000)) fun n162 =>
        some (decide (a0 < 0), n1, n130, n133, n135, n151, n159))))) (
     ol (IntKind.i64.wrap (n131.tdiv 1000000000)) fun n163 =>
     ol (n163.tmod 1000000000) fun n164 =>
     oif (decide (n164 < 0) = true) (
      ol (IntKind.i64.wrap (0 - n164)) fun n165 =>
      ol (IntKind.i64.wrap (n163.tdiv 1000000000)) fun n166 =>
      ol (n166.tmod 1000000000) fun n167 =>
      oif (decide (n167 < 0) = true) (
       ol (IntKind.i64.wrap (0 - n167)) fun n168 =>
       ol (IntKind.i64.wrap (n166.tdiv 1000000000)) fun n169 =>
       ol (n169.tmod 1000000000) fun n170 =>
       oif (decide (n170 < 0) = true) (
        ol (IntKind.i64.wrap (0 - n170)) fun n171 =>
        ol (IntKind.i64.wrap (n169.tdiv 1000000000)) fun n172 =>
        some (decide (a0 < 0), n1, n130, n132, n165, n168, n171)) (
        ol (IntKind.i64.wrap (n169.tdiv 1000000000)) fun n173 =>
        some (decide (a0 < 0), n1, n130, n132, n165, n168, n170))) (
       ol (IntKind.i64.wrap (n166.tdiv 1000000000)) fun n174 =>
       ol (n174.tmod 1000000000) fun n175 =>
       oif (decide (n175 < 0) = true) (
        ol (IntKind.i64.wrap (0 - n175)) fun n176 =>
        ol (IntKind.i64.wrap (n174.tdiv 1000000000)) fun n177 =>
        some (decide (a0 < 0), n1, n130, n132, n165, n167, n176)) (
        ol (IntKind.i64.wrap (n174.tdiv 1000000000)) fun n178 =>
        some (decide (a0 < 0), n1, n130, n132, n165, n167, n175)))) (
      ol (IntKind.i64.wrap (n163.tdiv 1000000000)) fun n179 =>
      ol (n179.tmod 1000000000) fun n180 =>
      oif (decide (n180 < 0) = true) (
       ol (IntKind.i64.wrap (0 - n180)) fun n181 =>
       ol (IntKind.i64.wrap (n179.tdiv 1000000000)) fun n182 =>
       ol (n182.tmod 1000000000) fun n183 =>
       oif (decide (n183 < 0) = true) (
        ol (IntKind.i64.wrap (0 - n183)) fun n184 =>
        ol (IntKind.i64.wrap (n182.tdiv 1000000000)) fun n185 =>
        some (decide (a0 < 0), n1, n130, n132, n164, n181, n184)) (
        ol (IntKind.i64.wrap (n182.tdiv 1000000000)) fun n186 =>
        some (decide (a0 < 0), n1, n130, n132, n164, n181, n183))) (
       ol (IntKind.i64.wrap (n179.tdiv 1000000000)) fun n187 =>
       ol (n187.tmod 1000000000) fun n188 =>
       oif (decide (n188 < 0) = true) (
        ol (IntKind.i64.wrap (0 - n188)) fun n189 =>
        ol (IntKind.i64.wrap (n187.tdiv 1000000000)) fun n190 =>
        some (decide (a0 < 0), n1, n130, n132, n164, n180, n189)) (
        ol (IntKind.i64.wrap (n187.tdiv 1000000000)) fun n191 =>
        some (decide (a0 < 0), n1, n130, n132, n164, n180, n188)))))) (
    ol (IntKind.i64.wrap (n128.tdiv 1000000000)) fun n192 =>
    ol (n192.tmod 1000000000) fun n193 =>
    oif (decide (n193 < 0) = true) (
     ol (IntKind.i64.wrap (0 - n193)) fun n194 =>
     ol (IntKind.i64.wrap (n192.tdiv 1000000000)) fun n195 =>
     ol (n195.tmod 1000000000) fun n196 =>
     oif (decide (n196 < 0) = true) (
      ol (IntKind.i64.wrap (0 - n196)) fun n197 =>
      ol (IntKind.i64.wrap (n195.tdiv 1000000000)) fun n198 =>
      ol (n198.tmod 1000000000) fun n199 =>
      oif (decide (n199 < 0) = true) (
       ol (IntKind.i64.wrap (0 - n199)) fun n200 =>
       ol (IntKind.i64.wrap (n198.tdiv 1000000000)) fun n201 =>
       ol (n201.tmod 1000000000) fun n202 =>
       oif (decide (n202 < 0) = true) (
        ol (IntKind.i64.wrap (0 - n202)) fun n203 =>
        ol (IntKind.i64.wrap (n201.tdiv 1000000000)) fun n204 =>
        some (decide (a0 < 0), n1, n129, n194, n197, n200, n203)) (
        ol (IntKind.i64.wrap (n201.tdiv 1000000000)) fun n205 =>
        some (decide (a0 < 0), n1, n129, n194, n197, n200, n202))) (
       ol (IntKind.i64.wrap (n198.tdiv 1000000000)) fun n206 =>
       ol (n206.tmod 1000000000) fun n207 =>
       oif (decide (n207 < 0) = true) (
        ol (IntKind.i64.wrap (0 - n207)) fun n208 =>
        ol (IntKind.i64.wrap (n206.tdiv 1000000000)) fun n209 =>
        some (decide (a0 < 0), n1, n129, n194, n197, n199, n208)) (
        ol (IntKind.i64.wrap (n206.tdiv 1000000000)) fun n210 =>
        some (decide (a0 < 0), n1, n129, n194, n197, n199, n207)))) (
      ol (IntKind.i64.wrap (n195.tdiv 1000000000)) fun n211 =>
      ol (n211.tmod 1000000000) fun n212 =>
      oif (decide (n212 < 0) = true) (
       ol (IntKind.i64.wrap (0 - n212)) fun n213 =>
       ol (IntKind.i64.wrap (n211.tdiv 1000000000)) fun n214 =>
       ol (n214.tmod 1000000000) fun n215 =>
       oif (decide (n215 < 0) = true) (
        ol (IntKind.i64.wrap (0 - n215)) fun n216 =>
        ol (IntKind.i64.wrap (n214.tdiv 1000000000)) fun n217 =>
        some (decide (a0 < 0), n1, n129, n194, n196, n213, n216)) (
        ol (IntKind.i64.wrap (n214.tdiv 1000000000)) fun n218 =>
        some (decide (a0 < 0), n1, n129, n194, n196, n213, n215))) (
       ol (IntKind.i64.wrap (n211.tdiv 1000000000)) fun n219 =>
       ol (n219.tmod 1000000000) fun n220 =>
       oif (decide (n220 < 0) = true) (
        ol (IntKind.i64.wrap (0 - n220)) fun n221 =>
        ol (IntKind.i64.wrap (n219.tdiv 1000000000)) fun n222 =>
        some (decide (a0 < 0), n1, n129, n194, n196, n212, n221)) (
        ol (IntKind.i64.wrap (n219.tdiv 1000000000)) fun n223 =>
        some (decide (a0 < 0), n1, n129, n194, n196, n212, n220))))) (
     ol (IntKind.i64.wrap (n192.tdiv 1000000000)) fun n224 =>
     ol (n224.tmod 1000000000) fun n225 =>
     oif (decide (n225 < 0) = true) (
      ol (IntKind.i64.wrap (0 - n225)) fun n226 =>
      ol (IntKind.i64.wrap (n224.tdiv 1000000000)) fun n227 =>
      ol (n227.tmod 1000000000) fun n228 =>
      oif (decide (n228 < 0) = true) (
       ol (IntKind.i64.wrap (0 - n228)) fun n229 =>
       ol (IntKind.i64.wrap (n227.tdiv 1000000000)) fun n230 =>
       ol (n230.tmod 1000000000) fun n231 =>
       oif (decide (n231 < 0) = true) (
        ol (IntKind.i64.wrap (0 - n231)) fun n232 =>
        ol (IntKind.i64.wrap (n230.tdiv 1000000000)) fun n233 =>
        some (decide (a0 < 0), n1, n129, n193, n226, n229, n232)) (
        ol (IntKind.i64.wrap (n230.tdiv 1000000000)) fun n234 =>
        some (decide (a0 < 0), n1, n129, n193, n226, n229, n231))) (
       ol (IntKind.i64.wrap (n227.tdiv 1000000000)) fun n235 =>
       ol (n235.tmod 1000000000) fun n236 =>
       oif (decide (n236 < 0) = true) (
        ol (IntKind.i64.wrap (0 - n236)) fun n237 =>
        ol (IntKind.i64.wrap (n235.tdiv 1000000000)) fun n238 =>
        some (decide (a0 < 0), n1, n129, n193, n226, n228, n237)) (
        ol (IntKind.i64.wrap (n235.tdiv 1000000000)) fun n239 =>
        some (decide (a0 < 0), n1, n129, n193, n226, n228, n236)))) (
      ol (IntKind.i64.wrap (n224.tdiv 1000000000)) fun n240 =>
      ol (n240.tmod 1000000000) fun n241 =>
      oif (decide (n241 < 0) = true) (
       ol (IntKind.i64.wrap (0 - n241)) fun n242 =>
       ol (IntKind.i64.wrap (n240.tdiv 1000000000)) fun n243 =>
       ol (n243.tmod 1000000000) fun n244 =>
       oif (decide (n244 < 0) = true) (
        ol (IntKind.i64.wrap (0 - n244)) fun n245 =>
        ol (IntKind.i64.wrap (n243.tdiv 1000000000)) fun n246 =>
        some (decide (a0 < 0), n1, n129, n193, n225, n242, n245)) (
        ol (IntKind.i64.wrap (n243.tdiv 1000000000)) fun n247 =>
        some (decide (a0 < 0), n1, n129, n193, n225, n242, n244))) (
       ol (IntKind.i64.wrap (n240.tdiv 1000000000)) fun n248 =>
       ol (n248.tmod 1000000000) fun n249 =>
       oif (decide (n249 < 0) = true) (
        ol (IntKind.i64.wrap (0 - n249)) fun n250 =>
        ol (IntKind.i64.wrap (n248.tdiv 1000000000)) fun n251 =>
        some (decide (a0 < 0), n1, n129, n193, n225, n241, n250)) (
        ol (IntKind.i64.wrap (n248.tdiv 1000000000)) fun n252 =>
        some (decide (a0 < 0), n1, n129, n193, n225, n241, n249)))))))
def ephemerisref2_ToWide.OQ {R : Type} (k : Nat) : OraQ R := fun g args K => match g with
  | _ => none
theorem ephemerisref2_ToWide.OQ_ok (k : Nat) (Φ : World → Prop) (base : Nat) {R : Type} : OraQOk Try.prog (fun _ => undef) Φ base (ephemerisref2_ToWide.OQ (R := R) k) := by
  intro g args K r h
  unfold ephemerisref2_ToWide.OQ at h
  split at h
  · cases h
def ephemerisref2_ToWide.F (v : Value) (_ : Mem) : Option (Bool × Int × Int × Int × Int × Int × Int) := match v with | .agg ⟨[.bool r1, .int .i64 r2, .int .i64 r3, .int .i64 r4, .int .i64 r5, .int .i64 r6, .int .i64 r7]⟩ => some (r1, r2, r3, r4, r5, r6, r7) | _ => none
theorem ephemerisref2_ToWide.run (k : Nat) (a0 : Int) : runNm Try.prog (liftQ (ephemerisref2_ToWide.OQ k)) (drawQ Try.prog (ephemerisref2_ToWide.OQ k)) (fun _ => none) (hook ol [(6, [5], []), (8, [5], []), (10, [0], [])]) (atEnd Try.prog Try.f71 ephemerisref2_ToWide.F) 5000 [.code (Try.f71.body.getD .skip)] ([.int .i64 a0] ++ List.replicate (Try.f71.ntmps - ([.int .i64 a0] : List Value).length) undef) [] = ephemerisref2_ToWide.f k a0 := by kernel_rfl
theorem ephemerisref2_ToWide.calls (k : Nat) (a0 : Int) (r1 : Bool) (r2 : Int) (r3 : Int) (r4 : Int) (r5 : Int) (r6 : Int) (r7 : Int) (w : World) (h : ephemerisref2_ToWide.f k a0 = some (r1, r2, r3, r4, r5, r6, r7)) :
    Calls Try.prog 71 #[.int .i64 a0] w fun e w' => e = .returned (.agg #[.bool r1, .int .i64 r2, .int .i64 r3, .int .i64 r4, .int .i64 r5, .int .i64 r6, .int .i64 r7]) ∧ Below w.heap.size w w' := by
  refine calls_closed (OQ := ephemerisref2_ToWide.OQ k) (LF := fun _ => none) (F := ephemerisref2_ToWide.F) (r := (r1, r2, r3, r4, r5, r6, r7)) (Checked.mixed Try.checked) (fun Φ base _ => ephemerisref2_ToWide.OQ_ok k Φ base) (LS := fun _ => True) (fun Φ base _ c _ live len f e => by cases e) Try.func71 rfl (fun _ _ => trivial) rfl (fun u m hu => ?_) rfl ((runNm_eq (hook_eq _) _ _ _ _).symm.trans ((ephemerisref2_ToWide.run k a0).trans h)) w
  unfold ephemerisref2_ToWide.F at hu
  split at hu
  · cases hu; rfl
  · cases hu
end Go.Proofs.Ytelcegpaakbppaa.PAll
end
section
namespace Go.Proofs.Ytelcegpaakbppaa.PAll
open Go Go.RowKit Go.Proofs.YtelcegpaakbppaaW.PrintWords Go.Proofs.Ytelcegpaakbppaa.Sx
set_option linter.unusedVariables false
set_option linter.unusedSimpArgs false
set_option maxRecDepth 100000
def ephemerisref2_signOf.f (k : Nat) (a0_0 : Bool) (a0_1 : Int) (a0_2 : Int) (a0_3 : Int) (a0_4 : Int) (a0_5 : Int) (a0_6 : Int) : Option (Int) :=
  oif ((a0_1 != 0) = true) (
   oif (a0_0 = true) (
    some (-1)) (
    some (1))) (
   oif ((a0_2 != 0) = true) (
    oif (a0_0 = true) (
     some (-1)) (
     some (1))) (
    oif ((a0_3 != 0) = true) (
     oif (a0_0 = true) (
      some (-1)) (
      some (1))) (
     oif ((a0_4 != 0) = true) (
      oif (a0_0 = true) (
       some (-1)) (
       some (1))) (
      oif ((a0_5 != 0) = true) (
       oif (a0_0 = true) (
        some (-1)) (
        some (1))) (
       oif ((a0_6 != 0) = true) (
        oif (a0_0 = true) (
         some (-1)) (
         some (1))) (
        some (0)))))))
def ephemerisref2_signOf.OQ {R : Type} (k : Nat) : OraQ R := fun g args K => match g with
  | _ => none
theorem ephemerisref2_signOf.OQ_ok (k : Nat) (Φ : World → Prop) (base : Nat) {R : Type} : OraQOk Try.prog (fun _ => undef) Φ base (ephemerisref2_signOf.OQ (R := R) k) := by
  intro g args K r h
  unfold ephemerisref2_signOf.OQ at h
  split at h
  · cases h
def ephemerisref2_signOf.F (v : Value) (_ : Mem) : Option (Int) := match v with | .int .i64 r => some (r) | _ => none
theorem ephemerisref2_signOf.run (k : Nat) (a0_0 : Bool) (a0_1 : Int) (a0_2 : Int) (a0_3 : Int) (a0_4 : Int) (a0_5 : Int) (a0_6 : Int) : runM Try.prog (liftQ (ephemerisref2_signOf.OQ k)) (drawQ Try.prog (ephemerisref2_signOf.OQ k)) (fun _ => none) (atEnd Try.prog Try.f90 ephemerisref2_signOf.F) 5000 [.code (Try.f90.body.getD .skip)] ([.agg ⟨[.bool a0_0, .int .i64 a0_1, .int .i64 a0_2, .int .i64 a0_3, .int .i64 a0_4, .int .i64 a0_5, .int .i64 a0_6]⟩] ++ List.replicate (Try.f90.ntmps - ([.agg ⟨[.bool a0_0, .int .i64 a0_1, .int .i64 a0_2, .int .i64 a0_3, .int .i64 a0_4, .int .i64 a0_5, .int .i64 a0_6]⟩] : List Value).length) undef) [] = ephemerisref2_signOf.f k a0_0 a0_1 a0_2 a0_3 a0_4 a0_5 a0_6 := by kernel_rfl
theorem ephemerisref2_signOf.calls (k : Nat) (a0_0 : Bool) (a0_1 : Int) (a0_2 : Int) (a0_3 : Int) (a0_4 : Int) (a0_5 : Int) (a0_6 : Int) (r : Int) (w : World) (h : ephemerisref2_signOf.f k a0_0 a0_1 a0_2 a0_3 a0_4 a0_5 a0_6 = some (r)) :
    Calls Try.prog 90 #[.agg #[.bool a0_0, .int .i64 a0_1, .int .i64 a0_2, .int .i64 a0_3, .int .i64 a0_4, .int .i64 a0_5, .int .i64 a0_6]] w fun e w' => e = .returned (.int .i64 r) ∧ Below w.heap.size w w' := by
  refine calls_closed (OQ := ephemerisref2_signOf.OQ k) (LF := fun _ => none) (F := ephemerisref2_signOf.F) (r := (r)) (Checked.mixed Try.checked) (fun Φ base _ => ephemerisref2_signOf.OQ_ok k Φ base) (LS := fun _ => True) (fun Φ base _ c _ live len f e => by cases e) Try.func90 rfl (fun _ _ => trivial) rfl (fun u m hu => ?_) rfl (((ephemerisref2_signOf.run k a0_0 a0_1 a0_2 a0_3 a0_4 a0_5 a0_6).trans h)) w
  unfold ephemerisref2_signOf.F at hu
  split at hu
  · cases hu; rfl
  · cases hu
end Go.Proofs.Ytelcegpaakbppaa.PAll
end
section
namespace Go.Proofs.Ytelcegpaakbppaa.PAll
open Go Go.RowKit Go.Proofs.YtelcegpaakbppaaW.PrintWords Go.Proofs.Ytelcegpaakbppaa.Sx
set_option linter.unusedVariables false
set_option linter.unusedSimpArgs false
set_option maxRecDepth 100000
def ephemerisref2_Compare.f (k : Nat) (a0_0 : Bool) (a0_1 : Int) (a0_2 : Int) (a0_3 : Int) (a0_4 : Int) (a0_5 : Int) (a0_6 : Int) (a1_0 : Bool) (a1_1 : Int) (a1_2 : Int) (a1_3 : Int) (a1_4 : Int) (a1_5 : Int) (a1_6 : Int) : Option (Int) :=
  ob (ephemerisref2_signOf.f k a0_0 a0_1 a0_2 a0_3 a0_4 a0_5 a0_6) fun t1 =>
  ob (ephemerisref2_signOf.f k a1_0 a1_1 a1_2 a1_3 a1_4 a1_5 a1_6) fun t2 =>
  oif ((t1 != t2) = true) (
   oif (decide (t1 < t2) = true) (
    some (-1)) (
    some (1))) (
   oif ((a0_6 != a1_6) = true) (
    oif ((decide (a0_6 < a1_6) == decide (t1 > 0)) = true) (
     some (-1)) (
     some (1))) (
    oif ((a0_5 != a1_5) = true) (
     oif ((decide (a0_5 < a1_5) == decide (t1 > 0)) = true) (
      some (-1)) (
      some (1))) (
     oif ((a0_4 != a1_4) = true) (
      oif ((decide (a0_4 < a1_4) == decide (t1 > 0)) = true) (
       some (-1)) (
       some (1))) (
      oif ((a0_3 != a1_3) = true) (
       oif ((decide (a0_3 < a1_3) == decide (t1 > 0)) = true) (
        some (-1)) (
        some (1))) (
       oif ((a0_2 != a1_2) = true) (
        oif ((decide (a0_2 < a1_2) == decide (t1 > 0)) = true) (
         some (-1)) (
         some (1))) (
        oif ((a0_1 != a1_1) = true) (
         oif ((decide (a0_1 < a1_1) == decide (t1 > 0)) = true) (
          some (-1)) (
          some (1))) (
         some (0))))))))
def ephemerisref2_Compare.OQ {R : Type} (k : Nat) : OraQ R := fun g args K => match g with
  | 90 => (match args with | [.agg ⟨[.bool a0_0, .int .i64 a0_1, .int .i64 a0_2, .int .i64 a0_3, .int .i64 a0_4, .int .i64 a0_5, .int .i64 a0_6]⟩] => (ephemerisref2_signOf.f k a0_0 a0_1 a0_2 a0_3 a0_4 a0_5 a0_6).bind fun q => K (.int .i64 q) | _ => none)
  | _ => none
theorem ephemerisref2_Compare.OQ_ok (k : Nat) (Φ : World → Prop) (base : Nat) {R : Type} : OraQOk Try.prog (fun _ => undef) Φ base (ephemerisref2_Compare.OQ (R := R) k) := by
  intro g args K r h
  unfold ephemerisref2_Compare.OQ at h
  split at h
  · split at h
    · obtain ⟨q, hq, h⟩ := Option.bind_eq_some_iff.mp h
      exact ⟨_, h, callQ_of rfl rfl fun w => (ephemerisref2_signOf.calls k _ _ _ _ _ _ _ _ w hq).mono fun e w' he => ⟨he.1, he.2⟩⟩
    · cases h
  · cases h
def ephemerisref2_Compare.F (v : Value) (_ : Mem) : Option (Int) := match v with | .int .i64 r => some (r) | _ => none
theorem ephemerisref2_Compare.run (k : Nat) (a0_0 : Bool) (a0_1 : Int) (a0_2 : Int) (a0_3 : Int) (a0_4 : Int) (a0_5 : Int) (a0_6 : Int) (a1_0 : Bool) (a1_1 : Int) (a1_2 : Int) (a1_3 : Int) (a1_4 : Int) (a1_5 : Int) (a1_6 : Int) : runM Try.prog (liftQ (ephemerisref2_Compare.OQ k)) (drawQ Try.prog (ephemerisref2_Compare.OQ k)) (fun _ => none) (atEnd Try.prog Try.f72 ephemerisref2_Compare.F) 5000 [.code (Try.f72.body.getD .skip)] ([.agg ⟨[.bool a0_0, .int .i64 a0_1, .int .i64 a0_2, .int .i64 a0_3, .int .i64 a0_4, .int .i64 a0_5, .int .i64 a0_6]⟩, .agg ⟨[.bool a1_0, .int .i64 a1_1, .int .i64 a1_2, .int .i64 a1_3, .int .i64 a1_4, .int .i64 a1_5, .int .i64 a1_6]⟩] ++ List.replicate (Try.f72.ntmps - ([.agg ⟨[.bool a0_0, .int .i64 a0_1, .int .i64 a0_2, .int .i64 a0_3, .int .i64 a0_4, .int .i64 a0_5, .int .i64 a0_6]⟩, .agg ⟨[.bool a1_0, .int .i64 a1_1, .int .i64 a1_2, .int .i64 a1_3, .int .i64 a1_4, .int .i64 a1_5, .int .i64 a1_6]⟩] : List Value).length) undef) [] = ephemerisref2_Compare.f k a0_0 a0_1 a0_2 a0_3 a0_4 a0_5 a0_6 a1_0 a1_1 a1_2 a1_3 a1_4 a1_5 a1_6 := by kernel_rfl
theorem ephemerisref2_Compare.calls (k : Nat) (a0_0 : Bool) (a0_1 : Int) (a0_2 : Int) (a0_3 : Int) (a0_4 : Int) (a0_5 : Int) (a0_6 : Int) (a1_0 : Bool) (a1_1 : Int) (a1_2 : Int) (a1_3 : Int) (a1_4 : Int) (a1_5 : Int) (a1_6 : Int) (r : Int) (w : World) (h : ephemerisref2_Compare.f k a0_0 a0_1 a0_2 a0_3 a0_4 a0_5 a0_6 a1_0 a1_1 a1_2 a1_3 a1_4 a1_5 a1_6 = some (r)) :
    Calls Try.prog 72 #[.agg #[.bool a0_0, .int .i64 a0_1, .int .i64 a0_2, .int .i64 a0_3, .int .i64 a0_4, .int .i64 a0_5, .int .i64 a0_6], .agg #[.bool a1_0, .int .i64 a1_1, .int .i64 a1_2, .int .i64 a1_3, .int .i64 a1_4, .int .i64 a1_5, .int .i64 a1_6]] w fun e w' => e = .returned (.int .i64 r) ∧ Below w.heap.size w w' := by
  refine calls_closed (OQ := ephemerisref2_Compare.OQ k) (LF := fun _ => none) (F := ephemerisref2_Compare.F) (r := (r)) (Checked.mixed Try.checked) (fun Φ base _ => ephemerisref2_Compare.OQ_ok k Φ base) (LS := fun _ => True) (fun Φ base _ c _ live len f e => by cases e) Try.func72 rfl (fun _ _ => trivial) rfl (fun u m hu => ?_) rfl (((ephemerisref2_Compare.run k a0_0 a0_1 a0_2 a0_3 a0_4 a0_5 a0_6 a1_0 a1_1 a1_2 a1_3 a1_4 a1_5 a1_6).trans h)) w
  unfold ephemerisref2_Compare.F at hu
  split at hu
  · cases hu; rfl
  · cases hu
end Go.Proofs.Ytelcegpaakbppaa.PAll
end
section
namespace Go.Proofs.Ytelcegpaakbppaa.PAll
open Go Go.RowKit Go.Proofs.YtelcegpaakbppaaW.PrintWords Go.Proofs.Ytelcegpaakbppaa.Sx
set_option linter.unusedVariables false
set_option linter.unusedSimpArgs false
set_option maxRecDepth 100000
def ephemerisref2_InRatio.f (k : Nat) (a0_0 : Int) (a0_1 : Int) (a1 : Int) (a2 : Int) : Option (Bool) :=
  ob (ephemerisref2_ToWide.f k a0_0) fun t1 =>
  ob (ephemerisref2_ToWide.f k (IntKind.i64.wrap (2 * a2))) fun t2 =>
  ob (ephemerisref2_Times.f k t1.fst t1.snd.fst t1.snd.snd.fst t1.snd.snd.snd.fst t1.snd.snd.snd.snd.fst t1.snd.snd.snd.snd.snd.fst t1.snd.snd.snd.snd.snd.snd t2.fst t2.snd.fst t2.snd.snd.fst t2.snd.snd.snd.fst t2.snd.snd.snd.snd.fst t2.snd.snd.snd.snd.snd.fst t2.snd.snd.snd.snd.snd.snd) fun t3 =>
  ob (ephemerisref2_ToWide.f k a0_1) fun t4 =>
  ob (ephemerisref2_ToWide.f k (IntKind.i64.wrap (2 * a2))) fun t5 =>
  ob (ephemerisref2_Times.f k t4.fst t4.snd.fst t4.snd.snd.fst t4.snd.snd.snd.fst t4.snd.snd.snd.snd.fst t4.snd.snd.snd.snd.snd.fst t4.snd.snd.snd.snd.snd.snd t5.fst t5.snd.fst t5.snd.snd.fst t5.snd.snd.snd.fst t5.snd.snd.snd.snd.fst t5.snd.snd.snd.snd.snd.fst t5.snd.snd.snd.snd.snd.snd) fun t6 =>
  ob (ephemerisref2_ToWide.f k 1000000) fun t7 =>
  ob (ephemerisref2_ToWide.f k (IntKind.i64.wrap (a1 - 1048576))) fun t8 =>
  ob (ephemerisref2_Times.f k t7.fst t7.snd.fst t7.snd.snd.fst t7.snd.snd.snd.fst t7.snd.snd.snd.snd.fst t7.snd.snd.snd.snd.snd.fst t7.snd.snd.snd.snd.snd.snd t8.fst t8.snd.fst t8.snd.snd.fst t8.snd.snd.snd.fst t8.snd.snd.snd.snd.fst t8.snd.snd.snd.snd.snd.fst t8.snd.snd.snd.snd.snd.snd) fun t9 =>
  ob (ephemerisref2_ToWide.f k 1000000) fun t10 =>
  ob (ephemerisref2_ToWide.f k (IntKind.i64.wrap (a1 + 1048576))) fun t11 =>
  ob (ephemerisref2_Times.f k t10.fst t10.snd.fst t10.snd.snd.fst t10.snd.snd.snd.fst t10.snd.snd.snd.snd.fst t10.snd.snd.snd.snd.snd.fst t10.snd.snd.snd.snd.snd.snd t11.fst t11.snd.fst t11.snd.snd.fst t11.snd.snd.snd.fst t11.snd.snd.snd.snd.fst t11.snd.snd.snd.snd.snd.fst t11.snd.snd.snd.snd.snd.snd) fun t12 =>
  ob (ephemerisref2_Compare.f k t3.fst t3.snd.fst t3.snd.snd.fst t3.snd.snd.snd.fst t3.snd.snd.snd.snd.fst t3.snd.snd.snd.snd.snd.fst t3.snd.snd.snd.snd.snd.snd t12.fst t12.snd.fst t12.snd.snd.fst t12.snd.snd.snd.fst t12.snd.snd.snd.snd.fst t12.snd.snd.snd.snd.snd.fst t12.snd.snd.snd.snd.snd.snd) fun t13 =>
  oif (decide (t13 ≤ 0) = true) (
   ob (ephemerisref2_Compare.f k t9.fst t9.snd.fst t9.snd.snd.fst t9.snd.snd.snd.fst t9.snd.snd.snd.snd.fst t9.snd.snd.snd.snd.snd.fst t9.snd.snd.snd.snd.snd.snd t6.fst t6.snd.fst t6.snd.snd.fst t6.snd.snd.snd.fst t6.snd.snd.snd.snd.fst t6.snd.snd.snd.snd.snd.fst t6.snd.snd.snd.snd.snd.snd) fun t14 =>
   oif (decide (t14 ≤ 0) = true) (
    oif (decide (a0_0 ≤ a0_1) = true) (
     some (decide (IntKind.i64.wrap (a0_1 - a0_0) ≤ 10))) (
     some (false))) (
    some (false))) (
   some (false))
def ephemerisref2_InRatio.OQ {R : Type} (k : Nat) : OraQ R := fun g args K => match g with
  | 70 => (match args with | [.agg ⟨[.bool a0_0, .int .i64 a0_1, .int .i64 a0_2, .int .i64 a0_3, .int .i64 a0_4, .int .i64 a0_5, .int .i64 a0_6]⟩, .agg ⟨[.bool a1_0, .int .i64 a1_1, .int .i64 a1_2, .int .i64 a1_3, .int .i64 a1_4, .int .i64 a1_5, .int .i64 a1_6]⟩] => (ephemerisref2_Times.f k a0_0 a0_1 a0_2 a0_3 a0_4 a0_5 a0_6 a1_0 a1_1 a1_2 a1_3 a1_4 a1_5 a1_6).bind fun q => K (.agg ⟨[.bool q.1, .int .i64 q.2.1, .int .i64 q.2.2.1, .int .i64 q.2.2.2.1, .int .i64 q.2.2.2.2.1, .int .i64 q.2.2.2.2.2.1, .int .i64 q.2.2.2.2.2.2]⟩) | _ => none)
  | 71 => (match args with | [.int .i64 a0] => (ephemerisref2_ToWide.f k a0).bind fun q => K (.agg ⟨[.bool q.1, .int .i64 q.2.1, .int .i64 q.2.2.1, .int .i64 q.2.2.2.1, .int .i64 q.2.2.2.2.1, .int .i64 q.2.2.2.2.2.1, .int .i64 q.2.2.2.2.2.2]⟩) | _ => none)
  | 72 => (match args with | [.agg ⟨[.bool a0_0, .int .i64 a0_1, .int .i64 a0_2, .int .i64 a0_3, .int .i64 a0_4, .int .i64 a0_5, .int .i64 a0_6]⟩, .agg ⟨[.bool a1_0, .int .i64 a1_1, .int .i64 a1_2, .int .i64 a1_3, .int .i64 a1_4, .int .i64 a1_5, .int .i64 a1_6]⟩] => (ephemerisref2_Compare.f k a0_0 a0_1 a0_2 a0_3 a0_4 a0_5 a0_6 a1_0 a1_1 a1_2 a1_3 a1_4 a1_5 a1_6).bind fun q => K (.int .i64 q) | _ => none)
  | _ => none
theorem ephemerisref2_InRatio.OQ_ok (k : Nat) (Φ : World → Prop) (base : Nat) {R : Type} : OraQOk Try.prog (fun _ => undef) Φ base (ephemerisref2_InRatio.OQ (R := R) k) := by
  intro g args K r h
  unfold ephemerisref2_InRatio.OQ at h
  split at h
  · split at h
    · obtain ⟨q, hq, h⟩ := Option.bind_eq_some_iff.mp h
      exact ⟨_, h, callQ_of rfl rfl fun w => (ephemerisref2_Times.calls k _ _ _ _ _ _ _ _ _ _ _ _ _ _ _ _ _ _ _ _ _ w hq).mono fun e w' he => ⟨he.1, he.2⟩⟩
    · cases h
  · split at h
    · obtain ⟨q, hq, h⟩ := Option.bind_eq_some_iff.mp h
      exact ⟨_, h, callQ_of rfl rfl fun w => (ephemerisref2_ToWide.calls k _ _ _ _ _ _ _ _ w hq).mono fun e w' he => ⟨he.1, he.2⟩⟩
    · cases h
  · split at h
    · obtain ⟨q, hq, h⟩ := Option.bind_eq_some_iff.mp h
      exact ⟨_, h, callQ_of rfl rfl fun w => (ephemerisref2_Compare.calls k _ _ _ _ _ _ _ _ _ _ _ _ _ _ _ w hq).mono fun e w' he => ⟨he.1, he.2⟩⟩
    · cases h
  · cases h
def ephemerisref2_InRatio.F (v : Value) (_ : Mem) : Option (Bool) := match v with | .bool r => some (r) | _ => none
theorem ephemerisref2_InRatio.run (k : Nat) (a0_0 : Int) (a0_1 : Int) (a1 : Int) (a2 : Int) : runM Try.prog (liftQ (ephemerisref2_InRatio.OQ k)) (drawQ Try.prog (ephemerisref2_InRatio.OQ k)) (fun _ => none) (atEnd Try.prog Try.f37 ephemerisref2_InRatio.F) 5000 [.code (Try.f37.body.getD .skip)] ([.agg ⟨[.int .i64 a0_0, .int .i64 a0_1]⟩, .int .i64 a1, .int .i64 a2] ++ List.replicate (Try.f37.ntmps - ([.agg ⟨[.int .i64 a0_0, .int .i64 a0_1]⟩, .int .i64 a1, .int .i64 a2] : List Value).length) undef) [] = ephemerisref2_InRatio.f k a0_0 a0_1 a1 a2 := by kernel_rfl
theorem ephemerisref2_InRatio.calls (k : Nat) (a0_0 : Int) (a0_1 : Int) (a1 : Int) (a2 : Int) (r : Bool) (w : World) (h : ephemerisref2_InRatio.f k a0_0 a0_1 a1 a2 = some (r)) :
    Calls Try.prog 37 #[.agg #[.int .i64 a0_0, .int .i64 a0_1], .int .i64 a1, .int .i64 a2] w fun e w' => e = .returned (.bool r) ∧ Below w.heap.size w w' := by
  refine calls_closed (OQ := ephemerisref2_InRatio.OQ k) (LF := fun _ => none) (F := ephemerisref2_InRatio.F) (r := (r)) (Checked.mixed Try.checked) (fun Φ base _ => ephemerisref2_InRatio.OQ_ok k Φ base) (LS := fun _ => True) (fun Φ base _ c _ live len f e => by cases e) Try.func37 rfl (fun _ _ => trivial) rfl (fun u m hu => ?_) rfl (((ephemerisref2_InRatio.run k a0_0 a0_1 a1 a2).trans h)) w
  unfold ephemerisref2_InRatio.F at hu
  split at hu
  · cases hu; rfl
  · cases hu
end Go.Proofs.Ytelcegpaakbppaa.PAll
end
