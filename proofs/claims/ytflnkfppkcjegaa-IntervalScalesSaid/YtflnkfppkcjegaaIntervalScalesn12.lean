/- Written by a program of this session: what one law needs. -/
import Derived.Test.YtflnkfppkcjegaaIntervalScalesn10
import Derived.Test.YtflnkfppkcjegaaChecked
import Derived.Test.YtflnkfppkcjegaaIntervalScalesn0
import Derived.Test.YtflnkfppkcjegaaIntervalScalesn11
import Derived.Test.YtflnkfppkcjegaaIntervalScalesn5
import Derived.Test.YtflnkfppkcjegaaIntervalScalesn6
section
namespace Go.Proofs.Ytflnkfppkcjegaa.PAll
open Go Go.RowKit Go.Proofs.YtflnkfppkcjegaaW.PrintWords Go.Proofs.Ytflnkfppkcjegaa.Sx
set_option linter.unusedVariables false
set_option maxRecDepth 100000
def ephemerisref2_Times.f (k : Nat) (a0_0 : Bool) (a0_1 : Int) (a0_2 : Int) (a0_3 : Int) (a0_4 : Int) (a0_5 : Int) (a0_6 : Int) (a1_0 : Bool) (a1_1 : Int) (a1_2 : Int) (a1_3 : Int) (a1_4 : Int) (a1_5 : Int) (a1_6 : Int) : Option (Bool × Int × Int × Int × Int × Int × Int) :=
  ol (IntKind.i64.wrap (IntKind.i64.wrap (0 + IntKind.i64.wrap (a0_1 * a1_1)) + 0)) fun n1 =>
  ol (IntKind.i64.wrap (IntKind.i64.wrap (0 + IntKind.i64.wrap (a0_1 * a1_2)) + IntKind.i64.wrap (n1.tdiv 1000000000))) fun n2 =>
  ol (IntKind.i64.wrap (IntKind.i64.wrap (0 + IntKind.i64.wrap (a0_1 * a1_3)) + IntKind.i64.wrap (n2.tdiv 1000000000))) fun n3 =>
  ol (IntKind.i64.wrap (0 + IntKind.i64.wrap (n3.tdiv 1000000000))) fun n4 =>
  ol (IntKind.i64.wrap (0 + IntKind.i64.wrap (n4.tdiv 1000000000))) fun n5 =>
  ol (IntKind.i64.wrap (0 + IntKind.i64.wrap (n5.tdiv 1000000000))) fun n6 =>
  ol (IntKind.i64.wrap (IntKind.i64.wrap (n2.tmod 1000000000 + IntKind.i64.wrap (a0_2 * a1_1)) + 0)) fun n7 =>
  ol (IntKind.i64.wrap (IntKind.i64.wrap (n3.tmod 1000000000 + IntKind.i64.wrap (a0_2 * a1_2)) + IntKind.i64.wrap (n7.tdiv 1000000000))) fun n8 =>
  ol (IntKind.i64.wrap (IntKind.i64.wrap (n4.tmod 1000000000 + IntKind.i64.wrap (a0_2 * a1_3)) + IntKind.i64.wrap (n8.tdiv 1000000000))) fun n9 =>
  ol (IntKind.i64.wrap (n5.tmod 1000000000 + IntKind.i64.wrap (n9.tdiv 1000000000))) fun n10 =>
  ol (IntKind.i64.wrap (n6.tmod 1000000000 + IntKind.i64.wrap (n10.tdiv 1000000000))) fun n11 =>
  ol (IntKind.i64.wrap (IntKind.i64.wrap (n8.tmod 1000000000 + IntKind.i64.wrap (a0_3 * a1_1)) + 0)) fun n12 =>
  ol (IntKind.i64.wrap (IntKind.i64.wrap (n9.tmod 1000000000 + IntKind.i64.wrap (a0_3 * a1_2)) + IntKind.i64.wrap (n12.tdiv 1000000000))) fun n13 =>
  ol (IntKind.i64.wrap (IntKind.i64.wrap (n10.tmod 1000000000 + IntKind.i64.wrap (a0_3 * a1_3)) + IntKind.i64.wrap (n13.tdiv 1000000000))) fun n14 =>
  ol (IntKind.i64.wrap (n11.tmod 1000000000 + IntKind.i64.wrap (n14.tdiv 1000000000))) fun n15 =>
  some (!a0_0 == a1_0, n1.tmod 1000000000, n7.tmod 1000000000, n12.tmod 1000000000, n13.tmod 1000000000, n14.tmod 1000000000, n15.tmod 1000000000)
def ephemerisref2_Times.OQ {R : Type} (k : Nat) : OraQ R := fun g args K => match g with
  | _ => none
theorem ephemerisref2_Times.OQ_ok (k : Nat) (Φ : World → Prop) (base : Nat) {R : Type} : OraQOk Try.prog (fun _ => undef) Φ base (ephemerisref2_Times.OQ (R := R) k) := by
  intro g args K r h
  unfold ephemerisref2_Times.OQ at h
  split at h
  · cases h
def ephemerisref2_Times.F (v : Value) (_ : Mem) : Option (Bool × Int × Int × Int × Int × Int × Int) := match v with | .agg ⟨[.bool r1, .int .i64 r2, .int .i64 r3, .int .i64 r4, .int .i64 r5, .int .i64 r6, .int .i64 r7]⟩ => some (r1, r2, r3, r4, r5, r6, r7) | _ => none
theorem ephemerisref2_Times.run (k : Nat) (a0_0 : Bool) (a0_1 : Int) (a0_2 : Int) (a0_3 : Int) (a0_4 : Int) (a0_5 : Int) (a0_6 : Int) (a1_0 : Bool) (a1_1 : Int) (a1_2 : Int) (a1_3 : Int) (a1_4 : Int) (a1_5 : Int) (a1_6 : Int) : runNm Try.prog (liftQ (ephemerisref2_Times.OQ k)) (drawQ Try.prog (ephemerisref2_Times.OQ k)) (fun _ => none) (hook ol [(10, [9], []), (16, [11], [])]) (atEnd Try.prog Try.f59 ephemerisref2_Times.F) 5000 [.code (Try.f59.body.getD .skip)] ([.agg ⟨[.bool a0_0, .int .i64 a0_1, .int .i64 a0_2, .int .i64 a0_3, .int .i64 a0_4, .int .i64 a0_5, .int .i64 a0_6]⟩, .agg ⟨[.bool a1_0, .int .i64 a1_1, .int .i64 a1_2, .int .i64 a1_3, .int .i64 a1_4, .int .i64 a1_5, .int .i64 a1_6]⟩] ++ List.replicate (Try.f59.ntmps - ([.agg ⟨[.bool a0_0, .int .i64 a0_1, .int .i64 a0_2, .int .i64 a0_3, .int .i64 a0_4, .int .i64 a0_5, .int .i64 a0_6]⟩, .agg ⟨[.bool a1_0, .int .i64 a1_1, .int .i64 a1_2, .int .i64 a1_3, .int .i64 a1_4, .int .i64 a1_5, .int .i64 a1_6]⟩] : List Value).length) undef) [] = ephemerisref2_Times.f k a0_0 a0_1 a0_2 a0_3 a0_4 a0_5 a0_6 a1_0 a1_1 a1_2 a1_3 a1_4 a1_5 a1_6 := by kernel_rfl
theorem ephemerisref2_Times.calls (k : Nat) (a0_0 : Bool) (a0_1 : Int) (a0_2 : Int) (a0_3 : Int) (a0_4 : Int) (a0_5 : Int) (a0_6 : Int) (a1_0 : Bool) (a1_1 : Int) (a1_2 : Int) (a1_3 : Int) (a1_4 : Int) (a1_5 : Int) (a1_6 : Int) (r1 : Bool) (r2 : Int) (r3 : Int) (r4 : Int) (r5 : Int) (r6 : Int) (r7 : Int) (w : World) (h : ephemerisref2_Times.f k a0_0 a0_1 a0_2 a0_3 a0_4 a0_5 a0_6 a1_0 a1_1 a1_2 a1_3 a1_4 a1_5 a1_6 = some (r1, r2, r3, r4, r5, r6, r7)) :
    Calls Try.prog 59 #[.agg #[.bool a0_0, .int .i64 a0_1, .int .i64 a0_2, .int .i64 a0_3, .int .i64 a0_4, .int .i64 a0_5, .int .i64 a0_6], .agg #[.bool a1_0, .int .i64 a1_1, .int .i64 a1_2, .int .i64 a1_3, .int .i64 a1_4, .int .i64 a1_5, .int .i64 a1_6]] w fun e w' => e = .returned (.agg #[.bool r1, .int .i64 r2, .int .i64 r3, .int .i64 r4, .int .i64 r5, .int .i64 r6, .int .i64 r7]) ∧ Below w.heap.size w w' := by
  refine calls_closed (OQ := ephemerisref2_Times.OQ k) (LF := fun _ => none) (F := ephemerisref2_Times.F) (r := (r1, r2, r3, r4, r5, r6, r7)) (Checked.mixed Try.checked) (fun Φ base _ => ephemerisref2_Times.OQ_ok k Φ base) (LS := fun _ => True) (fun Φ base _ c _ live len f e => by cases e) Try.func59 rfl (fun _ _ => trivial) rfl (fun u m hu => ?_) rfl ((runNm_eq (hook_eq _) _ _ _ _).symm.trans ((ephemerisref2_Times.run k a0_0 a0_1 a0_2 a0_3 a0_4 a0_5 a0_6 a1_0 a1_1 a1_2 a1_3 a1_4 a1_5 a1_6).trans h)) w
  unfold ephemerisref2_Times.F at hu
  split at hu
  · cases hu; rfl
  · cases hu
end Go.Proofs.Ytflnkfppkcjegaa.PAll
end
section
namespace Go.Proofs.Ytflnkfppkcjegaa.PAll
open Go Go.RowKit Go.Proofs.YtflnkfppkcjegaaW.PrintWords Go.Proofs.Ytflnkfppkcjegaa.Sx
set_option linter.unusedVariables false
set_option maxRecDepth 100000
def ephemerisref2_Product.f (k : Nat) (a0 : Int) (a1 : Int) : Option (Bool × Int × Int × Int × Int × Int × Int) :=
  ob (ephemerisref2_ToWide.f k a0) fun t1 =>
  ob (ephemerisref2_ToWide.f k a1) fun t2 =>
  ob (ephemerisref2_Times.f k t1.fst t1.snd.fst t1.snd.snd.fst t1.snd.snd.snd.fst t1.snd.snd.snd.snd.fst t1.snd.snd.snd.snd.snd.fst t1.snd.snd.snd.snd.snd.snd t2.fst t2.snd.fst t2.snd.snd.fst t2.snd.snd.snd.fst t2.snd.snd.snd.snd.fst t2.snd.snd.snd.snd.snd.fst t2.snd.snd.snd.snd.snd.snd) fun t3 =>
  some (t3.fst, t3.snd.fst, t3.snd.snd.fst, t3.snd.snd.snd.fst, t3.snd.snd.snd.snd.fst, t3.snd.snd.snd.snd.snd.fst, t3.snd.snd.snd.snd.snd.snd)
def ephemerisref2_Product.OQ {R : Type} (k : Nat) : OraQ R := fun g args K => match g with
  | 31 => (match args with | [.int .i64 a0] => (ephemerisref2_ToWide.f k a0).bind fun q => K (.agg ⟨[.bool q.1, .int .i64 q.2.1, .int .i64 q.2.2.1, .int .i64 q.2.2.2.1, .int .i64 q.2.2.2.2.1, .int .i64 q.2.2.2.2.2.1, .int .i64 q.2.2.2.2.2.2]⟩) | _ => none)
  | 59 => (match args with | [.agg ⟨[.bool a0_0, .int .i64 a0_1, .int .i64 a0_2, .int .i64 a0_3, .int .i64 a0_4, .int .i64 a0_5, .int .i64 a0_6]⟩, .agg ⟨[.bool a1_0, .int .i64 a1_1, .int .i64 a1_2, .int .i64 a1_3, .int .i64 a1_4, .int .i64 a1_5, .int .i64 a1_6]⟩] => (ephemerisref2_Times.f k a0_0 a0_1 a0_2 a0_3 a0_4 a0_5 a0_6 a1_0 a1_1 a1_2 a1_3 a1_4 a1_5 a1_6).bind fun q => K (.agg ⟨[.bool q.1, .int .i64 q.2.1, .int .i64 q.2.2.1, .int .i64 q.2.2.2.1, .int .i64 q.2.2.2.2.1, .int .i64 q.2.2.2.2.2.1, .int .i64 q.2.2.2.2.2.2]⟩) | _ => none)
  | _ => none
theorem ephemerisref2_Product.OQ_ok (k : Nat) (Φ : World → Prop) (base : Nat) {R : Type} : OraQOk Try.prog (fun _ => undef) Φ base (ephemerisref2_Product.OQ (R := R) k) := by
  intro g args K r h
  unfold ephemerisref2_Product.OQ at h
  split at h
  · split at h
    · obtain ⟨q, hq, h⟩ := Option.bind_eq_some_iff.mp h
      exact ⟨_, h, callQ_of rfl rfl fun w => (ephemerisref2_ToWide.calls k _ _ _ _ _ _ _ _ w hq).mono fun e w' he => ⟨he.1, he.2⟩⟩
    · cases h
  · split at h
    · obtain ⟨q, hq, h⟩ := Option.bind_eq_some_iff.mp h
      exact ⟨_, h, callQ_of rfl rfl fun w => (ephemerisref2_Times.calls k _ _ _ _ _ _ _ _ _ _ _ _ _ _ _ _ _ _ _ _ _ w hq).mono fun e w' he => ⟨he.1, he.2⟩⟩
    · cases h
  · cases h
def ephemerisref2_Product.F (v : Value) (_ : Mem) : Option (Bool × Int × Int × Int × Int × Int × Int) := match v with | .agg ⟨[.bool r1, .int .i64 r2, .int .i64 r3, .int .i64 r4, .int .i64 r5, .int .i64 r6, .int .i64 r7]⟩ => some (r1, r2, r3, r4, r5, r6, r7) | _ => none
theorem ephemerisref2_Product.run (k : Nat) (a0 : Int) (a1 : Int) : runM Try.prog (liftQ (ephemerisref2_Product.OQ k)) (drawQ Try.prog (ephemerisref2_Product.OQ k)) (fun _ => none) (atEnd Try.prog Try.f28 ephemerisref2_Product.F) 5000 [.code (Try.f28.body.getD .skip)] ([.int .i64 a0, .int .i64 a1] ++ List.replicate (Try.f28.ntmps - ([.int .i64 a0, .int .i64 a1] : List Value).length) undef) [] = ephemerisref2_Product.f k a0 a1 := by kernel_rfl
theorem ephemerisref2_Product.calls (k : Nat) (a0 : Int) (a1 : Int) (r1 : Bool) (r2 : Int) (r3 : Int) (r4 : Int) (r5 : Int) (r6 : Int) (r7 : Int) (w : World) (h : ephemerisref2_Product.f k a0 a1 = some (r1, r2, r3, r4, r5, r6, r7)) :
    Calls Try.prog 28 #[.int .i64 a0, .int .i64 a1] w fun e w' => e = .returned (.agg #[.bool r1, .int .i64 r2, .int .i64 r3, .int .i64 r4, .int .i64 r5, .int .i64 r6, .int .i64 r7]) ∧ Below w.heap.size w w' := by
  refine calls_closed (OQ := ephemerisref2_Product.OQ k) (LF := fun _ => none) (F := ephemerisref2_Product.F) (r := (r1, r2, r3, r4, r5, r6, r7)) (Checked.mixed Try.checked) (fun Φ base _ => ephemerisref2_Product.OQ_ok k Φ base) (LS := fun _ => True) (fun Φ base _ c _ live len f e => by cases e) Try.func28 rfl (fun _ _ => trivial) rfl (fun u m hu => ?_) rfl (((ephemerisref2_Product.run k a0 a1).trans h)) w
  unfold ephemerisref2_Product.F at hu
  split at hu
  · cases hu; rfl
  · cases hu
end Go.Proofs.Ytflnkfppkcjegaa.PAll
end
section
namespace Go.Proofs.Ytflnkfppkcjegaa.PAll
open Go Go.RowKit Go.Proofs.YtflnkfppkcjegaaW.PrintWords Go.Proofs.Ytflnkfppkcjegaa.Sx
set_option linter.unusedVariables false
set_option maxRecDepth 100000
def ephemerisref2_signOf.f (k : Nat) (a0_0 : Bool) (a0_1 : Int) (a0_2 : Int) (a0_3 : Int) (a0_4 : Int) (a0_5 : Int) (a0_6 : Int) : Option (Int) :=
  oif ((a0_1 != 0) = true) (
   oif (a0_0 = true) (
    some (-1)) (
    some (1))) (
   oif ((a0_2 != 0) = true) (
    oif (a0_0 = true) (
     some (-1)) (
     some (1))) (
    oif ((a0_3 != 0) = true) (
     oif (a0_0 = true) (
      some (-1)) (
      some (1))) (
     oif ((a0_4 != 0) = true) (
      oif (a0_0 = true) (
       some (-1)) (
       some (1))) (
      oif ((a0_5 != 0) = true) (
       oif (a0_0 = true) (
        some (-1)) (
        some (1))) (
       oif ((a0_6 != 0) = true) (
        oif (a0_0 = true) (
         some (-1)) (
         some (1))) (
        some (0)))))))
def ephemerisref2_signOf.OQ {R : Type} (k : Nat) : OraQ R := fun g args K => match g with
  | _ => none
theorem ephemerisref2_signOf.OQ_ok (k : Nat) (Φ : World → Prop) (base : Nat) {R : Type} : OraQOk Try.prog (fun _ => undef) Φ base (ephemerisref2_signOf.OQ (R := R) k) := by
  intro g args K r h
  unfold ephemerisref2_signOf.OQ at h
  split at h
  · cases h
def ephemerisref2_signOf.F (v : Value) (_ : Mem) : Option (Int) := match v with | .int .i64 r => some (r) | _ => none
theorem ephemerisref2_signOf.run (k : Nat) (a0_0 : Bool) (a0_1 : Int) (a0_2 : Int) (a0_3 : Int) (a0_4 : Int) (a0_5 : Int) (a0_6 : Int) : runM Try.prog (liftQ (ephemerisref2_signOf.OQ k)) (drawQ Try.prog (ephemerisref2_signOf.OQ k)) (fun _ => none) (atEnd Try.prog Try.f60 ephemerisref2_signOf.F) 5000 [.code (Try.f60.body.getD .skip)] ([.agg ⟨[.bool a0_0, .int .i64 a0_1, .int .i64 a0_2, .int .i64 a0_3, .int .i64 a0_4, .int .i64 a0_5, .int .i64 a0_6]⟩] ++ List.replicate (Try.f60.ntmps - ([.agg ⟨[.bool a0_0, .int .i64 a0_1, .int .i64 a0_2, .int .i64 a0_3, .int .i64 a0_4, .int .i64 a0_5, .int .i64 a0_6]⟩] : List Value).length) undef) [] = ephemerisref2_signOf.f k a0_0 a0_1 a0_2 a0_3 a0_4 a0_5 a0_6 := by kernel_rfl
theorem ephemerisref2_signOf.calls (k : Nat) (a0_0 : Bool) (a0_1 : Int) (a0_2 : Int) (a0_3 : Int) (a0_4 : Int) (a0_5 : Int) (a0_6 : Int) (r : Int) (w : World) (h : ephemerisref2_signOf.f k a0_0 a0_1 a0_2 a0_3 a0_4 a0_5 a0_6 = some (r)) :
    Calls Try.prog 60 #[.agg #[.bool a0_0, .int .i64 a0_1, .int .i64 a0_2, .int .i64 a0_3, .int .i64 a0_4, .int .i64 a0_5, .int .i64 a0_6]] w fun e w' => e = .returned (.int .i64 r) ∧ Below w.heap.size w w' := by
  refine calls_closed (OQ := ephemerisref2_signOf.OQ k) (LF := fun _ => none) (F := ephemerisref2_signOf.F) (r := (r)) (Checked.mixed Try.checked) (fun Φ base _ => ephemerisref2_signOf.OQ_ok k Φ base) (LS := fun _ => True) (fun Φ base _ c _ live len f e => by cases e) Try.func60 rfl (fun _ _ => trivial) rfl (fun u m hu => ?_) rfl (((ephemerisref2_signOf.run k a0_0 a0_1 a0_2 a0_3 a0_4 a0_5 a0_6).trans h)) w
  unfold ephemerisref2_signOf.F at hu
  split at hu
  · cases hu; rfl
  · cases hu
end Go.Proofs.Ytflnkfppkcjegaa.PAll
end
section
namespace Go.Proofs.Ytflnkfppkcjegaa.PAll
open Go Go.RowKit Go.Proofs.YtflnkfppkcjegaaW.PrintWords Go.Proofs.Ytflnkfppkcjegaa.Sx
set_option linter.unusedVariables false
set_option maxRecDepth 100000
def ephemerisref2_Compare.f (k : Nat) (a0_0 : Bool) (a0_1 : Int) (a0_2 : Int) (a0_3 : Int) (a0_4 : Int) (a0_5 : Int) (a0_6 : Int) (a1_0 : Bool) (a1_1 : Int) (a1_2 : Int) (a1_3 : Int) (a1_4 : Int) (a1_5 : Int) (a1_6 : Int) : Option (Int) :=
  ob (ephemerisref2_signOf.f k a0_0 a0_1 a0_2 a0_3 a0_4 a0_5 a0_6) fun t1 =>
  ob (ephemerisref2_signOf.f k a1_0 a1_1 a1_2 a1_3 a1_4 a1_5 a1_6) fun t2 =>
  oif ((t1 != t2) = true) (
   oif (decide (t1 < t2) = true) (
    some (-1)) (
    some (1))) (
   oif ((a0_6 != a1_6) = true) (
    oif ((decide (a0_6 < a1_6) == decide (t1 > 0)) = true) (
     some (-1)) (
     some (1))) (
    oif ((a0_5 != a1_5) = true) (
     oif ((decide (a0_5 < a1_5) == decide (t1 > 0)) = true) (
      some (-1)) (
      some (1))) (
     oif ((a0_4 != a1_4) = true) (
      oif ((decide (a0_4 < a1_4) == decide (t1 > 0)) = true) (
       some (-1)) (
       some (1))) (
      oif ((a0_3 != a1_3) = true) (
       oif ((decide (a0_3 < a1_3) == decide (t1 > 0)) = true) (
        some (-1)) (
        some (1))) (
       oif ((a0_2 != a1_2) = true) (
        oif ((decide (a0_2 < a1_2) == decide (t1 > 0)) = true) (
         some (-1)) (
         some (1))) (
        oif ((a0_1 != a1_1) = true) (
         oif ((decide (a0_1 < a1_1) == decide (t1 > 0)) = true) (
          some (-1)) (
          some (1))) (
         some (0))))))))
def ephemerisref2_Compare.OQ {R : Type} (k : Nat) : OraQ R := fun g args K => match g with
  | 60 => (match args with | [.agg ⟨[.bool a0_0, .int .i64 a0_1, .int .i64 a0_2, .int .i64 a0_3, .int .i64 a0_4, .int .i64 a0_5, .int .i64 a0_6]⟩] => (ephemerisref2_signOf.f k a0_0 a0_1 a0_2 a0_3 a0_4 a0_5 a0_6).bind fun q => K (.int .i64 q) | _ => none)
  | _ => none
theorem ephemerisref2_Compare.OQ_ok (k : Nat) (Φ : World → Prop) (base : Nat) {R : Type} : OraQOk Try.prog (fun _ => undef) Φ base (ephemerisref2_Compare.OQ (R := R) k) := by
  intro g args K r h
  unfold ephemerisref2_Compare.OQ at h
  split at h
  · split at h
    · obtain ⟨q, hq, h⟩ := Option.bind_eq_some_iff.mp h
      exact ⟨_, h, callQ_of rfl rfl fun w => (ephemerisref2_signOf.calls k _ _ _ _ _ _ _ _ w hq).mono fun e w' he => ⟨he.1, he.2⟩⟩
    · cases h
  · cases h
def ephemerisref2_Compare.F (v : Value) (_ : Mem) : Option (Int) := match v with | .int .i64 r => some (r) | _ => none
theorem ephemerisref2_Compare.run (k : Nat) (a0_0 : Bool) (a0_1 : Int) (a0_2 : Int) (a0_3 : Int) (a0_4 : Int) (a0_5 : Int) (a0_6 : Int) (a1_0 : Bool) (a1_1 : Int) (a1_2 : Int) (a1_3 : Int) (a1_4 : Int) (a1_5 : Int) (a1_6 : Int) : runM Try.prog (liftQ (ephemerisref2_Compare.OQ k)) (drawQ Try.prog (ephemerisref2_Compare.OQ k)) (fun _ => none) (atEnd Try.prog Try.f30 ephemerisref2_Compare.F) 5000 [.code (Try.f30.body.getD .skip)] ([.agg ⟨[.bool a0_0, .int .i64 a0_1, .int .i64 a0_2, .int .i64 a0_3, .int .i64 a0_4, .int .i64 a0_5, .int .i64 a0_6]⟩, .agg ⟨[.bool a1_0, .int .i64 a1_1, .int .i64 a1_2, .int .i64 a1_3, .int .i64 a1_4, .int .i64 a1_5, .int .i64 a1_6]⟩] ++ List.replicate (Try.f30.ntmps - ([.agg ⟨[.bool a0_0, .int .i64 a0_1, .int .i64 a0_2, .int .i64 a0_3, .int .i64 a0_4, .int .i64 a0_5, .int .i64 a0_6]⟩, .agg ⟨[.bool a1_0, .int .i64 a1_1, .int .i64 a1_2, .int .i64 a1_3, .int .i64 a1_4, .int .i64 a1_5, .int .i64 a1_6]⟩] : List Value).length) undef) [] = ephemerisref2_Compare.f k a0_0 a0_1 a0_2 a0_3 a0_4 a0_5 a0_6 a1_0 a1_1 a1_2 a1_3 a1_4 a1_5 a1_6 := by kernel_rfl
theorem ephemerisref2_Compare.calls (k : Nat) (a0_0 : Bool) (a0_1 : Int) (a0_2 : Int) (a0_3 : Int) (a0_4 : Int) (a0_5 : Int) (a0_6 : Int) (a1_0 : Bool) (a1_1 : Int) (a1_2 : Int) (a1_3 : Int) (a1_4 : Int) (a1_5 : Int) (a1_6 : Int) (r : Int) (w : World) (h : ephemerisref2_Compare.f k a0_0 a0_1 a0_2 a0_3 a0_4 a0_5 a0_6 a1_0 a1_1 a1_2 a1_3 a1_4 a1_5 a1_6 = some (r)) :
    Calls Try.prog 30 #[.agg #[.bool a0_0, .int .i64 a0_1, .int .i64 a0_2, .int .i64 a0_3, .int .i64 a0_4, .int .i64 a0_5, .int .i64 a0_6], .agg #[.bool a1_0, .int .i64 a1_1, .int .i64 a1_2, .int .i64 a1_3, .int .i64 a1_4, .int .i64 a1_5, .int .i64 a1_6]] w fun e w' => e = .returned (.int .i64 r) ∧ Below w.heap.size w w' := by
  refine calls_closed (OQ := ephemerisref2_Compare.OQ k) (LF := fun _ => none) (F := ephemerisref2_Compare.F) (r := (r)) (Checked.mixed Try.checked) (fun Φ base _ => ephemerisref2_Compare.OQ_ok k Φ base) (LS := fun _ => True) (fun Φ base _ c _ live len f e => by cases e) Try.func30 rfl (fun _ _ => trivial) rfl (fun u m hu => ?_) rfl (((ephemerisref2_Compare.run k a0_0 a0_1 a0_2 a0_3 a0_4 a0_5 a0_6 a1_0 a1_1 a1_2 a1_3 a1_4 a1_5 a1_6).trans h)) w
  unfold ephemerisref2_Compare.F at hu
  split at hu
  · cases hu; rfl
  · cases hu
end Go.Proofs.Ytflnkfppkcjegaa.PAll
end
section
namespace Go.Proofs.Ytflnkfppkcjegaa.PAll
open Go.RowKit Go.Proofs.YtflnkfppkcjegaaW.PrintWords Go.Proofs.YtflnkfppkcjegaaW.PrintLast Go.Proofs.YtflnkfppkcjegaaW.PrintMore Go.Proofs.Ytflnkfppkcjegaa.More2
attribute [local go_sem] max2_int min2_int max_two min_two max_three min_three max_four min_four tdiv2e18_ tdiv1e18_ cellSS_  -- for this text's walks alone
set_option linter.unusedVariables false
set_option linter.unusedSimpArgs false
def ephemerislaw2_beyond.f (a0 : Int) (a1 : Int) : Option (Bool) := if a0 < (wrap64 (-a1)) then (some true) else (some (decide (a0 > a1)))
set_option maxHeartbeats 8000000 in
set_option maxRecDepth 100000 in
theorem ephemerislaw2_beyond.calls (a0 : Int) (a1 : Int) (r : Bool) (w : World) (h : ephemerislaw2_beyond.f a0 a1 = some r) :
    Calls Try.prog 34 #[.int .i64 a0, .int .i64 a1] w fun e w' => e = .returned (.bool r) ∧ Drawn0 w w' := by
  have H : (if a0 < (wrap64 (-a1)) then (some true) else (some (decide (a0 > a1)))) = some r := h
  clear h
  by_cases c3 : a0 < (wrap64 (-a1))
  · rw [if_pos c3] at H
    have c3b0 : decide (a0 < (wrap64 (-a1))) = true := decide_eq_true c3
    clear c3
    obtain rfl := Option.some.inj H
    simp only [Option.some.injEq, Prod.mk.injEq] at H
    obtain ⟨rfl⟩ := H
    go_enter Try.func34, Try.ntmps34
    go_wp2
    go_ret
    exact ⟨by first | rfl | (simp; done) | (simp [*]; done), by repeat (first | exact Drawn0.refl _ | apply Drawn0.step)⟩
  · rw [if_neg c3] at H
    have c3b0 : decide (a0 < (wrap64 (-a1))) = false := decide_eq_false c3
    clear c3
    obtain rfl := Option.some.inj H
    simp only [Option.some.injEq, Prod.mk.injEq] at H
    obtain ⟨rfl⟩ := H
    go_enter Try.func34, Try.ntmps34
    go_wp2
    go_ret
    exact ⟨by first | rfl | (simp; done) | (simp [*]; done), by repeat (first | exact Drawn0.refl _ | apply Drawn0.step)⟩
end Go.Proofs.Ytflnkfppkcjegaa.PAll
end
section
namespace Go.Proofs.Ytflnkfppkcjegaa.PAll
open Go Go.RowKit Go.Proofs.YtflnkfppkcjegaaW.PrintWords Go.Proofs.Ytflnkfppkcjegaa.Sx
set_option linter.unusedVariables false
set_option maxRecDepth 100000
def ephemerislaw2_IntervalScales.f (k : Nat) (a0_0 : Int) (a0_1 : Int) (a1 : Int) (a2 : Int) : Option (Bool) :=
  ob (ephemerislaw2_intervalWorks.f k) fun t1 =>
  oif (t1 = true) (
   ob (interval_Scale.f k a0_0 a0_1 a1 a2) fun t2 =>
   ob (ephemerisref2_SpanErr.f k a0_0 a0_1) fun t3 =>
   oif ((t3 != 0) = true) (
    ob (ephemerislaw2_none.f t2.fst t2.snd.fst t2.snd.snd t3) fun t4 =>
    some (t4)) (
    oif (decide (a2 < 1) = true) (
     ob (ephemerislaw2_none.f t2.fst t2.snd.fst t2.snd.snd 1) fun t5 =>
     some (t5)) (
     oif (decide (a2 > 1000000000) = true) (
      ob (ephemerislaw2_none.f t2.fst t2.snd.fst t2.snd.snd 1) fun t6 =>
      some (t6)) (
      ob (ephemerislaw2_beyond.f a1 1000000000) fun t7 =>
      oif (t7 = true) (
       ob (ephemerislaw2_none.f t2.fst t2.snd.fst t2.snd.snd 1) fun t8 =>
       some (t8)) (
       ob (ephemerisref2_Product.f k a0_0 a1) fun t9 =>
       ob (ephemerisref2_Product.f k a0_1 a1) fun t10 =>
       oif (decide (a1 < 0) = true) (
        ob (ephemerisref2_Product.f k (-1000000000000000000) a2) fun t11 =>
        ob (ephemerisref2_Compare.f k t10.fst t10.snd.fst t10.snd.snd.fst t10.snd.snd.snd.fst t10.snd.snd.snd.snd.fst t10.snd.snd.snd.snd.snd.fst t10.snd.snd.snd.snd.snd.snd t11.fst t11.snd.fst t11.snd.snd.fst t11.snd.snd.snd.fst t11.snd.snd.snd.snd.fst t11.snd.snd.snd.snd.snd.fst t11.snd.snd.snd.snd.snd.snd) fun t12 =>
        oif (decide (t12 < 0) = true) (
         ob (ephemerislaw2_none.f t2.fst t2.snd.fst t2.snd.snd 14) fun t13 =>
         some (t13)) (
         ob (ephemerisref2_Product.f k 1000000000000000000 a2) fun t14 =>
         ob (ephemerisref2_Compare.f k t9.fst t9.snd.fst t9.snd.snd.fst t9.snd.snd.snd.fst t9.snd.snd.snd.snd.fst t9.snd.snd.snd.snd.snd.fst t9.snd.snd.snd.snd.snd.snd t14.fst t14.snd.fst t14.snd.snd.fst t14.snd.snd.snd.fst t14.snd.snd.snd.snd.fst t14.snd.snd.snd.snd.snd.fst t14.snd.snd.snd.snd.snd.snd) fun t15 =>
         oif (decide (t15 > 0) = true) (
          ob (ephemerislaw2_none.f t2.fst t2.snd.fst t2.snd.snd 14) fun t16 =>
          some (t16)) (
          oif ((t2.snd.snd == 0) = true) (
           ob (ephemerisref2_Product.f k t2.fst a2) fun t17 =>
           ob (ephemerisref2_Compare.f k t17.fst t17.snd.fst t17.snd.snd.fst t17.snd.snd.snd.fst t17.snd.snd.snd.snd.fst t17.snd.snd.snd.snd.snd.fst t17.snd.snd.snd.snd.snd.snd t10.fst t10.snd.fst t10.snd.snd.fst t10.snd.snd.snd.fst t10.snd.snd.snd.snd.fst t10.snd.snd.snd.snd.snd.fst t10.snd.snd.snd.snd.snd.snd) fun t18 =>
           oif (decide (t18 ≤ 0) = true) (
            ob (ephemerisref2_Product.f k (IntKind.i64.wrap (t2.fst + 1)) a2) fun t19 =>
            ob (ephemerisref2_Compare.f k t19.fst t19.snd.fst t19.snd.snd.fst t19.snd.snd.snd.fst t19.snd.snd.snd.snd.fst t19.snd.snd.snd.snd.snd.fst t19.snd.snd.snd.snd.snd.snd t10.fst t10.snd.fst t10.snd.snd.fst t10.snd.snd.snd.fst t10.snd.snd.snd.snd.fst t10.snd.snd.snd.snd.snd.fst t10.snd.snd.snd.snd.snd.snd) fun t20 =>
            oif (decide (t20 > 0) = true) (
             ob (ephemerisref2_Product.f k t2.snd.fst a2) fun t21 =>
             ob (ephemerisref2_Compare.f k t21.fst t21.snd.fst t21.snd.snd.fst t21.snd.snd.snd.fst t21.snd.snd.snd.snd.fst t21.snd.snd.snd.snd.snd.fst t21.snd.snd.snd.snd.snd.snd t9.fst t9.snd.fst t9.snd.snd.fst t9.snd.snd.snd.fst t9.snd.snd.snd.snd.fst t9.snd.snd.snd.snd.snd.fst t9.snd.snd.snd.snd.snd.snd) fun t22 =>
             oif (decide (t22 ≥ 0) = true) (
              ob (ephemerisref2_Product.f k (IntKind.i64.wrap (t2.snd.fst - 1)) a2) fun t23 =>
              ob (ephemerisref2_Compare.f k t23.fst t23.snd.fst t23.snd.snd.fst t23.snd.snd.snd.fst t23.snd.snd.snd.snd.fst t23.snd.snd.snd.snd.snd.fst t23.snd.snd.snd.snd.snd.snd t9.fst t9.snd.fst t9.snd.snd.fst t9.snd.snd.snd.fst t9.snd.snd.snd.snd.fst t9.snd.snd.snd.snd.snd.fst t9.snd.snd.snd.snd.snd.snd) fun t24 =>
              some (decide (t24 < 0))) (
              some (false))) (
             some (false))) (
            some (false))) (
           some (false))))) (
        ob (ephemerisref2_Product.f k (-1000000000000000000) a2) fun t25 =>
        ob (ephemerisref2_Compare.f k t9.fst t9.snd.fst t9.snd.snd.fst t9.snd.snd.snd.fst t9.snd.snd.snd.snd.fst t9.snd.snd.snd.snd.snd.fst t9.snd.snd.snd.snd.snd.snd t25.fst t25.snd.fst t25.snd.snd.fst t25.snd.snd.snd.fst t25.snd.snd.snd.snd.fst t25.snd.snd.snd.snd.snd.fst t25.snd.snd.snd.snd.snd.snd) fun t26 =>
        oif (decide (t26 < 0) = true) (
         ob (ephemerislaw2_none.f t2.fst t2.snd.fst t2.snd.snd 14) fun t27 =>
         some (t27)) (
         ob (ephemerisref2_Product.f k 1000000000000000000 a2) fun t28 =>
         ob (ephemerisref2_Compare.f k t10.fst t10.snd.fst t10.snd.snd.fst t10.snd.snd.snd.fst t10.snd.snd.snd.snd.fst t10.snd.snd.snd.snd.snd.fst t10.snd.snd.snd.snd.snd.snd t28.fst t28.snd.fst t28.snd.snd.fst t28.snd.snd.snd.fst t28.snd.snd.snd.snd.fst t28.snd.snd.snd.snd.snd.fst t28.snd.snd.snd.snd.snd.snd) fun t29 =>
         oif (decide (t29 > 0) = true) (
          ob (ephemerislaw2_none.f t2.fst t2.snd.fst t2.snd.snd 14) fun t30 =>
          some (t30)) (
          oif ((t2.snd.snd == 0) = true) (
           ob (ephemerisref2_Product.f k t2.fst a2) fun t31 =>
           ob (ephemerisref2_Compare.f k t31.fst t31.snd.fst t31.snd.snd.fst t31.snd.snd.snd.fst t31.snd.snd.snd.snd.fst t31.snd.snd.snd.snd.snd.fst t31.snd.snd.snd.snd.snd.snd t9.fst t9.snd.fst t9.snd.snd.fst t9.snd.snd.snd.fst t9.snd.snd.snd.snd.fst t9.snd.snd.snd.snd.snd.fst t9.snd.snd.snd.snd.snd.snd) fun t32 =>
           oif (decide (t32 ≤ 0) = true) (
            ob (ephemerisref2_Product.f k (IntKind.i64.wrap (t2.fst + 1)) a2) fun t33 =>
            ob (ephemerisref2_Compare.f k t33.fst t33.snd.fst t33.snd.snd.fst t33.snd.snd.snd.fst t33.snd.snd.snd.snd.fst t33.snd.snd.snd.snd.snd.fst t33.snd.snd.snd.snd.snd.snd t9.fst t9.snd.fst t9.snd.snd.fst t9.snd.snd.snd.fst t9.snd.snd.snd.snd.fst t9.snd.snd.snd.snd.snd.fst t9.snd.snd.snd.snd.snd.snd) fun t34 =>
            oif (decide (t34 > 0) = true) (
             ob (ephemerisref2_Product.f k t2.snd.fst a2) fun t35 =>
             ob (ephemerisref2_Compare.f k t35.fst t35.snd.fst t35.snd.snd.fst t35.snd.snd.snd.fst t35.snd.snd.snd.snd.fst t35.snd.snd.snd.snd.snd.fst t35.snd.snd.snd.snd.snd.snd t10.fst t10.snd.fst t10.snd.snd.fst t10.snd.snd.snd.fst t10.snd.snd.snd.snd.fst t10.snd.snd.snd.snd.snd.fst t10.snd.snd.snd.snd.snd.snd) fun t36 =>
             oif (decide (t36 ≥ 0) = true) (
              ob (ephemerisref2_Product.f k (IntKind.i64.wrap (t2.snd.fst - 1)) a2) fun t37 =>
              ob (ephemerisref2_Compare.f k t37.fst t37.snd.fst t37.snd.snd.fst t37.snd.snd.snd.fst t37.snd.snd.snd.snd.fst t37.snd.snd.snd.snd.snd.fst t37.snd.snd.snd.snd.snd.snd t10.fst t10.snd.fst t10.snd.snd.fst t10.snd.snd.snd.fst t10.snd.snd.snd.snd.fst t10.snd.snd.snd.snd.snd.fst t10.snd.snd.snd.snd.snd.snd) fun t38 =>
              some (decide (t38 < 0))) (
              some (false))) (
             some (false))) (
            some (false))) (
           some (false)))))))))) (
   none)
def ephemerislaw2_IntervalScales.OQ {R : Type} (k : Nat) : OraQ R := fun g args K => match g with
  | 22 => (match args with | [] => (ephemerislaw2_intervalWorks.f k).bind fun q => (if q = true then K (.bool true) else none) | _ => none)
  | 24 => (match args with | [.agg ⟨[.int .i64 a0_0, .int .i64 a0_1]⟩] => (ephemerisref2_SpanErr.f k a0_0 a0_1).bind fun q => K (.int .i64 q) | _ => none)
  | 27 => (match args with | [.agg ⟨[.int .i64 a0_0, .int .i64 a0_1]⟩, .int .i64 a1, .int .i64 a2] => (ephemerislaw2_none.f a0_0 a0_1 a1 a2).bind fun q => K (.bool q) | _ => none)
  | 28 => (match args with | [.int .i64 a0, .int .i64 a1] => (ephemerisref2_Product.f k a0 a1).bind fun q => K (.agg ⟨[.bool q.1, .int .i64 q.2.1, .int .i64 q.2.2.1, .int .i64 q.2.2.2.1, .int .i64 q.2.2.2.2.1, .int .i64 q.2.2.2.2.2.1, .int .i64 q.2.2.2.2.2.2]⟩) | _ => none)
  | 30 => (match args with | [.agg ⟨[.bool a0_0, .int .i64 a0_1, .int .i64 a0_2, .int .i64 a0_3, .int .i64 a0_4, .int .i64 a0_5, .int .i64 a0_6]⟩, .agg ⟨[.bool a1_0, .int .i64 a1_1, .int .i64 a1_2, .int .i64 a1_3, .int .i64 a1_4, .int .i64 a1_5, .int .i64 a1_6]⟩] => (ephemerisref2_Compare.f k a0_0 a0_1 a0_2 a0_3 a0_4 a0_5 a0_6 a1_0 a1_1 a1_2 a1_3 a1_4 a1_5 a1_6).bind fun q => K (.int .i64 q) | _ => none)
  | 33 => (match args with | [.agg ⟨[.int .i64 a0_0, .int .i64 a0_1]⟩, .int .i64 a1, .int .i64 a2] => (interval_Scale.f k a0_0 a0_1 a1 a2).bind fun q => K (.tuple ⟨[.agg ⟨[.int .i64 q.1, .int .i64 q.2.1]⟩, .int .i64 q.2.2]⟩) | _ => none)
  | 34 => (match args with | [.int .i64 a0, .int .i64 a1] => (ephemerislaw2_beyond.f a0 a1).bind fun q => K (.bool q) | _ => none)
  | _ => none
theorem ephemerislaw2_IntervalScales.OQ_ok (k : Nat) (Φ : World → Prop) (base : Nat) {R : Type} : OraQOk Try.prog (fun _ => undef) Φ base (ephemerislaw2_IntervalScales.OQ (R := R) k) := by
  intro g args K r h
  unfold ephemerislaw2_IntervalScales.OQ at h
  split at h
  · split at h
    · obtain ⟨q, hq, h⟩ := Option.bind_eq_some_iff.mp h
      split at h
      · rename_i hT; subst hT
        exact ⟨_, h, callQ_of rfl rfl fun w => (ephemerislaw2_intervalWorks.calls k _ w hq rfl).mono fun e w' he => ⟨he.1, he.2⟩⟩
      · cases h
    · cases h
  · split at h
    · obtain ⟨q, hq, h⟩ := Option.bind_eq_some_iff.mp h
      exact ⟨_, h, callQ_of rfl rfl fun w => (ephemerisref2_SpanErr.calls k _ _ _ w hq).mono fun e w' he => ⟨he.1, he.2⟩⟩
    · cases h
  · split at h
    · obtain ⟨q, hq, h⟩ := Option.bind_eq_some_iff.mp h
      exact ⟨_, h, callQ_of rfl rfl fun w => (ephemerislaw2_none.calls _ _ _ _ _ w hq).mono fun e w' he => ⟨he.1, he.2⟩⟩
    · cases h
  · split at h
    · obtain ⟨q, hq, h⟩ := Option.bind_eq_some_iff.mp h
      exact ⟨_, h, callQ_of rfl rfl fun w => (ephemerisref2_Product.calls k _ _ _ _ _ _ _ _ _ w hq).mono fun e w' he => ⟨he.1, he.2⟩⟩
    · cases h
  · split at h
    · obtain ⟨q, hq, h⟩ := Option.bind_eq_some_iff.mp h
      exact ⟨_, h, callQ_of rfl rfl fun w => (ephemerisref2_Compare.calls k _ _ _ _ _ _ _ _ _ _ _ _ _ _ _ w hq).mono fun e w' he => ⟨he.1, he.2⟩⟩
    · cases h
  · split at h
    · obtain ⟨q, hq, h⟩ := Option.bind_eq_some_iff.mp h
      exact ⟨_, h, callQ_of rfl rfl fun w => (interval_Scale.calls k _ _ _ _ _ _ _ w hq).mono fun e w' he => ⟨he.1, he.2⟩⟩
    · cases h
  · split at h
    · obtain ⟨q, hq, h⟩ := Option.bind_eq_some_iff.mp h
      exact ⟨_, h, callQ_of rfl rfl fun w => (ephemerislaw2_beyond.calls _ _ _ w hq).mono fun e w' he => ⟨he.1, he.2.below⟩⟩
    · cases h
  · cases h
def ephemerislaw2_IntervalScales.F (v : Value) (_ : Mem) : Option (Bool) := match v with | .bool r => some (r) | _ => none
theorem ephemerislaw2_IntervalScales.run (k : Nat) (a0_0 : Int) (a0_1 : Int) (a1 : Int) (a2 : Int) : runM Try.prog (liftQ (ephemerislaw2_IntervalScales.OQ k)) (drawQ Try.prog (ephemerislaw2_IntervalScales.OQ k)) (fun _ => none) (atEnd Try.prog Try.f7 ephemerislaw2_IntervalScales.F) 5000 [.code (Try.f7.body.getD .skip)] ([.agg ⟨[.int .i64 a0_0, .int .i64 a0_1]⟩, .int .i64 a1, .int .i64 a2] ++ List.replicate (Try.f7.ntmps - ([.agg ⟨[.int .i64 a0_0, .int .i64 a0_1]⟩, .int .i64 a1, .int .i64 a2] : List Value).length) undef) [] = ephemerislaw2_IntervalScales.f k a0_0 a0_1 a1 a2 := by kernel_rfl
theorem ephemerislaw2_IntervalScales.calls (k : Nat) (a0_0 : Int) (a0_1 : Int) (a1 : Int) (a2 : Int) (r : Bool) (w : World) (h : ephemerislaw2_IntervalScales.f k a0_0 a0_1 a1 a2 = some (r)) (hT : r = true) :
    Calls Try.prog 7 #[.agg #[.int .i64 a0_0, .int .i64 a0_1], .int .i64 a1, .int .i64 a2] w fun e w' => e = .returned (.bool r) ∧ Below w.heap.size w w' := by
  refine calls_closed (OQ := ephemerislaw2_IntervalScales.OQ k) (LF := fun _ => none) (F := ephemerislaw2_IntervalScales.F) (r := (r)) (Checked.mixed Try.checked) (fun Φ base _ => ephemerislaw2_IntervalScales.OQ_ok k Φ base) (LS := fun _ => True) (fun Φ base _ c _ live len f e => by cases e) Try.func7 rfl (fun _ _ => trivial) rfl (fun u m hu => ?_) rfl (((ephemerislaw2_IntervalScales.run k a0_0 a0_1 a1 a2).trans h)) w
  unfold ephemerislaw2_IntervalScales.F at hu
  split at hu
  · cases hu; rfl
  · cases hu
end Go.Proofs.Ytflnkfppkcjegaa.PAll
end
