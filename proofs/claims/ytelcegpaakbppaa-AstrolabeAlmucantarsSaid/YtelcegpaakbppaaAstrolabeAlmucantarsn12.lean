/- Written by a program of this session: the symbolic executor. -/
import Derived.Test.YtelcegpaakbppaaAstrolabeAlmucantarsn2
import Derived.Test.YtelcegpaakbppaaAstrolabeAlmucantarsn11
import Derived.Test.YtelcegpaakbppaaAstrolabeAlmucantarsn6
import Derived.Test.YtelcegpaakbppaaChecked
import Derived.Test.YtelcegpaakbppaaAstrolabeAlmucantarsn0
namespace Go.Proofs.Ytelcegpaakbppaa.PAll
open Go Go.RowKit Go.Proofs.YtelcegpaakbppaaW.PrintWords Go.Proofs.Ytelcegpaakbppaa.Sx
set_option linter.unusedVariables false
set_option maxRecDepth 100000
def ephemerislaw2_AstrolabeAlmucantars.f (k : Nat) (a0 : Int) (a1 : Int) : Option (Bool) :=
  ob (ephemerislaw2_astrolabeWorks.f k) fun t1 =>
  oif (t1 = true) (
   ob (astrolabe_Almucantar.f k a0 a1) fun t2 =>
   oif (decide (a0 < 10000000) = true) (
    ob (ephemerislaw2_none.f t2.fst t2.snd.fst t2.snd.snd.snd.snd 3) fun t3 =>
    oif (t3 = true) (
     some (t2.snd.snd.fst == 0 && (t2.snd.snd.snd.fst == 0 && true))) (
     some (false))) (
    oif (decide (a0 > 220000000) = true) (
     ob (ephemerislaw2_none.f t2.fst t2.snd.fst t2.snd.snd.snd.snd 3) fun t4 =>
     oif (t4 = true) (
      some (t2.snd.snd.fst == 0 && (t2.snd.snd.snd.fst == 0 && true))) (
      some (false))) (
     oif (decide (a1 < 0) = true) (
      ob (ephemerislaw2_none.f t2.fst t2.snd.fst t2.snd.snd.snd.snd 1) fun t5 =>
      oif (t5 = true) (
       some (t2.snd.snd.fst == 0 && (t2.snd.snd.snd.fst == 0 && true))) (
       some (false))) (
      oif (decide (a1 > 220000000) = true) (
       ob (ephemerislaw2_none.f t2.fst t2.snd.fst t2.snd.snd.snd.snd 1) fun t6 =>
       oif (t6 = true) (
        some (t2.snd.snd.fst == 0 && (t2.snd.snd.snd.fst == 0 && true))) (
        some (false))) (
       ob (ephemerisref2_SinCos.f k (IntKind.i64.wrap (a0 * 1000000))) fun t7 =>
       ob (ephemerisref2_SinCos.f k (IntKind.i64.wrap (a1 * 1000000))) fun t8 =>
       oif ((t2.snd.snd.snd.snd == 0) = true) (
        ob (ephemerisref2_InRatio.f k t2.fst t2.snd.fst t7.snd (IntKind.i64.wrap (IntKind.i64.wrap (t7.fst.tdiv 2) + IntKind.i64.wrap (t8.fst.tdiv 2)))) fun t9 =>
        oif (t9 = true) (
         ob (ephemerisref2_InRatio.f k t2.snd.snd.fst t2.snd.snd.snd.fst t8.snd (IntKind.i64.wrap (IntKind.i64.wrap (t7.fst.tdiv 2) + IntKind.i64.wrap (t8.fst.tdiv 2)))) fun t10 =>
         some (t10)) (
         some (false))) (
        some (false))))))) (
   none)
def ephemerislaw2_AstrolabeAlmucantars.OQ {R : Type} (k : Nat) : OraQ R := fun g args K => match g with
  | 20 => (match args with | [.agg ⟨[.int .i64 a0_0, .int .i64 a0_1]⟩, .int .i64 a1, .int .i64 a2] => (ephemerislaw2_none.f a0_0 a0_1 a1 a2).bind fun q => K (.bool q) | _ => none)
  | 21 => (match args with | [.int .i64 a0] => (ephemerisref2_SinCos.f k a0).bind fun q => K (.tuple ⟨[.int .i64 q.1, .int .i64 q.2]⟩) | _ => none)
  | 35 => (match args with | [] => (ephemerislaw2_astrolabeWorks.f k).bind fun q => (if q = true then K (.bool true) else none) | _ => none)
  | 37 => (match args with | [.agg ⟨[.int .i64 a0_0, .int .i64 a0_1]⟩, .int .i64 a1, .int .i64 a2] => (ephemerisref2_InRatio.f k a0_0 a0_1 a1 a2).bind fun q => K (.bool q) | _ => none)
  | 38 => (match args with | [.int .i64 a0, .int .i64 a1] => (astrolabe_Almucantar.f k a0 a1).bind fun q => K (.tuple ⟨[.agg ⟨[.int .i64 q.1, .int .i64 q.2.1]⟩, .agg ⟨[.int .i64 q.2.2.1, .int .i64 q.2.2.2.1]⟩, .int .i64 q.2.2.2.2]⟩) | _ => none)
  | _ => none
theorem ephemerislaw2_AstrolabeAlmucantars.OQ_ok (k : Nat) (Φ : World → Prop) (base : Nat) {R : Type} : OraQOk Try.prog (fun _ => undef) Φ base (ephemerislaw2_AstrolabeAlmucantars.OQ (R := R) k) := by
  intro g args K r h
  unfold ephemerislaw2_AstrolabeAlmucantars.OQ at h
  split at h
  · split at h
    · obtain ⟨q, hq, h⟩ := Option.bind_eq_some_iff.mp h
      exact ⟨_, h, callQ_of rfl rfl fun w => (ephemerislaw2_none.calls _ _ _ _ _ w hq).mono fun e w' he => ⟨he.1, he.2⟩⟩
    · cases h
  · split at h
    · obtain ⟨q, hq, h⟩ := Option.bind_eq_some_iff.mp h
      exact ⟨_, h, callQ_of rfl rfl fun w => (ephemerisref2_SinCos.calls k _ _ _ w hq).mono fun e w' he => ⟨he.1, he.2.below⟩⟩
    · cases h
  · split at h
    · obtain ⟨q, hq, h⟩ := Option.bind_eq_some_iff.mp h
      split at h
      · rename_i hT; subst hT
        exact ⟨_, h, callQ_of rfl rfl fun w => (ephemerislaw2_astrolabeWorks.calls k _ w hq rfl).mono fun e w' he => ⟨he.1, he.2⟩⟩
      · cases h
    · cases h
  · split at h
    · obtain ⟨q, hq, h⟩ := Option.bind_eq_some_iff.mp h
      exact ⟨_, h, callQ_of rfl rfl fun w => (ephemerisref2_InRatio.calls k _ _ _ _ _ w hq).mono fun e w' he => ⟨he.1, he.2⟩⟩
    · cases h
  · split at h
    · obtain ⟨q, hq, h⟩ := Option.bind_eq_some_iff.mp h
      exact ⟨_, h, callQ_of rfl rfl fun w => (astrolabe_Almucantar.calls k _ _ _ _ _ _ _ w hq).mono fun e w' he => ⟨he.1, he.2⟩⟩
    · cases h
  · cases h
def ephemerislaw2_AstrolabeAlmucantars.F (v : Value) (_ : Mem) : Option (Bool) := match v with | .bool r => some (r) | _ => none
theorem ephemerislaw2_AstrolabeAlmucantars.run (k : Nat) (a0 : Int) (a1 : Int) : runM Try.prog (liftQ (ephemerislaw2_AstrolabeAlmucantars.OQ k)) (drawQ Try.prog (ephemerislaw2_AstrolabeAlmucantars.OQ k)) (fun _ => none) (atEnd Try.prog Try.f9 ephemerislaw2_AstrolabeAlmucantars.F) 5000 [.code (Try.f9.body.getD .skip)] ([.int .i64 a0, .int .i64 a1] ++ List.replicate (Try.f9.ntmps - ([.int .i64 a0, .int .i64 a1] : List Value).length) undef) [] = ephemerislaw2_AstrolabeAlmucantars.f k a0 a1 := by kernel_rfl
theorem ephemerislaw2_AstrolabeAlmucantars.calls (k : Nat) (a0 : Int) (a1 : Int) (r : Bool) (w : World) (h : ephemerislaw2_AstrolabeAlmucantars.f k a0 a1 = some (r)) (hT : r = true) :
    Calls Try.prog 9 #[.int .i64 a0, .int .i64 a1] w fun e w' => e = .returned (.bool r) ∧ Below w.heap.size w w' := by
  refine calls_closed (OQ := ephemerislaw2_AstrolabeAlmucantars.OQ k) (LF := fun _ => none) (F := ephemerislaw2_AstrolabeAlmucantars.F) (r := (r)) (Checked.mixed Try.checked) (fun Φ base _ => ephemerislaw2_AstrolabeAlmucantars.OQ_ok k Φ base) (LS := fun _ => True) (fun Φ base _ c _ live len f e => by cases e) Try.func9 rfl (fun _ _ => trivial) rfl (fun u m hu => ?_) rfl (((ephemerislaw2_AstrolabeAlmucantars.run k a0 a1).trans h)) w
  unfold ephemerislaw2_AstrolabeAlmucantars.F at hu
  split at hu
  · cases hu; rfl
  · cases hu
end Go.Proofs.Ytelcegpaakbppaa.PAll
