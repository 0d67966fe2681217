/- Written by a program of this session: what one law needs. -/
import Derived.Test.YtedakilpogagiaaDialLinesn12
set_option linter.unusedSimpArgs false
set_option linter.unusedVariables false
section
namespace Go.Proofs.Ytedakilpogagiaa.PAll
open Go Go.RowKit Go.Proofs.YtedakilpogagiaaW.PrintWords Go.Proofs.Ytedakilpogagiaa.Sx
set_option maxRecDepth 100000
def dial_Line.f (k : Nat) (a0 : Int) (a1 : Int) : Option (Int × Int × Int) :=
  oif (decide (a0 < 10000000) = true) (
   some (0, 0, 3)) (
   oif (decide (a0 > 220000000) = true) (
    some (0, 0, 3)) (
    oif (decide (a1 < 6) = true) (
     some (0, 0, 1)) (
     oif (decide (a1 > 18) = true) (
      some (0, 0, 1)) (
      ob (trig_Sin.f k a0) fun t1 =>
      ob (trig_Sin.f k (IntKind.i64.wrap ((IntKind.i64.wrap (IntKind.i64.wrap (a1 - 12) * 1000000000)).tdiv 24))) fun t2 =>
      ob (trig_Cos.f k (IntKind.i64.wrap ((IntKind.i64.wrap (IntKind.i64.wrap (a1 - 12) * 1000000000)).tdiv 24))) fun t3 =>
      ob (sun_Unit.f k t1.fst t1.snd.fst t2.fst t2.snd.fst) fun t4 =>
      ob (trig_Arc.f k t4.fst t4.snd t3.fst t3.snd.fst) fun t5 =>
      oif ((t5.snd.snd != 0) = true) (
       some (0, 0, t5.snd.snd)) (
       oif (decide (t5.fst > 500000000) = true) (
        some (IntKind.i64.wrap (t5.fst - 1000000000), IntKind.i64.wrap (t5.snd.fst - 1000000000), 0)) (
        some (t5.fst, t5.snd.fst, 0)))))))
theorem dial_Line.mono : ∀ a0 a1 k, LeO (dial_Line.f k a0 a1) (dial_Line.f (k + 1) a0 a1) := by
  intro a0 a1 k
  unfold dial_Line.f
  try simp only [ob_eq, oif_eq]
  repeat' first
    | (with_reducible exact trig_Sin.mono _ _)
    | (with_reducible exact trig_Cos.mono _ _)
    | (with_reducible exact sun_Unit.mono _ _ _ _ _)
    | (with_reducible exact trig_Arc.mono _ _ _ _ _)
    | (with_reducible exact LeO.refl _)
    | (with_reducible exact LeO.none _)
    | (with_reducible refine LeO.ite ?_ ?_)
    | (with_reducible refine LeO.bind ?_ (fun _ => ?_))
def dial_Line.OQ {R : Type} (k : Nat) : OraQ R := fun g args K => match g with
  | 62 => (match args with | [.int .i64 a0] => (trig_Sin.f k a0).bind fun q => K (.tuple ⟨[.agg ⟨[.int .i64 q.1, .int .i64 q.2.1]⟩, .int .i64 q.2.2]⟩) | _ => none)
  | 63 => (match args with | [.int .i64 a0] => (trig_Cos.f k a0).bind fun q => K (.tuple ⟨[.agg ⟨[.int .i64 q.1, .int .i64 q.2.1]⟩, .int .i64 q.2.2]⟩) | _ => none)
  | 66 => (match args with | [.agg ⟨[.int .i64 a0_0, .int .i64 a0_1]⟩, .agg ⟨[.int .i64 a1_0, .int .i64 a1_1]⟩] => (sun_Unit.f k a0_0 a0_1 a1_0 a1_1).bind fun q => K (.agg ⟨[.int .i64 q.1, .int .i64 q.2]⟩) | _ => none)
  | 68 => (match args with | [.agg ⟨[.int .i64 a0_0, .int .i64 a0_1]⟩, .agg ⟨[.int .i64 a1_0, .int .i64 a1_1]⟩] => (trig_Arc.f k a0_0 a0_1 a1_0 a1_1).bind fun q => K (.tuple ⟨[.agg ⟨[.int .i64 q.1, .int .i64 q.2.1]⟩, .int .i64 q.2.2]⟩) | _ => none)
  | _ => none
theorem dial_Line.OQ_ok (k : Nat) (Φ : World → Prop) (base : Nat) {R : Type} : OraQOk Try.prog (fun _ => undef) Φ base (dial_Line.OQ (R := R) k) := by
  intro g args K r h
  unfold dial_Line.OQ at h
  split at h
  · split at h
    · obtain ⟨q, hq, h⟩ := Option.bind_eq_some_iff.mp h
      exact ⟨_, h, callQ_of rfl rfl fun w => (trig_Sin.calls k _ _ _ _ w hq).mono fun e w' he => ⟨he.1, he.2⟩⟩
    · cases h
  · split at h
    · obtain ⟨q, hq, h⟩ := Option.bind_eq_some_iff.mp h
      exact ⟨_, h, callQ_of rfl rfl fun w => (trig_Cos.calls k _ _ _ _ w hq).mono fun e w' he => ⟨he.1, he.2⟩⟩
    · cases h
  · split at h
    · obtain ⟨q, hq, h⟩ := Option.bind_eq_some_iff.mp h
      exact ⟨_, h, callQ_of rfl rfl fun w => (sun_Unit.calls k _ _ _ _ _ _ w hq).mono fun e w' he => ⟨he.1, he.2⟩⟩
    · cases h
  · split at h
    · obtain ⟨q, hq, h⟩ := Option.bind_eq_some_iff.mp h
      exact ⟨_, h, callQ_of rfl rfl fun w => (trig_Arc.calls k _ _ _ _ _ _ _ w hq).mono fun e w' he => ⟨he.1, he.2⟩⟩
    · cases h
  · cases h
def dial_Line.F (v : Value) (_ : Mem) : Option (Int × Int × Int) := match v with | .tuple ⟨[.agg ⟨[.int .i64 r1, .int .i64 r2]⟩, .int .i64 r3]⟩ => some (r1, r2, r3) | _ => none
theorem dial_Line.run (k : Nat) (a0 : Int) (a1 : Int) : runM Try.prog (liftQ (dial_Line.OQ k)) (drawQ Try.prog (dial_Line.OQ k)) (fun _ => none) (atEnd Try.prog Try.f38 dial_Line.F) 5000 [.code (Try.f38.body.getD .skip)] ([.int .i64 a0, .int .i64 a1] ++ List.replicate (Try.f38.ntmps - ([.int .i64 a0, .int .i64 a1] : List Value).length) undef) [] = dial_Line.f k a0 a1 := by kernel_rfl
theorem dial_Line.calls (k : Nat) (a0 : Int) (a1 : Int) (r1 : Int) (r2 : Int) (r3 : Int) (w : World) (h : dial_Line.f k a0 a1 = some (r1, r2, r3)) :
    Calls Try.prog 38 #[.int .i64 a0, .int .i64 a1] w fun e w' => e = .returned (.tuple #[.agg #[.int .i64 r1, .int .i64 r2], .int .i64 r3]) ∧ Below w.heap.size w w' := by
  refine calls_closed (OQ := dial_Line.OQ k) (LF := fun _ => none) (F := dial_Line.F) (r := (r1, r2, r3)) (Checked.mixed Try.checked) (fun Φ base _ => dial_Line.OQ_ok k Φ base) (LS := fun _ => True) (fun Φ base _ c _ live len f e => by cases e) Try.func38 rfl (fun _ _ => trivial) rfl (fun u m hu => ?_) rfl (((dial_Line.run k a0 a1).trans h)) w
  unfold dial_Line.F at hu
  split at hu
  · cases hu; rfl
  · cases hu
end Go.Proofs.Ytedakilpogagiaa.PAll
end
section
namespace Go.Proofs.Ytedakilpogagiaa.PAll
open Go.RowKit Go.Proofs.YtedakilpogagiaaW.PrintWords Go.Proofs.YtedakilpogagiaaW.PrintLast Go.Proofs.YtedakilpogagiaaW.PrintMore Go.Proofs.Ytedakilpogagiaa.More2 Go.Proofs.Ytedakilpogagiaa.Sq
attribute [local go_sem] max2_int min2_int max_two min_two max_three min_three max_four min_four tdiv2e18_ tdiv1e18_ cellSS_  -- for this text's walks alone
def ephemerislaw2_has.f (a0_0 : Int) (a0_1 : Int) (a1 : Int) (a2 : Int) : Option (Bool) := if a0_0 ≤ a1 then (if a1 ≤ a0_1 then (some (decide ((wrap64 (a0_1 - a0_0)) ≤ a2))) else (some false)) else (some false)
set_option maxHeartbeats 8000000 in
set_option maxRecDepth 100000 in
theorem ephemerislaw2_has.calls (a0_0 : Int) (a0_1 : Int) (a1 : Int) (a2 : Int) (r : Bool) (w : World) (h : ephemerislaw2_has.f a0_0 a0_1 a1 a2 = some r) :
  Calls Try.prog 60 #[.agg #[.int .i64 a0_0, .int .i64 a0_1], .int .i64 a1, .int .i64 a2] w fun e w' => e = .returned (.bool r) ∧ Below w.heap.size w w' := by
 have hu23 := Try.underlying23
 have HB := Aside0.mk (Below.refl w.heap.size w)
 have H : (if a0_0 ≤ a1 then (if a1 ≤ a0_1 then (some (decide ((wrap64 (a0_1 - a0_0)) ≤ a2))) else (some false)) else (some false)) = some r := h
 clear h
 by_cases c4 : a0_0 ≤ a1
 ·rw [if_pos c4] at H
  have c4b0 : decide (a0_0 ≤ a1) = true := decide_eq_true c4
  clear c4
  by_cases c5 : a1 ≤ a0_1
  ·rw [if_pos c5] at H
   have c5b0 : decide (a1 ≤ a0_1) = true := decide_eq_true c5
   clear c5
   obtain rfl := Option.some.inj H
   simp only [Option.some.injEq, Prod.mk.injEq] at H
   obtain ⟨rfl⟩ := H
   go_enter Try.func60, Try.ntmps60
   go_wp2_with (first | ((with_reducible refine gate_dst (N := 3) rfl ?_); refine box_event ?hg (N := 3) ?hd (cs := #[.int .i64 a0_0, .int .i64 a0_1]) (t := 23) ?hr ?_; (case hd => rfl); (case hg => rfl); (case hr => first | (go_simp; done) | (go_simp; rfl)); intro gb304 hg w6 hbox hb; have BK304 := Aside0.mk (hbox); have GW304 := ge_ hg HB; have GE304 := ge_ hg HB; replace HB := bs_ HB hb; clear hb hbox hg; have hcz7_0 : w6.cell? ⟨gb304, 0, none⟩ = some (.int .i64 a0_0) := (blk_cell BK304.out 0).trans rfl; have hcz7_1 : w6.cell? ⟨gb304, 1, none⟩ = some (.int .i64 a0_1) := (blk_cell BK304.out 1).trans rfl; have hfz7_0 := blk_frozen BK304.out 0; have hfz7_1 := blk_frozen BK304.out 1))
   go_ret
   exact ⟨by first | rfl | (simp [errW_none, errW_some] <;> rfl) | (simp [*, errW_none, errW_some] <;> rfl), (be_ HB).out⟩
  ·rw [if_neg c5] at H
   have c5b0 : decide (a1 ≤ a0_1) = false := decide_eq_false c5
   clear c5
   obtain rfl := Option.some.inj H
   simp only [Option.some.injEq, Prod.mk.injEq] at H
   obtain ⟨rfl⟩ := H
   go_enter Try.func60, Try.ntmps60
   go_wp2_with (first | ((with_reducible refine gate_dst (N := 3) rfl ?_); refine box_event ?hg (N := 3) ?hd (cs := #[.int .i64 a0_0, .int .i64 a0_1]) (t := 23) ?hr ?_; (case hd => rfl); (case hg => rfl); (case hr => first | (go_simp; done) | (go_simp; rfl)); intro gb304 hg w8 hbox hb; have BK304 := Aside0.mk (hbox); have GW304 := ge_ hg HB; have GE304 := ge_ hg HB; replace HB := bs_ HB hb; clear hb hbox hg; have hcz9_0 : w8.cell? ⟨gb304, 0, none⟩ = some (.int .i64 a0_0) := (blk_cell BK304.out 0).trans rfl; have hcz9_1 : w8.cell? ⟨gb304, 1, none⟩ = some (.int .i64 a0_1) := (blk_cell BK304.out 1).trans rfl; have hfz9_0 := blk_frozen BK304.out 0; have hfz9_1 := blk_frozen BK304.out 1))
   go_ret
   exact ⟨by first | rfl | (simp [errW_none, errW_some] <;> rfl) | (simp [*, errW_none, errW_some] <;> rfl), (be_ HB).out⟩
 ·rw [if_neg c4] at H
  have c4b0 : decide (a0_0 ≤ a1) = false := decide_eq_false c4
  clear c4
  obtain rfl := Option.some.inj H
  simp only [Option.some.injEq, Prod.mk.injEq] at H
  obtain ⟨rfl⟩ := H
  go_enter Try.func60, Try.ntmps60
  go_wp2_with (first | ((with_reducible refine gate_dst (N := 3) rfl ?_); refine box_event ?hg (N := 3) ?hd (cs := #[.int .i64 a0_0, .int .i64 a0_1]) (t := 23) ?hr ?_; (case hd => rfl); (case hg => rfl); (case hr => first | (go_simp; done) | (go_simp; rfl)); intro gb304 hg w10 hbox hb; have BK304 := Aside0.mk (hbox); have GW304 := ge_ hg HB; have GE304 := ge_ hg HB; replace HB := bs_ HB hb; clear hb hbox hg; have hcz11_0 : w10.cell? ⟨gb304, 0, none⟩ = some (.int .i64 a0_0) := (blk_cell BK304.out 0).trans rfl; have hcz11_1 : w10.cell? ⟨gb304, 1, none⟩ = some (.int .i64 a0_1) := (blk_cell BK304.out 1).trans rfl; have hfz11_0 := blk_frozen BK304.out 0; have hfz11_1 := blk_frozen BK304.out 1))
  go_ret
  exact ⟨by first | rfl | (simp [errW_none, errW_some] <;> rfl) | (simp [*, errW_none, errW_some] <;> rfl), (be_ HB).out⟩
end Go.Proofs.Ytedakilpogagiaa.PAll
end
section
namespace Go.Proofs.Ytedakilpogagiaa.PAll
open Go Go.RowKit Go.Proofs.YtedakilpogagiaaW.PrintWords Go.Proofs.Ytedakilpogagiaa.Sx
set_option maxRecDepth 100000
def ephemerislaw2_dialWorks.f (k : Nat)  : Option (Bool) :=
  ob (dial_Line.f k 125000000 15) fun t1 =>
  oif ((t1.snd.snd == 0) = true) (
   ob (ephemerislaw2_has.f t1.fst t1.snd.fst 97956638 50) fun t2 =>
   some (t2)) (
   some (false))
theorem ephemerislaw2_dialWorks.mono : ∀ k, LeO (ephemerislaw2_dialWorks.f k) (ephemerislaw2_dialWorks.f (k + 1)) := by
  intro  k
  unfold ephemerislaw2_dialWorks.f
  try simp only [ob_eq, oif_eq]
  repeat' first
    | (with_reducible exact dial_Line.mono _ _ _)
    | (with_reducible exact LeO.refl _)
    | (with_reducible exact LeO.none _)
    | (with_reducible refine LeO.ite ?_ ?_)
    | (with_reducible refine LeO.bind ?_ (fun _ => ?_))
def ephemerislaw2_dialWorks.OQ {R : Type} (k : Nat) : OraQ R := fun g args K => match g with
  | 38 => (match args with | [.int .i64 a0, .int .i64 a1] => (dial_Line.f k a0 a1).bind fun q => K (.tuple ⟨[.agg ⟨[.int .i64 q.1, .int .i64 q.2.1]⟩, .int .i64 q.2.2]⟩) | _ => none)
  | 60 => (match args with | [.agg ⟨[.int .i64 a0_0, .int .i64 a0_1]⟩, .int .i64 a1, .int .i64 a2] => (ephemerislaw2_has.f a0_0 a0_1 a1 a2).bind fun q => K (.bool q) | _ => none)
  | _ => none
theorem ephemerislaw2_dialWorks.OQ_ok (k : Nat) (Φ : World → Prop) (base : Nat) {R : Type} : OraQOk Try.prog (fun _ => undef) Φ base (ephemerislaw2_dialWorks.OQ (R := R) k) := by
  intro g args K r h
  unfold ephemerislaw2_dialWorks.OQ at h
  split at h
  · split at h
    · obtain ⟨q, hq, h⟩ := Option.bind_eq_some_iff.mp h
      exact ⟨_, h, callQ_of rfl rfl fun w => (dial_Line.calls k _ _ _ _ _ w hq).mono fun e w' he => ⟨he.1, he.2⟩⟩
    · cases h
  · split at h
    · obtain ⟨q, hq, h⟩ := Option.bind_eq_some_iff.mp h
      exact ⟨_, h, callQ_of rfl rfl fun w => (ephemerislaw2_has.calls _ _ _ _ _ w hq).mono fun e w' he => ⟨he.1, he.2⟩⟩
    · cases h
  · cases h
def ephemerislaw2_dialWorks.F (v : Value) (_ : Mem) : Option (Bool) := match v with | .bool r => some (r) | _ => none
theorem ephemerislaw2_dialWorks.run (k : Nat)  : runM Try.prog (liftQ (ephemerislaw2_dialWorks.OQ k)) (drawQ Try.prog (ephemerislaw2_dialWorks.OQ k)) (fun _ => none) (atEnd Try.prog Try.f37 ephemerislaw2_dialWorks.F) 5000 [.code (Try.f37.body.getD .skip)] ([] ++ List.replicate (Try.f37.ntmps - ([] : List Value).length) undef) [] = ephemerislaw2_dialWorks.f k  := by kernel_rfl
theorem ephemerislaw2_dialWorks.calls (k : Nat)  (r : Bool) (w : World) (h : ephemerislaw2_dialWorks.f k  = some (r)) (hT : r = true) :
    Calls Try.prog 37 #[] w fun e w' => e = .returned (.bool r) ∧ Below w.heap.size w w' := by
  refine calls_closed (OQ := ephemerislaw2_dialWorks.OQ k) (LF := fun _ => none) (F := ephemerislaw2_dialWorks.F) (r := (r)) (Checked.mixed Try.checked) (fun Φ base _ => ephemerislaw2_dialWorks.OQ_ok k Φ base) (LS := fun _ => True) (fun Φ base _ c _ live len f e => by cases e) Try.func37 rfl (fun _ _ => trivial) rfl (fun u m hu => ?_) rfl (((ephemerislaw2_dialWorks.run k ).trans h)) w
  unfold ephemerislaw2_dialWorks.F at hu
  split at hu
  · cases hu; rfl
  · cases hu
end Go.Proofs.Ytedakilpogagiaa.PAll
end
section
namespace Go.Proofs.Ytedakilpogagiaa.PAll
open Go.RowKit Go.Proofs.YtedakilpogagiaaW.PrintWords Go.Proofs.YtedakilpogagiaaW.PrintLast Go.Proofs.YtedakilpogagiaaW.PrintMore Go.Proofs.Ytedakilpogagiaa.More2 Go.Proofs.Ytedakilpogagiaa.Sq
attribute [local go_sem] max2_int min2_int max_two min_two max_three min_three max_four min_four tdiv2e18_ tdiv1e18_ cellSS_  -- for this text's walks alone
def dial_Lines.l0 : Nat → Int → List (S23) → Int → Option ((List (S23)) × Int)
 | 0, _, _, _ => none
 | k + 1, x0, x4, x5 => if x5 ≤ 18 then ((dial_Line.f k x0 x5).bind fun bt460 => (if bt460.2.2 = 0 then (if x4.length < 8796093022208 then (dial_Lines.l0 k x0 (x4 ++ [(⟨bt460.1, bt460.2.1⟩ : S23)]) (wrap64 (x5 + 1))) else (none)) else (some (([] : List (S23)), bt460.2.2)))) else (some (x4, 0))
def dial_Lines.f (k : Nat) (a0 : Int) : Option ((List (S23)) × Int) := dial_Lines.l0 k a0 ([] : List (S23)) 6
set_option maxHeartbeats 8000000 in
set_option maxRecDepth 100000 in
theorem dial_Lines.calls (k : Nat) (a0 : Int) (r1 : List (S23)) (r2 : Int) (w : World) (h : dial_Lines.f k a0 = some (r1, r2)) :
  Calls Try.prog 39 #[.int .i64 a0] w fun e w' => ∃ v0_ : Value, e = .returned (.tuple #[v0_, .int .i64 r2]) ∧ Kd.R k23 23 w' w.heap.size (fun _ => True) v0_ r1 ∧ Below w.heap.size w w' := by
 have hu23 := Try.underlying23
 have HB := Aside0.mk (Below.refl w.heap.size w)
 have H : (dial_Lines.l0 k a0 ([] : List (S23)) 6) = some (r1, r2) := h
 clear h
 have H' := Aside0.mk H
 clear H
 go_enter Try.func39, Try.ntmps39
 go_wp2
 go_loopg [4, 5] k (fun kq v4 v5 w' => ∃ (x4_1 : List (S23)) (x5_1 : Int), v5 = .int .i64 x5_1 ∧ Aside0 (dial_Lines.l0 kq a0 x4_1 x5_1 = some (r1, r2)) ∧ Aside0 (kq ≤ k) ∧ Aside0 (Kd.R k23 23 w' w.heap.size (fun _ => True) v4 x4_1) ∧ Aside0 (Below w.heap.size w w'))
 case atStart => exact ⟨(([] : List (S23))), (6), (by first | rfl | (simp; done) | (simp [*]; done)), H', ⟨Nat.le_refl _⟩, ⟨by first | exact Kd.R_nil _ _ _ _ _ | exact Kd.N_nil _ _ _ _ _ | exact Kd.V_nil _ _ _ _ _ | exact Kd.Q_nil _ _ _ _ _ | exact Kd.S_nil _ _ _ _ _⟩, (be_ HB)⟩
 case round =>
  clear H'
  obtain ⟨x4_1, x5_1, rfl, HA, HK1, HO_4, HB⟩ := hrel
  cases gk with
  | zero => exact absurd HA.out (by simp [dial_Lines.l0])
  | succ k1 =>
   have H := HA.out
   clear HA
   simp only [dial_Lines.l0] at H
   by_cases c2 : x5_1 ≤ 18
   ·rw [if_pos c2] at H
    have c2b0 : decide (x5_1 ≤ 18) = true := decide_eq_true c2
    clear c2
    replace H := Option.bind_eq_some_iff.mp H
    obtain ⟨⟨t460, t461, t462⟩, A30, H⟩ := H
    replace H : (if t462 = 0 then (if x4_1.length < 8796093022208 then (dial_Lines.l0 k1 a0 (x4_1 ++ [(⟨t460, t461⟩ : S23)]) (wrap64 (x5_1 + 1))) else (none)) else (some (([] : List (S23)), t462))) = some (r1, r2) := H
    have A3 := Aside0.mk A30
    clear A30
    by_cases c4 : t462 = 0
    ·rw [if_pos c4] at H
     have c4b0 : (t462 == 0) = true := beq_iff_eq.mpr c4
     have c4b1 : (t462 != 0) = false := bne_eq_false_iff_eq.mpr c4
     clear c4
     by_cases c5 : x4_1.length < 8796093022208
     ·rw [if_pos c5] at H
      have LMc5 := Aside0.mk c5
      clear c5
      obtain ⟨y464, hy464⟩ : ∃ y_ : List (S23), y_ = (x4_1 ++ [(⟨t460, t461⟩ : S23)]) := ⟨_, rfl⟩
      replace H : (dial_Lines.l0 k1 a0 y464 (wrap64 (x5_1 + 1))) = some (r1, r2) := by first | (rw [hy464]; with_reducible exact H) | (have H2_ := (Option.bind_some _ _).symm.trans H; rw [hy464]; with_reducible exact H2_) | (have H2_ := (Option.bind_some _ _).symm.trans H; with_reducible exact H2_) | with_reducible exact H | (rw [hy464]; exact H) | exact H
      have Ny464 := Aside0.mk hy464
      clear hy464
      have H' := Aside0.mk H
      clear H
      go_wp2_with (first | ((with_reducible refine gate_callee (f := 38) rfl ?_); refine goesL_ (some 15) rfl rfl Try.func38 (by kernel_rfl) rfl #[.int .i64 a0, .int .i64 x5_1] rfl (by (try simp only [List.map_toArray, List.map_cons, List.map_nil]); first | done | rfl | (simp only [List.length_drop, List.length_take]; rfl)) ?_; (with_reducible refine (dial_Line.calls k1 a0 x5_1 t460 t461 t462 _ A3.out).mono ?_); rintro e w6 ⟨rfl, hb⟩; refine ⟨_, rfl, ?_⟩; have n0_ := Aside0.mk (Kd.R_below (by (with_reducible repeat (first | apply Kd.R_alloc | apply Kd.R_drewN | apply Kd.R_drew)); exact HO_4.out) hb); have n1_ := bs_ HB hb; clear HO_4; clear HB; have HO_4 := n0_; have HB := n1_; clear n0_ n1_; (try clear hb); (try clear hb2); (try clear hk); (try clear hi)) | ((with_reducible refine gate_dst (N := 6) rfl ?_); refine box_event ?hg (N := 6) ?hd (cs := #[.int .i64 0, .int .i64 0]) (t := 23) ?hr ?_; (case hd => rfl); (case hg => rfl); (case hr => first | (go_simp; done) | (go_simp; rfl)); intro gb463 hg w7 hbox hb; have n0_ := Aside0.mk (Kd.R_below (Kd.R_elderB (by (with_reducible repeat (first | apply Kd.R_alloc | apply Kd.R_drewN | apply Kd.R_drew)); exact HO_4.out) gb463 (Nat.le_of_eq hg.symm)) hb); have n1_ := bs_ HB hb; have n2_ := Aside0.mk (hbox); have n3_ := ge_ hg HB; have n4_ := ge_ hg HB; clear HO_4; clear HB; have HO_4 := n0_; have HB := n1_; have BK463 := n2_; have GW463 := n3_; have GE463 := n4_; clear n0_ n1_ n2_ n3_ n4_; clear hb hbox hg; have hcz8_0 : w7.cell? ⟨gb463, 0, none⟩ = some (.int .i64 0) := (blk_cell BK463.out 0).trans rfl; have hcz8_1 : w7.cell? ⟨gb463, 1, none⟩ = some (.int .i64 0) := (blk_cell BK463.out 1).trans rfl; have hfz8_0 := blk_frozen BK463.out 0; have hfz8_1 := blk_frozen BK463.out 1) | ((with_reducible refine gate_builtin (b := .append) (xs := #[.tmp 21, .tmp 23]) rfl ?_); at_builtin; refine Kd.R_append k23 (w0 := w) w.heap.size rfl (.tmp 21) (.tmp 23) 54 23 (.agg #[(.int .i64 0), (.int .i64 0)]) 16 rfl Try.underlying54 info23 rfl (by decide) (by omega) u4 x4_1 (⟨t460, t461⟩ : S23) [.int .i64 t460, .int .i64 t461] (fun k_ => k_ ≠ gb463) (fun _ => False) rfl (by first | (go_simp; done) | (go_simp; rfl)) ?aP (fun _ hk => hk.elim) ?aF ?aO ?aB ?aS ?aL ?_; (case aP => exact k23_mkM _ _ _ (⟨t460, t461⟩ : S23)); (case aB => exact (be_ HB).out); (case aF => exact (fun k_ hk => Kd.freshB (g := gb463) (o := .cells #[.int .i64 t460, .int .i64 t461] 23 (0, 0)) (by (with_reducible repeat (first | refine blk_drewN ?_ _ | refine blk_drew ?_ | refine blk_alloc ?_ _)); refine blk_put (cs := #[.int .i64 t460, .int .i64 0]) ?_ 1 _ rfl; (with_reducible repeat (first | refine blk_drewN ?_ _ | refine blk_drew ?_ | refine blk_alloc ?_ _)); refine blk_put (cs := #[.int .i64 0, .int .i64 0]) ?_ 0 _ rfl; (with_reducible repeat (first | refine blk_drewN ?_ _ | refine blk_drew ?_ | refine blk_alloc ?_ _)); exact BK463.out) k_ hk)); (case aO => exact (by (with_reducible repeat (first | apply Kd.R_alloc | apply Kd.R_drewN | apply Kd.R_drew)); exact Kd.R_mono (Kd.R_far (p := ⟨gb463, 1, none⟩) (Kd.R_far (p := ⟨gb463, 0, none⟩) (Kd.R_mono HO_4.out (fun k_ hk => (⟨hk, hk.2⟩ : _ ∧ k_ ≠ gb463))) (fun _ hk => hk.2) (.int .i64 t460)) (fun _ hk => hk.2) (.int .i64 t461)) (fun _ hk => hk.1.2))); (case aS => exact (below_size (be_ HB).out)); (case aL => have := LMc5.out; omega); intro v465 w9 ho hb hg hat; rw [← Ny464.out] at ho; have n0_ := Aside0.mk (blk_grown (g := gb463) (o := .cells #[.int .i64 t460, .int .i64 t461] 23 (0, 0)) (by (with_reducible repeat (first | refine blk_drewN ?_ _ | refine blk_drew ?_ | refine blk_alloc ?_ _)); refine blk_put (cs := #[.int .i64 t460, .int .i64 0]) ?_ 1 _ rfl; (with_reducible repeat (first | refine blk_drewN ?_ _ | refine blk_drew ?_ | refine blk_alloc ?_ _)); refine blk_put (cs := #[.int .i64 0, .int .i64 0]) ?_ 0 _ rfl; (with_reducible repeat (first | refine blk_drewN ?_ _ | refine blk_drew ?_ | refine blk_alloc ?_ _)); exact BK463.out) hg (Kd.R_away HO_4.out (fun _ hk => hk.2))); have n1_ := Aside0.mk (hb); have n2_ := Aside0.mk (ho); clear BK463; clear HB; clear HO_4; have BK463 := n0_; have HB := n1_; have HO466 := n2_; clear n0_ n1_ n2_; clear ho hb hg hat))
      go_roundg k1
      case measure => have := HK1.out; omega
      case rel => exact ⟨(y464), (wrap64 (x5_1 + 1)), (by first | rfl | (simp; done) | (simp [*]; done)), H', ⟨by have := HK1.out; omega⟩, ⟨by (with_reducible repeat (first | apply Kd.R_alloc | apply Kd.R_drewN | apply Kd.R_drew)); exact Kd.R_mono HO466.out (fun _ hk => trivial)⟩, (be_ HB)⟩
     ·rw [if_neg c5] at H
      exact absurd H (by simp)
    ·rw [if_neg c4] at H
     have c4b0 : (t462 == 0) = false := beq_eq_false_iff_ne.mpr c4
     have c4b1 : (t462 != 0) = true := bne_iff_ne.mpr c4
     simp only [Option.some.injEq, Prod.mk.injEq] at H
     obtain ⟨rfl, rfl⟩ := H
     go_wp2_with (first | ((with_reducible refine gate_callee (f := 38) rfl ?_); refine goesL_ (some 15) rfl rfl Try.func38 (by kernel_rfl) rfl #[.int .i64 a0, .int .i64 x5_1] rfl (by (try simp only [List.map_toArray, List.map_cons, List.map_nil]); first | done | rfl | (simp only [List.length_drop, List.length_take]; rfl)) ?_; (with_reducible refine (dial_Line.calls k1 a0 x5_1 t460 t461 t462 _ A3.out).mono ?_); rintro e w10 ⟨rfl, hb⟩; refine ⟨_, rfl, ?_⟩; have n0_ := Aside0.mk (Kd.R_below (by (with_reducible repeat (first | apply Kd.R_alloc | apply Kd.R_drewN | apply Kd.R_drew)); exact HO_4.out) hb); have n1_ := bs_ HB hb; clear HO_4; clear HB; have HO_4 := n0_; have HB := n1_; clear n0_ n1_; (try clear hb); (try clear hb2); (try clear hk); (try clear hi)) | ((with_reducible refine gate_dst (N := 6) rfl ?_); refine box_event ?hg (N := 6) ?hd (cs := #[.int .i64 0, .int .i64 0]) (t := 23) ?hr ?_; (case hd => rfl); (case hg => rfl); (case hr => first | (go_simp; done) | (go_simp; rfl)); intro gb463 hg w11 hbox hb; have n0_ := Aside0.mk (Kd.R_below (Kd.R_elderB (by (with_reducible repeat (first | apply Kd.R_alloc | apply Kd.R_drewN | apply Kd.R_drew)); exact HO_4.out) gb463 (Nat.le_of_eq hg.symm)) hb); have n1_ := bs_ HB hb; have n2_ := Aside0.mk (hbox); have n3_ := ge_ hg HB; have n4_ := ge_ hg HB; clear HO_4; clear HB; have HO_4 := n0_; have HB := n1_; have BK463 := n2_; have GW463 := n3_; have GE463 := n4_; clear n0_ n1_ n2_ n3_ n4_; clear hb hbox hg; have hcz12_0 : w11.cell? ⟨gb463, 0, none⟩ = some (.int .i64 0) := (blk_cell BK463.out 0).trans rfl; have hcz12_1 : w11.cell? ⟨gb463, 1, none⟩ = some (.int .i64 0) := (blk_cell BK463.out 1).trans rfl; have hfz12_0 := blk_frozen BK463.out 0; have hfz12_1 := blk_frozen BK463.out 1))
     go_ret2
     exact ⟨_, by first | rfl | (simp [errW_none, errW_some] <;> rfl) | (simp [*, errW_none, errW_some] <;> rfl), by first | exact Kd.R_nil _ _ _ _ _ | exact Kd.N_nil _ _ _ _ _ | exact Kd.V_nil _ _ _ _ _ | exact Kd.Q_nil _ _ _ _ _ | exact Kd.S_nil _ _ _ _ _, (be_ HB).out⟩
   ·rw [if_neg c2] at H
    have c2b0 : decide (x5_1 ≤ 18) = false := decide_eq_false c2
    clear c2
    simp only [Option.some.injEq, Prod.mk.injEq] at H
    obtain ⟨rfl, rfl⟩ := H
    go_wp2
    go_ret2
    exact ⟨_, by first | rfl | (simp [errW_none, errW_some] <;> rfl) | (simp [*, errW_none, errW_some] <;> rfl), by (with_reducible repeat (first | apply Kd.R_alloc | apply Kd.R_drewN | apply Kd.R_drew)); exact HO_4.out, (be_ HB).out⟩
end Go.Proofs.Ytedakilpogagiaa.PAll
end
section
namespace Go.Proofs.Ytedakilpogagiaa.PAll
open Go.RowKit Go.Proofs.YtedakilpogagiaaW.PrintWords Go.Proofs.YtedakilpogagiaaW.PrintLast Go.Proofs.YtedakilpogagiaaW.PrintMore Go.Proofs.Ytedakilpogagiaa.More2 Go.Proofs.Ytedakilpogagiaa.Sq
attribute [local go_sem] max2_int min2_int max_two min_two max_three min_three max_four min_four tdiv2e18_ tdiv1e18_ cellSS_  -- for this text's walks alone
def ephemerislaw2_beyond.f (a0 : Int) (a1 : Int) : Option (Bool) := if a0 < (wrap64 (-a1)) then (some true) else (some (decide (a0 > a1)))
set_option maxHeartbeats 8000000 in
set_option maxRecDepth 100000 in
theorem ephemerislaw2_beyond.calls (a0 : Int) (a1 : Int) (r : Bool) (w : World) (h : ephemerislaw2_beyond.f a0 a1 = some r) :
  Calls Try.prog 41 #[.int .i64 a0, .int .i64 a1] w fun e w' => e = .returned (.bool r) ∧ Drawn0 w w' := by
 have H : (if a0 < (wrap64 (-a1)) then (some true) else (some (decide (a0 > a1)))) = some r := h
 clear h
 by_cases c3 : a0 < (wrap64 (-a1))
 ·rw [if_pos c3] at H
  have c3b0 : decide (a0 < (wrap64 (-a1))) = true := decide_eq_true c3
  clear c3
  obtain rfl := Option.some.inj H
  simp only [Option.some.injEq, Prod.mk.injEq] at H
  obtain ⟨rfl⟩ := H
  go_enter Try.func41, Try.ntmps41
  go_wp2
  go_ret
  exact ⟨by first | rfl | (simp; done) | (simp [*]; done), by repeat (first | exact Drawn0.refl _ | apply Drawn0.step)⟩
 ·rw [if_neg c3] at H
  have c3b0 : decide (a0 < (wrap64 (-a1))) = false := decide_eq_false c3
  clear c3
  obtain rfl := Option.some.inj H
  simp only [Option.some.injEq, Prod.mk.injEq] at H
  obtain ⟨rfl⟩ := H
  go_enter Try.func41, Try.ntmps41
  go_wp2
  go_ret
  exact ⟨by first | rfl | (simp; done) | (simp [*]; done), by repeat (first | exact Drawn0.refl _ | apply Drawn0.step)⟩
end Go.Proofs.Ytedakilpogagiaa.PAll
end
