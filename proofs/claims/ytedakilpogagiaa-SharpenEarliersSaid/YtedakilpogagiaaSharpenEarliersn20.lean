/- Written by a program of this session: what one law needs. -/
import Derived.Test.YtedakilpogagiaaSharpenEarliersn18
import Derived.Test.YtedakilpogagiaaSharpenEarliersn19
set_option maxHeartbeats 8000000
set_option maxRecDepth 100000
set_option linter.unusedSimpArgs false
set_option linter.unusedVariables false
section
namespace Go.Proofs.Ytedakilpogagiaa.PAll
open Go Go.RowKit YtedakilpogagiaaW.PrintWords Sx Go.Proofs.Ytedakilpogagiaa
def sharpen_Season.f (k : Nat) (a0 : Int) (a1 : Int) (a2 : Int) : Option (Int × Int × Int) :=
  ob (season_Find.f k a0 a1) fun t1 =>
  oif ((t1.snd.snd != 0) = true) (
   some (0, 0, t1.snd.snd)) (
   oif (decide (a2 < 1) = true) (
    some (0, 0, 1)) (
    ob (Nar120.f (fun p2 =>
       ob (sun_Longitude.f k p2) fun t3 =>
       ob (series_After.f k t3.fst t3.snd.fst (IntKind.i64.wrap (a0 * 250000000))) fun t4 =>
       some (t4)) k t1.fst t1.snd.fst a2) fun t3 =>
    some (t3.fst, t3.snd.fst, t3.snd.snd)))
theorem sharpen_Season.mono : ∀ a0 a1 a2 k, LeO (sharpen_Season.f k a0 a1 a2) (sharpen_Season.f (k + 1) a0 a1 a2) := by
  intro a0 a1 a2 k
  unfold sharpen_Season.f
  try simp only [ob_eq, oif_eq]
  repeat' first
    | (with_reducible refine Nar120.mono (fun _ => ?_) _ _ _ _)
    | (with_reducible exact season_Find.mono _ _ _)
    | (with_reducible exact sun_Longitude.mono _ _)
    | (with_reducible exact series_After.mono _ _ _ _)
    | (with_reducible exact LeO.refl _)
    | (with_reducible exact LeO.none _)
    | (with_reducible refine LeO.ite ?_ ?_)
    | (with_reducible refine LeO.bind ?_ (fun _ => ?_))
def sharpen_Season.OQ {R : Type} (k : Nat) : OraQ R := fun g args K => match g with
  | 56 => (match args with | [.int .i64 a0, .int .i64 a1] => (season_Find.f k a0 a1).bind fun q => K (.tuple ⟨[.agg ⟨[.int .i64 q.1, .int .i64 q.2.1]⟩, .int .i64 q.2.2]⟩) | _ => none)
  | 59 => (match args with | [.int .i64 a0] => (sun_Longitude.f k a0).bind fun q => K (.tuple ⟨[.agg ⟨[.int .i64 q.1, .int .i64 q.2.1]⟩, .int .i64 q.2.2]⟩) | _ => none)
  | 119 => (match args with | [.agg ⟨[.int .i64 a0_0, .int .i64 a0_1]⟩, .int .i64 a1] => (series_After.f k a0_0 a0_1 a1).bind fun q => K (.int .i64 q) | _ => none)
  | _ => none
theorem sharpen_Season.OQ_ok (k : Nat) (Φ : World → Prop) (base : Nat) {R : Type} : OraQOk Try.prog (fun _ => undef) Φ base (sharpen_Season.OQ (R := R) k) := by
  intro g args K r h
  unfold sharpen_Season.OQ at h
  split at h
  · split at h
    · obtain ⟨q, hq, h⟩ := Option.bind_eq_some_iff.mp h
      exact ⟨_, h, callQ_of rfl rfl fun w => (season_Find.calls k _ _ _ _ _ w hq).mono fun e w' he => ⟨he.1, he.2⟩⟩
    · cases h
  · split at h
    · obtain ⟨q, hq, h⟩ := Option.bind_eq_some_iff.mp h
      exact ⟨_, h, callQ_of rfl rfl fun w => (sun_Longitude.calls k _ _ _ _ w hq).mono fun e w' he => ⟨he.1, he.2⟩⟩
    · cases h
  · split at h
    · obtain ⟨q, hq, h⟩ := Option.bind_eq_some_iff.mp h
      exact ⟨_, h, callQ_of rfl rfl fun w => (series_After.calls k _ _ _ _ w hq).mono fun e w' he => ⟨he.1, he.2⟩⟩
    · cases h
  · cases h
def sharpen_Season.F (v : Value) (_ : Mem) : Option (Int × Int × Int) := match v with | .tuple ⟨[.agg ⟨[.int .i64 r1, .int .i64 r2]⟩, .int .i64 r3]⟩ => some (r1, r2, r3) | _ => none
theorem sharpen_Season.run (k : Nat) (a0 : Int) (a1 : Int) (a2 : Int) : runM Try.prog (narO Try.prog 88 120 1 Try.f120 (Try.f120.body.getD .skip) 3000 (sharpen_Season.OQ k) (fun s a b wd => Nar120.f s k a b wd) (liftQ (sharpen_Season.OQ k))) (drawO Try.prog (sharpen_Season.OQ k) (narO Try.prog 88 120 1 Try.f120 (Try.f120.body.getD .skip) 3000 (sharpen_Season.OQ k) (fun s a b wd => Nar120.f s k a b wd) (liftQ (sharpen_Season.OQ k)))) (fun _ => none) (atEnd Try.prog Try.f94 sharpen_Season.F) 5000 [.code (Try.f94.body.getD .skip)] ([.int .i64 a0, .int .i64 a1, .int .i64 a2] ++ List.replicate (Try.f94.ntmps - ([.int .i64 a0, .int .i64 a1, .int .i64 a2] : List Value).length) undef) [] = sharpen_Season.f k a0 a1 a2 := by kernel_rfl
theorem sharpen_Season.calls (k : Nat) (a0 : Int) (a1 : Int) (a2 : Int) (r1 : Int) (r2 : Int) (r3 : Int) (w : World) (h : sharpen_Season.f k a0 a1 a2 = some (r1, r2, r3)) :
    Calls Try.prog 94 #[.int .i64 a0, .int .i64 a1, .int .i64 a2] w fun e w' => e = .returned (.tuple #[.agg #[.int .i64 r1, .int .i64 r2], .int .i64 r3]) ∧ Below w.heap.size w w' := by
  have hod : ∀ Φ base, Stable Φ base → OraOk Try.prog (fun _ => undef) Φ base (narO Try.prog 88 120 1 Try.f120 (Try.f120.body.getD .skip) 3000 (sharpen_Season.OQ k) (fun s a b wd => Nar120.f s k a b wd) (liftQ (sharpen_Season.OQ (R := Int × Int × Int) k))) ∧ DraOk Try.prog (fun _ => undef) Φ base (drawO Try.prog (sharpen_Season.OQ (R := Int × Int × Int) k) (narO Try.prog 88 120 1 Try.f120 (Try.f120.body.getD .skip) 3000 (sharpen_Season.OQ k) (fun s a b wd => Nar120.f s k a b wd) (liftQ (sharpen_Season.OQ (R := Int × Int × Int) k)))) := fun Φ base hs => by
    have ho : OraOk Try.prog (fun _ => undef) Φ base (narO Try.prog 88 120 1 Try.f120 (Try.f120.body.getD .skip) 3000 (sharpen_Season.OQ k) (fun s a b wd => Nar120.f s k a b wd) (liftQ (sharpen_Season.OQ (R := Int × Int × Int) k))) := (narO_ok (Ψ := fun _ => True) (fun _ _ _ _ => trivial) (fun _ _ => trivial) (Checked.mixed Try.checked) hs (fun Φ base _ _ => sharpen_Season.OQ_ok k Φ base) ((sharpen_Season.OQ_ok k Φ base).lift hs) Try.func120 rfl (fun {s a b wd x y z caps w} hl hc hf => by
      obtain ⟨c0, rfl⟩ := List.length_eq_one_iff.1 hl
      exact Nar120.calls hc hf))
    exact ⟨ho, drawO_ok (Checked.mixed Try.checked) hs (sharpen_Season.OQ_ok k Φ base) ho⟩
  refine calls_closedO (LF := fun _ => none) (F := sharpen_Season.F) (r := (r1, r2, r3)) hod (LS := fun _ => True) (fun Φ base _ c _ live len f e => by cases e) Try.func94 rfl (fun _ _ => trivial) rfl (fun u m hu => ?_) rfl (((sharpen_Season.run k a0 a1 a2).trans h)) w
  unfold sharpen_Season.F at hu
  split at hu
  · cases hu; rfl
  · cases hu
end Go.Proofs.Ytedakilpogagiaa.PAll
end
section
namespace Go.Proofs.Ytedakilpogagiaa.PAll
open Go.RowKit YtedakilpogagiaaW.PrintWords YtedakilpogagiaaW.PrintLast YtedakilpogagiaaW.PrintMore More2
attribute [local go_sem] max2_int min2_int max_two min_two max_three min_three max_four min_four tdiv2e18_ tdiv1e18_ cellSS_  -- for this text's walks alone
def ephemerislaw2_sharpenWorks.f (k : Nat)  : Option (Bool) := (sharpen_Season.f k 0 2000 500000).bind fun bt340 => ((sharpen_Earlier.f k 1 2 3 4).bind fun bt344 => (if bt340.2.2 = 0 then ((ephemerislaw2_has.f bt340.1 bt340.2.1 63089219834394 500000).bind fun t346 => (if t346 = true then (if bt344.2 = 0 then (some (bt344.1 == (-1))) else (some false)) else (some false))) else (some false)))
theorem ephemerislaw2_sharpenWorks.mono : ∀ k, LeO (ephemerislaw2_sharpenWorks.f k ) (ephemerislaw2_sharpenWorks.f (k + 1) ) := by
  intro  k
  unfold ephemerislaw2_sharpenWorks.f
  repeat' first
      | (with_reducible exact sharpen_Earlier.mono _ _ _ _ _)
      | (with_reducible exact sharpen_Season.mono _ _ _ _)
      | (with_reducible exact LeO.refl _)
      | (with_reducible exact LeO.none _)
      | (with_reducible refine LeO.ite ?_ ?_)
      | (with_reducible refine LeO.bind ?_ (fun _ => ?_))
      | exact sharpen_Earlier.mono _ _ _ _ _
      | exact sharpen_Season.mono _ _ _ _
      | exact LeO.none _
      | refine LeO.ite ?_ ?_
      | refine LeO.bind ?_ (fun _ => ?_)
theorem ephemerislaw2_sharpenWorks.calls (k : Nat)  (r : Bool) (w : World) (h : ephemerislaw2_sharpenWorks.f k  = some r) (hT : r = true) :
    Calls Try.prog 53 #[] w fun e w' => e = .returned (.bool r) ∧ Below w.heap.size w w' := by
  have hu23 := Try.underlying23
  have HB := Aside0.mk (Below.refl w.heap.size w)
  have H : ((sharpen_Season.f k 0 2000 500000).bind fun bt340 => ((sharpen_Earlier.f k 1 2 3 4).bind fun bt344 => (if bt340.2.2 = 0 then ((ephemerislaw2_has.f bt340.1 bt340.2.1 63089219834394 500000).bind fun t346 => (if t346 = true then (if bt344.2 = 0 then (some (bt344.1 == (-1))) else (some false)) else (some false))) else (some false)))) = some r := h
  clear h
  replace H := Option.bind_eq_some_iff.mp H
  obtain ⟨⟨t340, t341, t342⟩, A10, H⟩ := H
  replace H : ((sharpen_Earlier.f k 1 2 3 4).bind fun bt344 => (if t342 = 0 then ((ephemerislaw2_has.f t340 t341 63089219834394 500000).bind fun t346 => (if t346 = true then (if bt344.2 = 0 then (some (bt344.1 == (-1))) else (some false)) else (some false))) else (some false))) = some r := H
  have A1 := Aside0.mk A10
  clear A10
  replace H := Option.bind_eq_some_iff.mp H
  obtain ⟨⟨t344, t345⟩, A20, H⟩ := H
  replace H : (if t342 = 0 then ((ephemerislaw2_has.f t340 t341 63089219834394 500000).bind fun t346 => (if t346 = true then (if t345 = 0 then (some (t344 == (-1))) else (some false)) else (some false))) else (some false)) = some r := H
  have A2 := Aside0.mk A20
  clear A20
  by_cases c3 : t342 = 0
  · rw [if_pos c3] at H
    have c3b0 : (t342 == 0) = true := beq_iff_eq.mpr c3
    have c3b1 : (t342 != 0) = false := bne_eq_false_iff_eq.mpr c3
    clear c3
    replace H := Option.bind_eq_some_iff.mp H
    obtain ⟨t346, A40, H⟩ := H
    replace H : (if t346 = true then (if t345 = 0 then (some (t344 == (-1))) else (some false)) else (some false)) = some r := H
    have A4 := Aside0.mk A40
    clear A40
    by_cases c5 : t346 = true
    · subst c5
      have H1 : (if t345 = 0 then (some (t344 == (-1))) else (some false)) = some r := by rw [if_pos rfl] at H; exact H
      clear H
      have H := H1
      clear H1
      by_cases c6 : t345 = 0
      · rw [if_pos c6] at H
        have c6b0 : (t345 == 0) = true := beq_iff_eq.mpr c6
        have c6b1 : (t345 != 0) = false := bne_eq_false_iff_eq.mpr c6
        clear c6
        obtain rfl := Option.some.inj H
        simp only [Option.some.injEq, Prod.mk.injEq] at H
        obtain ⟨rfl⟩ := H
        go_enter Try.func53, Try.ntmps53
        go_wp2_with (first | ((with_reducible refine gate_callee (f := 94) rfl ?_); refine goesL_ (some 6) rfl rfl Try.func94 (by kernel_rfl) rfl #[.int .i64 0, .int .i64 2000, .int .i64 500000] rfl (by (try simp only [List.map_toArray, List.map_cons, List.map_nil]); first | done | rfl | (simp only [List.length_drop, List.length_take]; rfl)) ?_; (with_reducible refine (sharpen_Season.calls k 0 2000 500000 t340 t341 t342 _ A1.out).mono ?_); rintro e w7 ⟨rfl, hb⟩; refine ⟨_, rfl, ?_⟩; have n0_ := Aside0.mk (below_step (by repeat (first | (with_reducible first | exact HB.out | apply below_alloc | apply pw_below_drewN | apply below_drew1) | exact HB.out)) hb); clear HB; have HB := n0_; clear n0_; (try clear hb); (try clear hb2); (try clear hk); (try clear hi)) | ((with_reducible refine gate_dst (N := 1) rfl ?_); refine box_event ?hg (N := 1) ?hd (cs := #[.int .i64 0, .int .i64 0]) (t := 23) ?hr ?_; (case hd => rfl); (case hg => rfl); (case hr => first | (go_simp; done) | (go_simp; rfl)); intro gb343 hg w8 hbox hb; have n0_ := Aside0.mk (below_step (by repeat (first | (with_reducible first | exact HB.out | apply below_alloc | apply pw_below_drewN | apply below_drew1) | exact HB.out)) hb); have n1_ := Aside0.mk (hbox); have n2_ := Aside0.mk ((by rw [hg]; exact (below_size (by repeat (first | (with_reducible first | exact HB.out | apply below_alloc | apply pw_below_drewN | apply below_drew1) | exact HB.out))) : w.heap.size ≤ gb343)); have n3_ := Aside0.mk ((by rw [hg]; exact (below_size (by repeat (first | (with_reducible first | exact HB.out | apply below_alloc | apply pw_below_drewN | apply below_drew1) | exact HB.out))) : w.heap.size ≤ gb343)); clear HB; have HB := n0_; have BK343 := n1_; have GW343 := n2_; have GE343 := n3_; clear n0_ n1_ n2_ n3_; clear hb hbox hg; have hcz9_0 : w8.cell? ⟨gb343, 0, none⟩ = some (.int .i64 0) := (blk_cell BK343.out 0).trans rfl; have hcz9_1 : w8.cell? ⟨gb343, 1, none⟩ = some (.int .i64 0) := (blk_cell BK343.out 1).trans rfl; have hfz9_0 := blk_frozen BK343.out 0; have hfz9_1 := blk_frozen BK343.out 1) | ((with_reducible refine gate_callee (f := 54) rfl ?_); refine goesL_ (some 12) rfl rfl Try.func54 (by kernel_rfl) rfl #[.agg #[.int .i64 1, .int .i64 2], .agg #[.int .i64 3, .int .i64 4]] rfl (by (try simp only [List.map_toArray, List.map_cons, List.map_nil]); first | done | rfl | (simp only [List.length_drop, List.length_take]; rfl)) ?_; (with_reducible refine (sharpen_Earlier.calls k 1 2 3 4 t344 t345 _ A2.out).mono ?_); rintro e w10 ⟨rfl, hb⟩; refine ⟨_, rfl, ?_⟩; have n0_ := Aside0.mk (blk_below (g := gb343) (o := .cells #[.int .i64 t340, .int .i64 t341] 23 (0, 0)) (by (with_reducible repeat (first | refine blk_drewN ?_ _ | refine blk_drew ?_ | refine blk_alloc ?_ _)); refine blk_put (cs := #[.int .i64 t340, .int .i64 0]) ?_ 1 _ rfl; (with_reducible repeat (first | refine blk_drewN ?_ _ | refine blk_drew ?_ | refine blk_alloc ?_ _)); refine blk_put (cs := #[.int .i64 0, .int .i64 0]) ?_ 0 _ rfl; (with_reducible repeat (first | refine blk_drewN ?_ _ | refine blk_drew ?_ | refine blk_alloc ?_ _)); exact BK343.out) hb); have n1_ := Aside0.mk (below_step (by repeat (first | (with_reducible first | exact HB.out | apply below_alloc | apply pw_below_drewN | apply below_drew1 | refine below_set ?_ GE343.out) | exact HB.out)) hb); clear BK343; clear HB; have BK343 := n0_; have HB := n1_; clear n0_ n1_; (try clear hb); (try clear hb2); (try clear hk); (try clear hi); have hcz11_0 : w10.cell? ⟨gb343, 0, none⟩ = some (.int .i64 t340) := (blk_cell BK343.out 0).trans rfl; have hcz11_1 : w10.cell? ⟨gb343, 1, none⟩ = some (.int .i64 t341) := (blk_cell BK343.out 1).trans rfl; have hfz11_0 := blk_frozen BK343.out 0; have hfz11_1 := blk_frozen BK343.out 1) | (go_at_call 60; (with_reducible refine (ephemerislaw2_has.calls t340 t341 63089219834394 500000 true _ A4.out).mono ?_); rintro e w12 ⟨rfl, hb⟩; have n0_ := Aside0.mk (blk_below (g := gb343) (o := .cells #[.int .i64 t340, .int .i64 t341] 23 (0, 0)) (by (with_reducible repeat (first | refine blk_drewN ?_ _ | refine blk_drew ?_ | refine blk_alloc ?_ _)); exact BK343.out) hb); have n1_ := Aside0.mk (below_step (by repeat (first | (with_reducible first | exact HB.out | apply below_alloc | apply pw_below_drewN | apply below_drew1 | refine below_set ?_ GE343.out) | exact HB.out)) hb); clear BK343; clear HB; have BK343 := n0_; have HB := n1_; clear n0_ n1_; (try clear hb); (try clear hb2); (try clear hk); (try clear hi)))
        go_ret
        exact ⟨by first | rfl | (simp [errW_none, errW_some] <;> rfl) | (simp [*, errW_none, errW_some] <;> rfl), by repeat (first | (with_reducible first | exact HB.out | apply below_alloc | apply pw_below_drewN | apply below_drew1 | refine below_set ?_ GE343.out) | exact HB.out)⟩
      · rw [if_neg c6] at H
        have c6b0 : (t345 == 0) = false := beq_eq_false_iff_ne.mpr c6
        have c6b1 : (t345 != 0) = true := bne_iff_ne.mpr c6
        obtain rfl := Option.some.inj H
        exact absurd hT (by decide)
    · replace c5 := Bool.eq_false_iff.mpr c5
      subst c5
      have H1 : (some false) = some r := by rw [if_neg (show ¬ (false = true) by decide)] at H; exact H
      clear H
      have H := H1
      clear H1
      obtain rfl := Option.some.inj H
      exact absurd hT (by decide)
  · rw [if_neg c3] at H
    have c3b0 : (t342 == 0) = false := beq_eq_false_iff_ne.mpr c3
    have c3b1 : (t342 != 0) = true := bne_iff_ne.mpr c3
    obtain rfl := Option.some.inj H
    exact absurd hT (by decide)
end Go.Proofs.Ytedakilpogagiaa.PAll
end
section
namespace Go.Proofs.Ytedakilpogagiaa.PAll
open Go.RowKit YtedakilpogagiaaW.PrintWords YtedakilpogagiaaW.PrintLast YtedakilpogagiaaW.PrintMore More2
attribute [local go_sem] max2_int min2_int max_two min_two max_three min_three max_four min_four tdiv2e18_ tdiv1e18_ cellSS_  -- for this text's walks alone
def ephemerislaw2_SharpenEarliers.f (k : Nat) (a0_0 : Int) (a0_1 : Int) (a1_0 : Int) (a1_1 : Int) : Option (Bool) := (ephemerislaw2_sharpenWorks.f k).bind fun t349 => (if t349 = true then ((sharpen_Earlier.f k a0_0 a0_1 a1_0 a1_1).bind fun bt350 => ((ephemerisref2_TwoErr.f k a0_0 a0_1 a1_0 a1_1).bind fun t352 => (if t352 = 0 then (if a0_1 < a1_0 then (if bt350.2 = 0 then (some (bt350.1 == (-1))) else (some false)) else (if a1_1 < a0_0 then (if bt350.2 = 0 then (some (bt350.1 == 1)) else (some false)) else (if bt350.2 = 11 then (some (bt350.1 == 0)) else (some false)))) else (if bt350.2 = t352 then (some (bt350.1 == 0)) else (some false))))) else (some false))
theorem ephemerislaw2_SharpenEarliers.calls (k : Nat) (a0_0 : Int) (a0_1 : Int) (a1_0 : Int) (a1_1 : Int) (r : Bool) (w : World) (h : ephemerislaw2_SharpenEarliers.f k a0_0 a0_1 a1_0 a1_1 = some r) (hT : r = true) :
    Calls Try.prog 12 #[.agg #[.int .i64 a0_0, .int .i64 a0_1], .agg #[.int .i64 a1_0, .int .i64 a1_1]] w fun e w' => e = .returned (.bool r) ∧ Below w.heap.size w w' := by
  have hu23 := Try.underlying23
  have HB := Aside0.mk (Below.refl w.heap.size w)
  have H : ((ephemerislaw2_sharpenWorks.f k).bind fun t349 => (if t349 = true then ((sharpen_Earlier.f k a0_0 a0_1 a1_0 a1_1).bind fun bt350 => ((ephemerisref2_TwoErr.f k a0_0 a0_1 a1_0 a1_1).bind fun t352 => (if t352 = 0 then (if a0_1 < a1_0 then (if bt350.2 = 0 then (some (bt350.1 == (-1))) else (some false)) else (if a1_1 < a0_0 then (if bt350.2 = 0 then (some (bt350.1 == 1)) else (some false)) else (if bt350.2 = 11 then (some (bt350.1 == 0)) else (some false)))) else (if bt350.2 = t352 then (some (bt350.1 == 0)) else (some false))))) else (some false))) = some r := h
  clear h
  replace H := Option.bind_eq_some_iff.mp H
  obtain ⟨t349, A30, H⟩ := H
  replace H : (if t349 = true then ((sharpen_Earlier.f k a0_0 a0_1 a1_0 a1_1).bind fun bt350 => ((ephemerisref2_TwoErr.f k a0_0 a0_1 a1_0 a1_1).bind fun t352 => (if t352 = 0 then (if a0_1 < a1_0 then (if bt350.2 = 0 then (some (bt350.1 == (-1))) else (some false)) else (if a1_1 < a0_0 then (if bt350.2 = 0 then (some (bt350.1 == 1)) else (some false)) else (if bt350.2 = 11 then (some (bt350.1 == 0)) else (some false)))) else (if bt350.2 = t352 then (some (bt350.1 == 0)) else (some false))))) else (some false)) = some r := H
  have A3 := Aside0.mk A30
  clear A30
  by_cases c4 : t349 = true
  · subst c4
    have H1 : ((sharpen_Earlier.f k a0_0 a0_1 a1_0 a1_1).bind fun bt350 => ((ephemerisref2_TwoErr.f k a0_0 a0_1 a1_0 a1_1).bind fun t352 => (if t352 = 0 then (if a0_1 < a1_0 then (if bt350.2 = 0 then (some (bt350.1 == (-1))) else (some false)) else (if a1_1 < a0_0 then (if bt350.2 = 0 then (some (bt350.1 == 1)) else (some false)) else (if bt350.2 = 11 then (some (bt350.1 == 0)) else (some false)))) else (if bt350.2 = t352 then (some (bt350.1 == 0)) else (some false))))) = some r := by rw [if_pos rfl] at H; exact H
    clear H
    have H := H1
    clear H1
    replace H := Option.bind_eq_some_iff.mp H
    obtain ⟨⟨t350, t351⟩, A50, H⟩ := H
    replace H : ((ephemerisref2_TwoErr.f k a0_0 a0_1 a1_0 a1_1).bind fun t352 => (if t352 = 0 then (if a0_1 < a1_0 then (if t351 = 0 then (some (t350 == (-1))) else (some false)) else (if a1_1 < a0_0 then (if t351 = 0 then (some (t350 == 1)) else (some false)) else (if t351 = 11 then (some (t350 == 0)) else (some false)))) else (if t351 = t352 then (some (t350 == 0)) else (some false)))) = some r := H
    have A5 := Aside0.mk A50
    clear A50
    replace H := Option.bind_eq_some_iff.mp H
    obtain ⟨t352, A60, H⟩ := H
    replace H : (if t352 = 0 then (if a0_1 < a1_0 then (if t351 = 0 then (some (t350 == (-1))) else (some false)) else (if a1_1 < a0_0 then (if t351 = 0 then (some (t350 == 1)) else (some false)) else (if t351 = 11 then (some (t350 == 0)) else (some false)))) else (if t351 = t352 then (some (t350 == 0)) else (some false))) = some r := H
    have A6 := Aside0.mk A60
    clear A60
    have HC7 := Aside0.mk H
    clear H
    go_enter Try.func12, Try.ntmps12
    go_upto_if 19 with (first | ((with_reducible refine gate_dst (N := 2) rfl ?_); refine box_event ?hg (N := 2) ?hd (cs := #[.int .i64 a0_0, .int .i64 a0_1]) (t := 23) ?hr ?_; (case hd => rfl); (case hg => rfl); (case hr => first | (go_simp; done) | (go_simp; rfl)); intro gb347 hg w8 hbox hb; have n0_ := Aside0.mk (below_step (by repeat (first | (with_reducible first | exact HB.out | apply below_alloc | apply pw_below_drewN | apply below_drew1) | exact HB.out)) hb); have n1_ := Aside0.mk (hbox); have n2_ := Aside0.mk ((by rw [hg]; exact (below_size (by repeat (first | (with_reducible first | exact HB.out | apply below_alloc | apply pw_below_drewN | apply below_drew1) | exact HB.out))) : w.heap.size ≤ gb347)); have n3_ := Aside0.mk ((by rw [hg]; exact (below_size (by repeat (first | (with_reducible first | exact HB.out | apply below_alloc | apply pw_below_drewN | apply below_drew1) | exact HB.out))) : w.heap.size ≤ gb347)); clear HB; have HB := n0_; have BK347 := n1_; have GW347 := n2_; have GE347 := n3_; clear n0_ n1_ n2_ n3_; clear hb hbox hg) | ((with_reducible refine gate_dst (N := 3) rfl ?_); refine box_event ?hg (N := 3) ?hd (cs := #[.int .i64 a1_0, .int .i64 a1_1]) (t := 23) ?hr ?_; (case hd => rfl); (case hg => rfl); (case hr => first | (go_simp; done) | (go_simp; rfl)); intro gb348 hg w9 hbox hb; have n0_ := Aside0.mk (blk_below (g := gb347) (o := .cells #[.int .i64 a0_0, .int .i64 a0_1] 23 (0, 0)) (by (with_reducible repeat (first | refine blk_drewN ?_ _ | refine blk_drew ?_ | refine blk_alloc ?_ _)); exact BK347.out) hb); have n1_ := Aside0.mk (below_step (by repeat (first | (with_reducible first | exact HB.out | apply below_alloc | apply pw_below_drewN | apply below_drew1 | refine below_set ?_ GE347.out) | exact HB.out)) hb); have n2_ := Aside0.mk (hbox); have n3_ := Aside0.mk ((by rw [hg]; exact (below_size (by repeat (first | (with_reducible first | exact HB.out | apply below_alloc | apply pw_below_drewN | apply below_drew1 | refine below_set ?_ GE347.out) | exact HB.out))) : w.heap.size ≤ gb348)); have n4_ := Aside0.mk ((by rw [hg]; exact (below_size (by repeat (first | (with_reducible first | exact HB.out | apply below_alloc | apply pw_below_drewN | apply below_drew1 | refine below_set ?_ GE347.out) | exact HB.out))) : w.heap.size ≤ gb348)); have n5_ := Aside0.mk ((by rw [hg]; exact Nat.ne_of_lt (blk_lt (g := gb347) (o := .cells #[.int .i64 a0_0, .int .i64 a0_1] 23 (0, 0)) (by (with_reducible repeat (first | refine blk_drewN ?_ _ | refine blk_drew ?_ | refine blk_alloc ?_ _)); exact BK347.out)) : gb347 ≠ gb348)); have n6_ := Aside0.mk ((by rw [hg]; exact Nat.ne_of_gt (blk_lt (g := gb347) (o := .cells #[.int .i64 a0_0, .int .i64 a0_1] 23 (0, 0)) (by (with_reducible repeat (first | refine blk_drewN ?_ _ | refine blk_drew ?_ | refine blk_alloc ?_ _)); exact BK347.out)) : gb348 ≠ gb347)); clear BK347; clear HB; have BK347 := n0_; have HB := n1_; have BK348 := n2_; have GW348 := n3_; have GE348 := n4_; have NB347_348 := n5_; have NB348_347 := n6_; clear n0_ n1_ n2_ n3_ n4_ n5_ n6_; clear hb hbox hg) | ((with_reducible refine gate_callee (f := 53) rfl ?_); refine goesL_ (some 8) rfl rfl Try.func53 (by kernel_rfl) rfl #[] rfl (by (try simp only [List.map_toArray, List.map_cons, List.map_nil]); first | done | rfl | (simp only [List.length_drop, List.length_take]; rfl)) ?_; (with_reducible refine (ephemerislaw2_sharpenWorks.calls k  true _ A3.out rfl).mono ?_); rintro e w10 ⟨rfl, hb⟩; refine ⟨_, rfl, ?_⟩; have n0_ := Aside0.mk (blk_below (g := gb347) (o := .cells #[.int .i64 a0_0, .int .i64 a0_1] 23 (0, 0)) (by (with_reducible repeat (first | refine blk_drewN ?_ _ | refine blk_drew ?_ | refine blk_alloc ?_ _)); exact BK347.out) hb); have n1_ := Aside0.mk (blk_below (g := gb348) (o := .cells #[.int .i64 a1_0, .int .i64 a1_1] 23 (0, 0)) (by (with_reducible repeat (first | refine blk_drewN ?_ _ | refine blk_drew ?_ | refine blk_alloc ?_ _)); exact BK348.out) hb); have n2_ := Aside0.mk (below_step (by repeat (first | (with_reducible first | exact HB.out | apply below_alloc | apply pw_below_drewN | apply below_drew1 | refine below_set ?_ GE347.out | refine below_set ?_ GE348.out) | exact HB.out)) hb); clear BK347; clear BK348; clear HB; have BK347 := n0_; have BK348 := n1_; have HB := n2_; clear n0_ n1_ n2_; (try clear hb); (try clear hb2); (try clear hk); (try clear hi); have hnb11 := NB347_348.out; have hnc11 := NB348_347.out; have hcz12_0 : w10.cell? ⟨gb347, 0, none⟩ = some (.int .i64 a0_0) := (blk_cell BK347.out 0).trans rfl; have hcz12_1 : w10.cell? ⟨gb347, 1, none⟩ = some (.int .i64 a0_1) := (blk_cell BK347.out 1).trans rfl; have hfz12_0 := blk_frozen BK347.out 0; have hfz12_1 := blk_frozen BK347.out 1; have hcz13_0 : w10.cell? ⟨gb348, 0, none⟩ = some (.int .i64 a1_0) := (blk_cell BK348.out 0).trans rfl; have hcz13_1 : w10.cell? ⟨gb348, 1, none⟩ = some (.int .i64 a1_1) := (blk_cell BK348.out 1).trans rfl; have hfz13_0 := blk_frozen BK348.out 0; have hfz13_1 := blk_frozen BK348.out 1) | ((with_reducible refine gate_callee (f := 54) rfl ?_); refine goesL_ (some 13) rfl rfl Try.func54 (by kernel_rfl) rfl #[.agg #[.int .i64 a0_0, .int .i64 a0_1], .agg #[.int .i64 a1_0, .int .i64 a1_1]] rfl (by (try simp only [List.map_toArray, List.map_cons, List.map_nil]); first | done | rfl | (simp only [List.length_drop, List.length_take]; rfl)) ?_; (with_reducible refine (sharpen_Earlier.calls k a0_0 a0_1 a1_0 a1_1 t350 t351 _ A5.out).mono ?_); rintro e w14 ⟨rfl, hb⟩; refine ⟨_, rfl, ?_⟩; have n0_ := Aside0.mk (blk_below (g := gb347) (o := .cells #[.int .i64 a0_0, .int .i64 a0_1] 23 (0, 0)) (by (with_reducible repeat (first | refine blk_drewN ?_ _ | refine blk_drew ?_ | refine blk_alloc ?_ _)); exact BK347.out) hb); have n1_ := Aside0.mk (blk_below (g := gb348) (o := .cells #[.int .i64 a1_0, .int .i64 a1_1] 23 (0, 0)) (by (with_reducible repeat (first | refine blk_drewN ?_ _ | refine blk_drew ?_ | refine blk_alloc ?_ _)); exact BK348.out) hb); have n2_ := Aside0.mk (below_step (by repeat (first | (with_reducible first | exact HB.out | apply below_alloc | apply pw_below_drewN | apply below_drew1 | refine below_set ?_ GE347.out | refine below_set ?_ GE348.out) | exact HB.out)) hb); clear BK347; clear BK348; clear HB; have BK347 := n0_; have BK348 := n1_; have HB := n2_; clear n0_ n1_ n2_; (try clear hb); (try clear hb2); (try clear hk); (try clear hi); have hcz15_0 : w14.cell? ⟨gb347, 0, none⟩ = some (.int .i64 a0_0) := (blk_cell BK347.out 0).trans rfl; have hcz15_1 : w14.cell? ⟨gb347, 1, none⟩ = some (.int .i64 a0_1) := (blk_cell BK347.out 1).trans rfl; have hfz15_0 := blk_frozen BK347.out 0; have hfz15_1 := blk_frozen BK347.out 1; have hcz16_0 : w14.cell? ⟨gb348, 0, none⟩ = some (.int .i64 a1_0) := (blk_cell BK348.out 0).trans rfl; have hcz16_1 : w14.cell? ⟨gb348, 1, none⟩ = some (.int .i64 a1_1) := (blk_cell BK348.out 1).trans rfl; have hfz16_0 := blk_frozen BK348.out 0; have hfz16_1 := blk_frozen BK348.out 1) | ((with_reducible refine gate_callee (f := 17) rfl ?_); refine goesL_ (some 18) rfl rfl Try.func17 (by kernel_rfl) rfl #[.agg #[.int .i64 a0_0, .int .i64 a0_1], .agg #[.int .i64 a1_0, .int .i64 a1_1]] rfl (by (try simp only [List.map_toArray, List.map_cons, List.map_nil]); first | done | rfl | (simp only [List.length_drop, List.length_take]; rfl)) ?_; (with_reducible refine (ephemerisref2_TwoErr.calls k a0_0 a0_1 a1_0 a1_1 t352 _ A6.out).mono ?_); rintro e w17 ⟨rfl, hb⟩; refine ⟨_, rfl, ?_⟩; have n0_ := Aside0.mk (blk_below (g := gb347) (o := .cells #[.int .i64 a0_0, .int .i64 a0_1] 23 (0, 0)) (by (with_reducible repeat (first | refine blk_drewN ?_ _ | refine blk_drew ?_ | refine blk_alloc ?_ _)); exact BK347.out) hb); have n1_ := Aside0.mk (blk_below (g := gb348) (o := .cells #[.int .i64 a1_0, .int .i64 a1_1] 23 (0, 0)) (by (with_reducible repeat (first | refine blk_drewN ?_ _ | refine blk_drew ?_ | refine blk_alloc ?_ _)); exact BK348.out) hb); have n2_ := Aside0.mk (below_step (by repeat (first | (with_reducible first | exact HB.out | apply below_alloc | apply pw_below_drewN | apply below_drew1 | refine below_set ?_ GE347.out | refine below_set ?_ GE348.out) | exact HB.out)) hb); clear BK347; clear BK348; clear HB; have BK347 := n0_; have BK348 := n1_; have HB := n2_; clear n0_ n1_ n2_; (try clear hb); (try clear hb2); (try clear hk); (try clear hi)))
    (try simp only [Act.put, List.setIfInBounds_toArray, List.set_cons_zero, List.set_cons_succ])
    have H := HC7.out
    clear HC7
    by_cases c18 : t352 = 0
    · rw [if_pos c18] at H
      have c18b0 : (t352 == 0) = true := beq_iff_eq.mpr c18
      have c18b1 : (t352 != 0) = false := bne_eq_false_iff_eq.mpr c18
      clear c18
      (first | rw [c18b0] | (simp only [i64_w, i32_w]; rw [c18b0]) | skip)
      by_cases c19 : a0_1 < a1_0
      · rw [if_pos c19] at H
        have c19b0 : decide (a0_1 < a1_0) = true := decide_eq_true c19
        clear c19
        by_cases c20 : t351 = 0
        · rw [if_pos c20] at H
          have c20b0 : (t351 == 0) = true := beq_iff_eq.mpr c20
          have c20b1 : (t351 != 0) = false := bne_eq_false_iff_eq.mpr c20
          clear c20
          obtain rfl := Option.some.inj H
          simp only [Option.some.injEq, Prod.mk.injEq] at H
          obtain ⟨rfl⟩ := H
          have hnb21 := NB347_348.out
          have hnc21 := NB348_347.out
          have hcz22_0 : w17.cell? ⟨gb347, 0, none⟩ = some (.int .i64 a0_0) := (blk_cell BK347.out 0).trans rfl
          have hcz22_1 : w17.cell? ⟨gb347, 1, none⟩ = some (.int .i64 a0_1) := (blk_cell BK347.out 1).trans rfl
          have hfz22_0 := blk_frozen BK347.out 0
          have hfz22_1 := blk_frozen BK347.out 1
          have hcz23_0 : w17.cell? ⟨gb348, 0, none⟩ = some (.int .i64 a1_0) := (blk_cell BK348.out 0).trans rfl
          have hcz23_1 : w17.cell? ⟨gb348, 1, none⟩ = some (.int .i64 a1_1) := (blk_cell BK348.out 1).trans rfl
          have hfz23_0 := blk_frozen BK348.out 0
          have hfz23_1 := blk_frozen BK348.out 1
          go_wp2
          go_ret
          exact ⟨by first | rfl | (simp [errW_none, errW_some] <;> rfl) | (simp [*, errW_none, errW_some] <;> rfl), by repeat (first | (with_reducible first | exact HB.out | apply below_alloc | apply pw_below_drewN | apply below_drew1 | refine below_set ?_ GE347.out | refine below_set ?_ GE348.out) | exact HB.out)⟩
        · rw [if_neg c20] at H
          have c20b0 : (t351 == 0) = false := beq_eq_false_iff_ne.mpr c20
          have c20b1 : (t351 != 0) = true := bne_iff_ne.mpr c20
          obtain rfl := Option.some.inj H
          exact absurd hT (by decide)
      · rw [if_neg c19] at H
        have c19b0 : decide (a0_1 < a1_0) = false := decide_eq_false c19
        clear c19
        by_cases c24 : a1_1 < a0_0
        · rw [if_pos c24] at H
          have c24b0 : decide (a1_1 < a0_0) = true := decide_eq_true c24
          clear c24
          by_cases c25 : t351 = 0
          · rw [if_pos c25] at H
            have c25b0 : (t351 == 0) = true := beq_iff_eq.mpr c25
            have c25b1 : (t351 != 0) = false := bne_eq_false_iff_eq.mpr c25
            clear c25
            obtain rfl := Option.some.inj H
            simp only [Option.some.injEq, Prod.mk.injEq] at H
            obtain ⟨rfl⟩ := H
            have hnb26 := NB347_348.out
            have hnc26 := NB348_347.out
            have hcz27_0 : w17.cell? ⟨gb347, 0, none⟩ = some (.int .i64 a0_0) := (blk_cell BK347.out 0).trans rfl
            have hcz27_1 : w17.cell? ⟨gb347, 1, none⟩ = some (.int .i64 a0_1) := (blk_cell BK347.out 1).trans rfl
            have hfz27_0 := blk_frozen BK347.out 0
            have hfz27_1 := blk_frozen BK347.out 1
            have hcz28_0 : w17.cell? ⟨gb348, 0, none⟩ = some (.int .i64 a1_0) := (blk_cell BK348.out 0).trans rfl
            have hcz28_1 : w17.cell? ⟨gb348, 1, none⟩ = some (.int .i64 a1_1) := (blk_cell BK348.out 1).trans rfl
            have hfz28_0 := blk_frozen BK348.out 0
            have hfz28_1 := blk_frozen BK348.out 1
            go_wp2
            go_ret
            exact ⟨by first | rfl | (simp [errW_none, errW_some] <;> rfl) | (simp [*, errW_none, errW_some] <;> rfl), by repeat (first | (with_reducible first | exact HB.out | apply below_alloc | apply pw_below_drewN | apply below_drew1 | refine below_set ?_ GE347.out | refine below_set ?_ GE348.out) | exact HB.out)⟩
          · rw [if_neg c25] at H
            have c25b0 : (t351 == 0) = false := beq_eq_false_iff_ne.mpr c25
            have c25b1 : (t351 != 0) = true := bne_iff_ne.mpr c25
            obtain rfl := Option.some.inj H
            exact absurd hT (by decide)
        · rw [if_neg c24] at H
          have c24b0 : decide (a1_1 < a0_0) = false := decide_eq_false c24
          clear c24
          by_cases c29 : t351 = 11
          · rw [if_pos c29] at H
            have c29b0 : (t351 == 11) = true := beq_iff_eq.mpr c29
            have c29b1 : (t351 != 11) = false := bne_eq_false_iff_eq.mpr c29
            clear c29
            obtain rfl := Option.some.inj H
            simp only [Option.some.injEq, Prod.mk.injEq] at H
            obtain ⟨rfl⟩ := H
            have hnb30 := NB347_348.out
            have hnc30 := NB348_347.out
            have hcz31_0 : w17.cell? ⟨gb347, 0, none⟩ = some (.int .i64 a0_0) := (blk_cell BK347.out 0).trans rfl
            have hcz31_1 : w17.cell? ⟨gb347, 1, none⟩ = some (.int .i64 a0_1) := (blk_cell BK347.out 1).trans rfl
            have hfz31_0 := blk_frozen BK347.out 0
            have hfz31_1 := blk_frozen BK347.out 1
            have hcz32_0 : w17.cell? ⟨gb348, 0, none⟩ = some (.int .i64 a1_0) := (blk_cell BK348.out 0).trans rfl
            have hcz32_1 : w17.cell? ⟨gb348, 1, none⟩ = some (.int .i64 a1_1) := (blk_cell BK348.out 1).trans rfl
            have hfz32_0 := blk_frozen BK348.out 0
            have hfz32_1 := blk_frozen BK348.out 1
            go_wp2
            go_ret
            exact ⟨by first | rfl | (simp [errW_none, errW_some] <;> rfl) | (simp [*, errW_none, errW_some] <;> rfl), by repeat (first | (with_reducible first | exact HB.out | apply below_alloc | apply pw_below_drewN | apply below_drew1 | refine below_set ?_ GE347.out | refine below_set ?_ GE348.out) | exact HB.out)⟩
          · rw [if_neg c29] at H
            have c29b0 : (t351 == 11) = false := beq_eq_false_iff_ne.mpr c29
            have c29b1 : (t351 != 11) = true := bne_iff_ne.mpr c29
            obtain rfl := Option.some.inj H
            exact absurd hT (by decide)
    · rw [if_neg c18] at H
      have c18b0 : (t352 == 0) = false := beq_eq_false_iff_ne.mpr c18
      have c18b1 : (t352 != 0) = true := bne_iff_ne.mpr c18
      (first | rw [c18b0] | (simp only [i64_w, i32_w]; rw [c18b0]) | skip)
      by_cases c33 : t351 = t352
      · rw [if_pos c33] at H
        have c33b0 : (t351 == t352) = true := beq_iff_eq.mpr c33
        have c33b1 : (t351 != t352) = false := bne_eq_false_iff_eq.mpr c33
        clear c33
        obtain rfl := Option.some.inj H
        simp only [Option.some.injEq, Prod.mk.injEq] at H
        obtain ⟨rfl⟩ := H
        go_wp2
        go_ret
        exact ⟨by first | rfl | (simp [errW_none, errW_some] <;> rfl) | (simp [*, errW_none, errW_some] <;> rfl), by repeat (first | (with_reducible first | exact HB.out | apply below_alloc | apply pw_below_drewN | apply below_drew1 | refine below_set ?_ GE347.out | refine below_set ?_ GE348.out) | exact HB.out)⟩
      · rw [if_neg c33] at H
        have c33b0 : (t351 == t352) = false := beq_eq_false_iff_ne.mpr c33
        have c33b1 : (t351 != t352) = true := bne_iff_ne.mpr c33
        obtain rfl := Option.some.inj H
        exact absurd hT (by decide)
  · replace c4 := Bool.eq_false_iff.mpr c4
    subst c4
    have H1 : (some false) = some r := by rw [if_neg (show ¬ (false = true) by decide)] at H; exact H
    clear H
    have H := H1
    clear H1
    obtain rfl := Option.some.inj H
    exact absurd hT (by decide)
end Go.Proofs.Ytedakilpogagiaa.PAll
end
