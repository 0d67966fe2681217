/- Written by a program of this session: what one law needs. -/
import Derived.Test.YtmahlfjnejbcnaaSharpenDecidesn15
import Derived.Test.YtmahlfjnejbcnaaSharpenDecidesn16
set_option maxHeartbeats 8000000
set_option maxRecDepth 100000
set_option linter.unusedSimpArgs false
set_option linter.unusedVariables false
section
namespace Go.Proofs.Ytmahlfjnejbcnaa.PAll
open Go Go.RowKit YtmahlfjnejbcnaaW.PrintWords Sx Go.Proofs.Ytmahlfjnejbcnaa
def sharpen_Season.f (k : Nat) (a0 : Int) (a1 : Int) (a2 : Int) : Option (Int × Int × Int) :=
  ob (season_Find.f k a0 a1) fun t1 =>
  oif ((t1.snd.snd != 0) = true) (
   some (0, 0, t1.snd.snd)) (
   oif (decide (a2 < 1) = true) (
    some (0, 0, 1)) (
    ob (Nar36.f (fun p2 =>
       ob (sun_Longitude.f k p2) fun t3 =>
       ob (series_After.f k t3.fst t3.snd.fst (IntKind.i64.wrap (a0 * 250000000))) fun t4 =>
       some (t4)) k t1.fst t1.snd.fst a2) fun t3 =>
    some (t3.fst, t3.snd.fst, t3.snd.snd)))
theorem sharpen_Season.mono : ∀ a0 a1 a2 k, LeO (sharpen_Season.f k a0 a1 a2) (sharpen_Season.f (k + 1) a0 a1 a2) := by
  intro a0 a1 a2 k
  unfold sharpen_Season.f
  try simp only [ob_eq, oif_eq]
  repeat' first
    | (with_reducible refine Nar36.mono (fun _ => ?_) _ _ _ _)
    | (with_reducible exact season_Find.mono _ _ _)
    | (with_reducible exact sun_Longitude.mono _ _)
    | (with_reducible exact series_After.mono _ _ _ _)
    | (with_reducible exact LeO.refl _)
    | (with_reducible exact LeO.none _)
    | (with_reducible refine LeO.ite ?_ ?_)
    | (with_reducible refine LeO.bind ?_ (fun _ => ?_))
def sharpen_Season.OQ {R : Type} (k : Nat) : OraQ R := fun g args K => match g with
  | 12 => (match args with | [.int .i64 a0, .int .i64 a1] => (season_Find.f k a0 a1).bind fun q => K (.tuple ⟨[.agg ⟨[.int .i64 q.1, .int .i64 q.2.1]⟩, .int .i64 q.2.2]⟩) | _ => none)
  | 37 => (match args with | [.int .i64 a0] => (sun_Longitude.f k a0).bind fun q => K (.tuple ⟨[.agg ⟨[.int .i64 q.1, .int .i64 q.2.1]⟩, .int .i64 q.2.2]⟩) | _ => none)
  | 38 => (match args with | [.agg ⟨[.int .i64 a0_0, .int .i64 a0_1]⟩, .int .i64 a1] => (series_After.f k a0_0 a0_1 a1).bind fun q => K (.int .i64 q) | _ => none)
  | _ => none
theorem sharpen_Season.OQ_ok (k : Nat) (Φ : World → Prop) (base : Nat) {R : Type} : OraQOk Try.prog (fun _ => undef) Φ base (sharpen_Season.OQ (R := R) k) := by
  intro g args K r h
  unfold sharpen_Season.OQ at h
  split at h
  · split at h
    · obtain ⟨q, hq, h⟩ := Option.bind_eq_some_iff.mp h
      exact ⟨_, h, callQ_of rfl rfl fun w => (season_Find.calls k _ _ _ _ _ w hq).mono fun e w' he => ⟨he.1, he.2⟩⟩
    · cases h
  · split at h
    · obtain ⟨q, hq, h⟩ := Option.bind_eq_some_iff.mp h
      exact ⟨_, h, callQ_of rfl rfl fun w => (sun_Longitude.calls k _ _ _ _ w hq).mono fun e w' he => ⟨he.1, he.2⟩⟩
    · cases h
  · split at h
    · obtain ⟨q, hq, h⟩ := Option.bind_eq_some_iff.mp h
      exact ⟨_, h, callQ_of rfl rfl fun w => (series_After.calls k _ _ _ _ w hq).mono fun e w' he => ⟨he.1, he.2⟩⟩
    · cases h
  · cases h
def sharpen_Season.F (v : Value) (_ : Mem) : Option (Int × Int × Int) := match v with | .tuple ⟨[.agg ⟨[.int .i64 r1, .int .i64 r2]⟩, .int .i64 r3]⟩ => some (r1, r2, r3) | _ => none
theorem sharpen_Season.run (k : Nat) (a0 : Int) (a1 : Int) (a2 : Int) : runM Try.prog (narO Try.prog 35 36 1 Try.f36 (Try.f36.body.getD .skip) 3000 (sharpen_Season.OQ k) (fun s a b wd => Nar36.f s k a b wd) (liftQ (sharpen_Season.OQ k))) (drawO Try.prog (sharpen_Season.OQ k) (narO Try.prog 35 36 1 Try.f36 (Try.f36.body.getD .skip) 3000 (sharpen_Season.OQ k) (fun s a b wd => Nar36.f s k a b wd) (liftQ (sharpen_Season.OQ k)))) (fun _ => none) (atEnd Try.prog Try.f11 sharpen_Season.F) 5000 [.code (Try.f11.body.getD .skip)] ([.int .i64 a0, .int .i64 a1, .int .i64 a2] ++ List.replicate (Try.f11.ntmps - ([.int .i64 a0, .int .i64 a1, .int .i64 a2] : List Value).length) undef) [] = sharpen_Season.f k a0 a1 a2 := by kernel_rfl
theorem sharpen_Season.calls (k : Nat) (a0 : Int) (a1 : Int) (a2 : Int) (r1 : Int) (r2 : Int) (r3 : Int) (w : World) (h : sharpen_Season.f k a0 a1 a2 = some (r1, r2, r3)) :
    Calls Try.prog 11 #[.int .i64 a0, .int .i64 a1, .int .i64 a2] w fun e w' => e = .returned (.tuple #[.agg #[.int .i64 r1, .int .i64 r2], .int .i64 r3]) ∧ Below w.heap.size w w' := by
  have hod : ∀ Φ base, Stable Φ base → OraOk Try.prog (fun _ => undef) Φ base (narO Try.prog 35 36 1 Try.f36 (Try.f36.body.getD .skip) 3000 (sharpen_Season.OQ k) (fun s a b wd => Nar36.f s k a b wd) (liftQ (sharpen_Season.OQ (R := Int × Int × Int) k))) ∧ DraOk Try.prog (fun _ => undef) Φ base (drawO Try.prog (sharpen_Season.OQ (R := Int × Int × Int) k) (narO Try.prog 35 36 1 Try.f36 (Try.f36.body.getD .skip) 3000 (sharpen_Season.OQ k) (fun s a b wd => Nar36.f s k a b wd) (liftQ (sharpen_Season.OQ (R := Int × Int × Int) k)))) := fun Φ base hs => by
    have ho : OraOk Try.prog (fun _ => undef) Φ base (narO Try.prog 35 36 1 Try.f36 (Try.f36.body.getD .skip) 3000 (sharpen_Season.OQ k) (fun s a b wd => Nar36.f s k a b wd) (liftQ (sharpen_Season.OQ (R := Int × Int × Int) k))) := (narO_ok (Ψ := fun _ => True) (fun _ _ _ _ => trivial) (fun _ _ => trivial) (Checked.mixed Try.checked) hs (fun Φ base _ _ => sharpen_Season.OQ_ok k Φ base) ((sharpen_Season.OQ_ok k Φ base).lift hs) Try.func36 rfl (fun {s a b wd x y z caps w} hl hc hf => by
      obtain ⟨c0, rfl⟩ := List.length_eq_one_iff.1 hl
      exact Nar36.calls hc hf))
    exact ⟨ho, drawO_ok (Checked.mixed Try.checked) hs (sharpen_Season.OQ_ok k Φ base) ho⟩
  refine calls_closedO (LF := fun _ => none) (F := sharpen_Season.F) (r := (r1, r2, r3)) hod (LS := fun _ => True) (fun Φ base _ c _ live len f e => by cases e) Try.func11 rfl (fun _ _ => trivial) rfl (fun u m hu => ?_) rfl (((sharpen_Season.run k a0 a1 a2).trans h)) w
  unfold sharpen_Season.F at hu
  split at hu
  · cases hu; rfl
  · cases hu
end Go.Proofs.Ytmahlfjnejbcnaa.PAll
end
section
namespace Go.Proofs.Ytmahlfjnejbcnaa.PAll
open Go.RowKit YtmahlfjnejbcnaaW.PrintWords YtmahlfjnejbcnaaW.PrintLast YtmahlfjnejbcnaaW.PrintMore More2
attribute [local go_sem] max2_int min2_int max_two min_two max_three min_three max_four min_four tdiv2e18_ tdiv1e18_ cellSS_  -- for this text's walks alone
def sharpen_Earlier.l0 : Nat → Int → Int → Int → Int → Int → Int → Int → Int → Int → Option (Int × Int)
  | 0, _, _, _, _, _, _, _, _, _ => none
  | k + 1, x12, x996, x997, x998, x999, x253000, x253001, x254000, x254001 => if x12 < 2 then (if 0 ≤ x12 then ((interval_Check.f k (rd [x999, x997] x12) (rd [x998, x996] x12)).bind fun t255 => (if t255 = 0 then (sharpen_Earlier.l0 k (wrap64 (x12 + 1)) x996 x997 x998 x999 x253000 x253001 x254000 x254001) else (some (0, t255)))) else (none)) else (if x253001 < x254000 then (some ((-1), 0)) else (if x253000 > x254001 then (some (1, 0)) else (some (0, 11))))
def sharpen_Earlier.f (k : Nat) (a0_0 : Int) (a0_1 : Int) (a1_0 : Int) (a1_1 : Int) : Option (Int × Int) := sharpen_Earlier.l0 k 0 a1_1 a1_0 a0_1 a0_0 a0_0 a0_1 a1_0 a1_1
theorem sharpen_Earlier.mono_l : ∀ k, (∀ y0 y1 y2 y3 y4 y5 y6 y7 y8, LeO (sharpen_Earlier.l0 k y0 y1 y2 y3 y4 y5 y6 y7 y8) (sharpen_Earlier.l0 (k + 1) y0 y1 y2 y3 y4 y5 y6 y7 y8))
  | 0 => fun _ _ _ _ _ _ _ _ _ r h => by simp [sharpen_Earlier.l0] at h
  | k + 1 => by
    have ih0 := sharpen_Earlier.mono_l k
    · intro y0 y1 y2 y3 y4 y5 y6 y7 y8
      unfold sharpen_Earlier.l0
      repeat' first
      | (with_reducible exact ih0 _ _ _ _ _ _ _ _ _)
      | (with_reducible exact interval_Check.mono _ _ _)
      | (with_reducible exact LeO.refl _)
      | (with_reducible exact LeO.none _)
      | (with_reducible refine LeO.ite ?_ ?_)
      | (with_reducible refine LeO.bind ?_ (fun _ => ?_))
      | exact ih0 _ _ _ _ _ _ _ _ _
      | exact interval_Check.mono _ _ _
      | exact LeO.none _
      | refine LeO.ite ?_ ?_
      | refine LeO.bind ?_ (fun _ => ?_)
theorem sharpen_Earlier.mono : ∀ a0 a1 a2 a3 k, LeO (sharpen_Earlier.f k a0 a1 a2 a3) (sharpen_Earlier.f (k + 1) a0 a1 a2 a3) := by
  intro a0 a1 a2 a3 k
  have ih0 := sharpen_Earlier.mono_l k
  unfold sharpen_Earlier.f
  repeat' first
      | (with_reducible exact ih0 _ _ _ _ _ _ _ _ _)
      | (with_reducible exact interval_Check.mono _ _ _)
      | (with_reducible exact LeO.refl _)
      | (with_reducible exact LeO.none _)
      | (with_reducible refine LeO.ite ?_ ?_)
      | (with_reducible refine LeO.bind ?_ (fun _ => ?_))
      | exact ih0 _ _ _ _ _ _ _ _ _
      | exact interval_Check.mono _ _ _
      | exact LeO.none _
      | refine LeO.ite ?_ ?_
      | refine LeO.bind ?_ (fun _ => ?_)
theorem sharpen_Earlier.calls (k : Nat) (a0_0 : Int) (a0_1 : Int) (a1_0 : Int) (a1_1 : Int) (r1 : Int) (r2 : Int) (w : World) (h : sharpen_Earlier.f k a0_0 a0_1 a1_0 a1_1 = some (r1, r2)) :
    Calls Try.prog 33 #[.agg #[.int .i64 a0_0, .int .i64 a0_1], .agg #[.int .i64 a1_0, .int .i64 a1_1]] w fun e w' => e = .returned (.tuple #[.int .i64 r1, .int .i64 r2]) ∧ Below w.heap.size w w' := by
  have hu24 := Try.underlying24
  have hu67 := Try.underlying67
  have HB := Aside0.mk (Below.refl w.heap.size w)
  have H : (sharpen_Earlier.l0 k 0 a1_1 a1_0 a0_1 a0_0 a0_0 a0_1 a1_0 a1_1) = some (r1, r2) := h
  clear h
  have H' := Aside0.mk H
  clear H
  go_enter Try.func33, Try.ntmps33
  go_wp2_with (first | ((with_reducible refine gate_dst (N := 2) rfl ?_); refine box_event ?hg (N := 2) ?hd (cs := #[.int .i64 a0_0, .int .i64 a0_1]) (t := 24) ?hr ?_; (case hd => rfl); (case hg => rfl); (case hr => first | (go_simp; done) | (go_simp; rfl)); intro gb252 hg w3 hbox hb; have n0_ := Aside0.mk (below_step (by repeat (first | (with_reducible first | exact HB.out | apply below_alloc | apply pw_below_drewN | apply below_drew1) | exact HB.out)) hb); have n1_ := Aside0.mk (hbox); have n2_ := Aside0.mk ((by rw [hg]; exact (below_size (by repeat (first | (with_reducible first | exact HB.out | apply below_alloc | apply pw_below_drewN | apply below_drew1) | exact HB.out))) : w.heap.size ≤ gb252)); have n3_ := Aside0.mk ((by rw [hg]; exact (below_size (by repeat (first | (with_reducible first | exact HB.out | apply below_alloc | apply pw_below_drewN | apply below_drew1) | exact HB.out))) : w.heap.size ≤ gb252)); clear HB; have HB := n0_; have BK252 := n1_; have GW252 := n2_; have GE252 := n3_; clear n0_ n1_ n2_ n3_; clear hb hbox hg) | ((with_reducible refine gate_dst (N := 3) rfl ?_); refine box_event ?hg (N := 3) ?hd (cs := #[.int .i64 a1_0, .int .i64 a1_1]) (t := 24) ?hr ?_; (case hd => rfl); (case hg => rfl); (case hr => first | (go_simp; done) | (go_simp; rfl)); intro gb253 hg w4 hbox hb; have n0_ := Aside0.mk (blk_below (g := gb252) (o := .cells #[.int .i64 a0_0, .int .i64 a0_1] 24 (0, 0)) (by (with_reducible repeat (first | refine blk_drewN ?_ _ | refine blk_drew ?_ | refine blk_alloc ?_ _)); exact BK252.out) hb); have n1_ := Aside0.mk (below_step (by repeat (first | (with_reducible first | exact HB.out | apply below_alloc | apply pw_below_drewN | apply below_drew1 | refine below_set ?_ GE252.out) | exact HB.out)) hb); have n2_ := Aside0.mk (hbox); have n3_ := Aside0.mk ((by rw [hg]; exact (below_size (by repeat (first | (with_reducible first | exact HB.out | apply below_alloc | apply pw_below_drewN | apply below_drew1 | refine below_set ?_ GE252.out) | exact HB.out))) : w.heap.size ≤ gb253)); have n4_ := Aside0.mk ((by rw [hg]; exact (below_size (by repeat (first | (with_reducible first | exact HB.out | apply below_alloc | apply pw_below_drewN | apply below_drew1 | refine below_set ?_ GE252.out) | exact HB.out))) : w.heap.size ≤ gb253)); have n5_ := Aside0.mk ((by rw [hg]; exact Nat.ne_of_lt (blk_lt (g := gb252) (o := .cells #[.int .i64 a0_0, .int .i64 a0_1] 24 (0, 0)) (by (with_reducible repeat (first | refine blk_drewN ?_ _ | refine blk_drew ?_ | refine blk_alloc ?_ _)); exact BK252.out)) : gb252 ≠ gb253)); have n6_ := Aside0.mk ((by rw [hg]; exact Nat.ne_of_gt (blk_lt (g := gb252) (o := .cells #[.int .i64 a0_0, .int .i64 a0_1] 24 (0, 0)) (by (with_reducible repeat (first | refine blk_drewN ?_ _ | refine blk_drew ?_ | refine blk_alloc ?_ _)); exact BK252.out)) : gb253 ≠ gb252)); clear BK252; clear HB; have BK252 := n0_; have HB := n1_; have BK253 := n2_; have GW253 := n3_; have GE253 := n4_; have NB252_253 := n5_; have NB253_252 := n6_; clear n0_ n1_ n2_ n3_ n4_ n5_ n6_; clear hb hbox hg; have hnb5 := NB252_253.out; have hnc5 := NB253_252.out; have hcz6_0 : w4.cell? ⟨gb252, 0, none⟩ = some (.int .i64 a0_0) := (blk_cell BK252.out 0).trans rfl; have hcz6_1 : w4.cell? ⟨gb252, 1, none⟩ = some (.int .i64 a0_1) := (blk_cell BK252.out 1).trans rfl; have hfz6_0 := blk_frozen BK252.out 0; have hfz6_1 := blk_frozen BK252.out 1; have hcz7_0 : w4.cell? ⟨gb253, 0, none⟩ = some (.int .i64 a1_0) := (blk_cell BK253.out 0).trans rfl; have hcz7_1 : w4.cell? ⟨gb253, 1, none⟩ = some (.int .i64 a1_1) := (blk_cell BK253.out 1).trans rfl; have hfz7_0 := blk_frozen BK253.out 0; have hfz7_1 := blk_frozen BK253.out 1))
  go_loopg [12] k (fun kq v12 w' => ∃ (x12_1 : Int), v12 = .int .i64 x12_1 ∧ Aside0 (sharpen_Earlier.l0 kq x12_1 a1_1 a1_0 a0_1 a0_0 a0_0 a0_1 a1_0 a1_1 = some (r1, r2)) ∧ Aside0 (kq ≤ k) ∧ Aside0 (w'.heap[gb252]? = some (.cells #[.int .i64 a0_0, .int .i64 a0_1] 24 (0, 0))) ∧ Aside0 (w'.heap[gb253]? = some (.cells #[.int .i64 a1_0, .int .i64 a1_1] 24 (0, 0))) ∧ Aside0 (Below w.heap.size w w'))
  case atStart => exact ⟨(0), (by first | rfl | (simp; done) | (simp [*]; done)), H', ⟨Nat.le_refl _⟩, ⟨by (with_reducible repeat (first | refine blk_drewN ?_ _ | refine blk_drew ?_ | refine blk_alloc ?_ _)); exact BK252.out⟩, ⟨by (with_reducible repeat (first | refine blk_drewN ?_ _ | refine blk_drew ?_ | refine blk_alloc ?_ _)); exact BK253.out⟩, ⟨by repeat (first | (with_reducible first | exact HB.out | apply below_alloc | apply pw_below_drewN | apply below_drew1 | refine below_set ?_ GE252.out | refine below_set ?_ GE253.out) | exact HB.out)⟩⟩
  case round =>
    clear H'
    try clear p2
    try clear c3
    try clear c5
    try clear hcz6_0
    try clear hcz6_1
    try clear hcz7_0
    try clear hcz7_1
    try clear hfz6_0
    try clear hfz6_1
    try clear hfz7_0
    try clear hfz7_1
    obtain ⟨x12_1, rfl, HA, HK1, BK252, BK253, HB⟩ := hrel
    cases gk with
    | zero => exact absurd HA.out (by simp [sharpen_Earlier.l0])
    | succ k1 =>
      have H := HA.out
      clear HA
      simp only [sharpen_Earlier.l0] at H
      by_cases c8 : x12_1 < 2
      · rw [if_pos c8] at H
        have c8b0 : decide (x12_1 < 2) = true := decide_eq_true c8
        clear c8
        by_cases c9 : 0 ≤ x12_1
        · rw [if_pos c9] at H
          have c9b0 : decide (0 ≤ x12_1) = true := decide_eq_true c9
          clear c9
          replace H := Option.bind_eq_some_iff.mp H
          obtain ⟨t255, A110, H⟩ := H
          replace H : (if t255 = 0 then (sharpen_Earlier.l0 k1 (wrap64 (x12_1 + 1)) a1_1 a1_0 a0_1 a0_0 a0_0 a0_1 a1_0 a1_1) else (some (0, t255))) = some (r1, r2) := H
          have A11 := Aside0.mk A110
          clear A110
          by_cases c12 : t255 = 0
          · rw [if_pos c12] at H
            have c12b0 : (t255 == 0) = true := beq_iff_eq.mpr c12
            have c12b1 : (t255 != 0) = false := bne_eq_false_iff_eq.mpr c12
            clear c12
            have H' := Aside0.mk H
            clear H
            have p10 : 0 ≤ (x12_1 : Int) := of_decide_eq_true (by first | (with_reducible assumption) | assumption)
            have q10 : (x12_1 : Int) < (2 : Int) := of_decide_eq_true (by first | (with_reducible assumption) | assumption)
            have hx10 : ∀ W : World, (Instr.index 67 (.agg #[.int .i64 a0_0, .int .i64 a0_1, .int .i64 a1_0, .int .i64 a1_1]) (.int .i64 x12_1)).run Try.prog W = .ok (.agg #[.int .i64 (rd [a0_0, a1_0] x12_1), .int .i64 (rd [a0_1, a1_1] x12_1)]) W := fun W => arrIdx22_ Try.underlying67 Try.sizeOf24 Try.isAgg24 _ _ _ _ x12_1 p10 q10 W
            replace p10 := eq_true p10
            replace q10 := eq_true q10
            go_wp2_with (first | ((with_reducible refine gate_dst (N := 7) rfl ?_); refine box_event ?hg (N := 7) ?hd (cs := #[.int .i64 0, .int .i64 0]) (t := 24) ?hr ?_; (case hd => rfl); (case hg => rfl); (case hr => first | (go_simp; done) | (go_simp; rfl)); intro gb254 hg w13 hbox hb; have n0_ := Aside0.mk (blk_below (g := gb252) (o := .cells #[.int .i64 a0_0, .int .i64 a0_1] 24 (0, 0)) (by (with_reducible repeat (first | refine blk_drewN ?_ _ | refine blk_drew ?_ | refine blk_alloc ?_ _)); exact BK252.out) hb); have n1_ := Aside0.mk (blk_below (g := gb253) (o := .cells #[.int .i64 a1_0, .int .i64 a1_1] 24 (0, 0)) (by (with_reducible repeat (first | refine blk_drewN ?_ _ | refine blk_drew ?_ | refine blk_alloc ?_ _)); exact BK253.out) hb); have n2_ := Aside0.mk (below_step (by repeat (first | (with_reducible first | exact HB.out | apply below_alloc | apply pw_below_drewN | apply below_drew1 | refine below_set ?_ GE252.out | refine below_set ?_ GE253.out) | exact HB.out)) hb); have n3_ := Aside0.mk (hbox); have n4_ := Aside0.mk ((by rw [hg]; exact (below_size (by repeat (first | (with_reducible first | exact HB.out | apply below_alloc | apply pw_below_drewN | apply below_drew1 | refine below_set ?_ GE252.out | refine below_set ?_ GE253.out) | exact HB.out))) : w.heap.size ≤ gb254)); have n5_ := Aside0.mk ((by rw [hg]; exact (below_size (by repeat (first | (with_reducible first | exact HB.out | apply below_alloc | apply pw_below_drewN | apply below_drew1 | refine below_set ?_ GE252.out | refine below_set ?_ GE253.out) | exact HB.out))) : w.heap.size ≤ gb254)); have n6_ := Aside0.mk ((by rw [hg]; exact Nat.ne_of_lt (blk_lt (g := gb252) (o := .cells #[.int .i64 a0_0, .int .i64 a0_1] 24 (0, 0)) (by (with_reducible repeat (first | refine blk_drewN ?_ _ | refine blk_drew ?_ | refine blk_alloc ?_ _)); exact BK252.out)) : gb252 ≠ gb254)); have n7_ := Aside0.mk ((by rw [hg]; exact Nat.ne_of_gt (blk_lt (g := gb252) (o := .cells #[.int .i64 a0_0, .int .i64 a0_1] 24 (0, 0)) (by (with_reducible repeat (first | refine blk_drewN ?_ _ | refine blk_drew ?_ | refine blk_alloc ?_ _)); exact BK252.out)) : gb254 ≠ gb252)); have n8_ := Aside0.mk ((by rw [hg]; exact Nat.ne_of_lt (blk_lt (g := gb253) (o := .cells #[.int .i64 a1_0, .int .i64 a1_1] 24 (0, 0)) (by (with_reducible repeat (first | refine blk_drewN ?_ _ | refine blk_drew ?_ | refine blk_alloc ?_ _)); exact BK253.out)) : gb253 ≠ gb254)); have n9_ := Aside0.mk ((by rw [hg]; exact Nat.ne_of_gt (blk_lt (g := gb253) (o := .cells #[.int .i64 a1_0, .int .i64 a1_1] 24 (0, 0)) (by (with_reducible repeat (first | refine blk_drewN ?_ _ | refine blk_drew ?_ | refine blk_alloc ?_ _)); exact BK253.out)) : gb254 ≠ gb253)); clear BK252; clear BK253; clear HB; have BK252 := n0_; have BK253 := n1_; have HB := n2_; have BK254 := n3_; have GW254 := n4_; have GE254 := n5_; have NB252_254 := n6_; have NB254_252 := n7_; have NB253_254 := n8_; have NB254_253 := n9_; clear n0_ n1_ n2_ n3_ n4_ n5_ n6_ n7_ n8_ n9_; clear hb hbox hg; have hnb14 := NB254_252.out; have hnc14 := NB252_254.out; have hnb15 := NB254_253.out; have hnc15 := NB253_254.out; have hcz16_0 : w13.cell? ⟨gb254, 0, none⟩ = some (.int .i64 0) := (blk_cell BK254.out 0).trans rfl; have hcz16_1 : w13.cell? ⟨gb254, 1, none⟩ = some (.int .i64 0) := (blk_cell BK254.out 1).trans rfl; have hfz16_0 := blk_frozen BK254.out 0; have hfz16_1 := blk_frozen BK254.out 1) | ((with_reducible refine gate_callee (f := 65) rfl ?_); refine goesL_ (some 16) rfl rfl Try.func65 (by kernel_rfl) rfl #[.agg #[.int .i64 (rd [a0_0, a1_0] x12_1), .int .i64 (rd [a0_1, a1_1] x12_1)]] rfl (by (try simp only [List.map_toArray, List.map_cons, List.map_nil]); first | done | rfl | (simp only [List.length_drop, List.length_take]; rfl)) ?_; (with_reducible refine (interval_Check.calls k1 (rd [a0_0, a1_0] x12_1) (rd [a0_1, a1_1] x12_1) t255 _ A11.out).mono ?_); rintro e w17 ⟨rfl, hb⟩; refine ⟨_, rfl, ?_⟩; have n0_ := Aside0.mk (blk_below (g := gb252) (o := .cells #[.int .i64 a0_0, .int .i64 a0_1] 24 (0, 0)) (by (with_reducible repeat (first | refine blk_drewN ?_ _ | refine blk_drew ?_ | refine blk_alloc ?_ _)); refine blk_far ?_ NB252_254.out _; (with_reducible repeat (first | refine blk_drewN ?_ _ | refine blk_drew ?_ | refine blk_alloc ?_ _)); refine blk_far ?_ NB252_254.out _; (with_reducible repeat (first | refine blk_drewN ?_ _ | refine blk_drew ?_ | refine blk_alloc ?_ _)); exact BK252.out) hb); have n1_ := Aside0.mk (blk_below (g := gb253) (o := .cells #[.int .i64 a1_0, .int .i64 a1_1] 24 (0, 0)) (by (with_reducible repeat (first | refine blk_drewN ?_ _ | refine blk_drew ?_ | refine blk_alloc ?_ _)); refine blk_far ?_ NB253_254.out _; (with_reducible repeat (first | refine blk_drewN ?_ _ | refine blk_drew ?_ | refine blk_alloc ?_ _)); refine blk_far ?_ NB253_254.out _; (with_reducible repeat (first | refine blk_drewN ?_ _ | refine blk_drew ?_ | refine blk_alloc ?_ _)); exact BK253.out) hb); have n2_ := Aside0.mk (blk_below (g := gb254) (o := .cells #[.int .i64 (rd [a0_0, a1_0] x12_1), .int .i64 (rd [a0_1, a1_1] x12_1)] 24 (0, 0)) (by (with_reducible repeat (first | refine blk_drewN ?_ _ | refine blk_drew ?_ | refine blk_alloc ?_ _)); refine blk_put (cs := #[.int .i64 (rd [a0_0, a1_0] x12_1), .int .i64 0]) ?_ 1 _ rfl; (with_reducible repeat (first | refine blk_drewN ?_ _ | refine blk_drew ?_ | refine blk_alloc ?_ _)); refine blk_put (cs := #[.int .i64 0, .int .i64 0]) ?_ 0 _ rfl; (with_reducible repeat (first | refine blk_drewN ?_ _ | refine blk_drew ?_ | refine blk_alloc ?_ _)); exact BK254.out) hb); have n3_ := Aside0.mk (below_step (by repeat (first | (with_reducible first | exact HB.out | apply below_alloc | apply pw_below_drewN | apply below_drew1 | refine below_set ?_ GE252.out | refine below_set ?_ GE253.out | refine below_set ?_ GE254.out) | exact HB.out)) hb); clear BK252; clear BK253; clear BK254; clear HB; have BK252 := n0_; have BK253 := n1_; have BK254 := n2_; have HB := n3_; clear n0_ n1_ n2_ n3_; (try clear hb); (try clear hb2); (try clear hk); (try clear hi)))
            go_roundg k1
            case measure => have := HK1.out; omega
            case rel => exact ⟨(wrap64 (x12_1 + 1)), (by first | rfl | (simp; done) | (simp [*]; done)), H', ⟨by have := HK1.out; omega⟩, ⟨by (with_reducible repeat (first | refine blk_drewN ?_ _ | refine blk_drew ?_ | refine blk_alloc ?_ _)); exact BK252.out⟩, ⟨by (with_reducible repeat (first | refine blk_drewN ?_ _ | refine blk_drew ?_ | refine blk_alloc ?_ _)); exact BK253.out⟩, ⟨by repeat (first | (with_reducible first | exact HB.out | apply below_alloc | apply pw_below_drewN | apply below_drew1 | refine below_set ?_ GE252.out | refine below_set ?_ GE253.out | refine below_set ?_ GE254.out) | exact HB.out)⟩⟩
          · rw [if_neg c12] at H
            have c12b0 : (t255 == 0) = false := beq_eq_false_iff_ne.mpr c12
            have c12b1 : (t255 != 0) = true := bne_iff_ne.mpr c12
            simp only [Option.some.injEq, Prod.mk.injEq] at H
            obtain ⟨rfl, rfl⟩ := H
            have p10 : 0 ≤ (x12_1 : Int) := of_decide_eq_true (by first | (with_reducible assumption) | assumption)
            have q10 : (x12_1 : Int) < (2 : Int) := of_decide_eq_true (by first | (with_reducible assumption) | assumption)
            have hx10 : ∀ W : World, (Instr.index 67 (.agg #[.int .i64 a0_0, .int .i64 a0_1, .int .i64 a1_0, .int .i64 a1_1]) (.int .i64 x12_1)).run Try.prog W = .ok (.agg #[.int .i64 (rd [a0_0, a1_0] x12_1), .int .i64 (rd [a0_1, a1_1] x12_1)]) W := fun W => arrIdx22_ Try.underlying67 Try.sizeOf24 Try.isAgg24 _ _ _ _ x12_1 p10 q10 W
            replace p10 := eq_true p10
            replace q10 := eq_true q10
            go_wp2_with (first | ((with_reducible refine gate_dst (N := 7) rfl ?_); refine box_event ?hg (N := 7) ?hd (cs := #[.int .i64 0, .int .i64 0]) (t := 24) ?hr ?_; (case hd => rfl); (case hg => rfl); (case hr => first | (go_simp; done) | (go_simp; rfl)); intro gb254 hg w18 hbox hb; have n0_ := Aside0.mk (blk_below (g := gb252) (o := .cells #[.int .i64 a0_0, .int .i64 a0_1] 24 (0, 0)) (by (with_reducible repeat (first | refine blk_drewN ?_ _ | refine blk_drew ?_ | refine blk_alloc ?_ _)); exact BK252.out) hb); have n1_ := Aside0.mk (blk_below (g := gb253) (o := .cells #[.int .i64 a1_0, .int .i64 a1_1] 24 (0, 0)) (by (with_reducible repeat (first | refine blk_drewN ?_ _ | refine blk_drew ?_ | refine blk_alloc ?_ _)); exact BK253.out) hb); have n2_ := Aside0.mk (below_step (by repeat (first | (with_reducible first | exact HB.out | apply below_alloc | apply pw_below_drewN | apply below_drew1 | refine below_set ?_ GE252.out | refine below_set ?_ GE253.out) | exact HB.out)) hb); have n3_ := Aside0.mk (hbox); have n4_ := Aside0.mk ((by rw [hg]; exact (below_size (by repeat (first | (with_reducible first | exact HB.out | apply below_alloc | apply pw_below_drewN | apply below_drew1 | refine below_set ?_ GE252.out | refine below_set ?_ GE253.out) | exact HB.out))) : w.heap.size ≤ gb254)); have n5_ := Aside0.mk ((by rw [hg]; exact (below_size (by repeat (first | (with_reducible first | exact HB.out | apply below_alloc | apply pw_below_drewN | apply below_drew1 | refine below_set ?_ GE252.out | refine below_set ?_ GE253.out) | exact HB.out))) : w.heap.size ≤ gb254)); have n6_ := Aside0.mk ((by rw [hg]; exact Nat.ne_of_lt (blk_lt (g := gb252) (o := .cells #[.int .i64 a0_0, .int .i64 a0_1] 24 (0, 0)) (by (with_reducible repeat (first | refine blk_drewN ?_ _ | refine blk_drew ?_ | refine blk_alloc ?_ _)); exact BK252.out)) : gb252 ≠ gb254)); have n7_ := Aside0.mk ((by rw [hg]; exact Nat.ne_of_gt (blk_lt (g := gb252) (o := .cells #[.int .i64 a0_0, .int .i64 a0_1] 24 (0, 0)) (by (with_reducible repeat (first | refine blk_drewN ?_ _ | refine blk_drew ?_ | refine blk_alloc ?_ _)); exact BK252.out)) : gb254 ≠ gb252)); have n8_ := Aside0.mk ((by rw [hg]; exact Nat.ne_of_lt (blk_lt (g := gb253) (o := .cells #[.int .i64 a1_0, .int .i64 a1_1] 24 (0, 0)) (by (with_reducible repeat (first | refine blk_drewN ?_ _ | refine blk_drew ?_ | refine blk_alloc ?_ _)); exact BK253.out)) : gb253 ≠ gb254)); have n9_ := Aside0.mk ((by rw [hg]; exact Nat.ne_of_gt (blk_lt (g := gb253) (o := .cells #[.int .i64 a1_0, .int .i64 a1_1] 24 (0, 0)) (by (with_reducible repeat (first | refine blk_drewN ?_ _ | refine blk_drew ?_ | refine blk_alloc ?_ _)); exact BK253.out)) : gb254 ≠ gb253)); clear BK252; clear BK253; clear HB; have BK252 := n0_; have BK253 := n1_; have HB := n2_; have BK254 := n3_; have GW254 := n4_; have GE254 := n5_; have NB252_254 := n6_; have NB254_252 := n7_; have NB253_254 := n8_; have NB254_253 := n9_; clear n0_ n1_ n2_ n3_ n4_ n5_ n6_ n7_ n8_ n9_; clear hb hbox hg; have hnb19 := NB254_252.out; have hnc19 := NB252_254.out; have hnb20 := NB254_253.out; have hnc20 := NB253_254.out; have hcz21_0 : w18.cell? ⟨gb254, 0, none⟩ = some (.int .i64 0) := (blk_cell BK254.out 0).trans rfl; have hcz21_1 : w18.cell? ⟨gb254, 1, none⟩ = some (.int .i64 0) := (blk_cell BK254.out 1).trans rfl; have hfz21_0 := blk_frozen BK254.out 0; have hfz21_1 := blk_frozen BK254.out 1) | ((with_reducible refine gate_callee (f := 65) rfl ?_); refine goesL_ (some 16) rfl rfl Try.func65 (by kernel_rfl) rfl #[.agg #[.int .i64 (rd [a0_0, a1_0] x12_1), .int .i64 (rd [a0_1, a1_1] x12_1)]] rfl (by (try simp only [List.map_toArray, List.map_cons, List.map_nil]); first | done | rfl | (simp only [List.length_drop, List.length_take]; rfl)) ?_; (with_reducible refine (interval_Check.calls k1 (rd [a0_0, a1_0] x12_1) (rd [a0_1, a1_1] x12_1) t255 _ A11.out).mono ?_); rintro e w22 ⟨rfl, hb⟩; refine ⟨_, rfl, ?_⟩; have n0_ := Aside0.mk (blk_below (g := gb252) (o := .cells #[.int .i64 a0_0, .int .i64 a0_1] 24 (0, 0)) (by (with_reducible repeat (first | refine blk_drewN ?_ _ | refine blk_drew ?_ | refine blk_alloc ?_ _)); refine blk_far ?_ NB252_254.out _; (with_reducible repeat (first | refine blk_drewN ?_ _ | refine blk_drew ?_ | refine blk_alloc ?_ _)); refine blk_far ?_ NB252_254.out _; (with_reducible repeat (first | refine blk_drewN ?_ _ | refine blk_drew ?_ | refine blk_alloc ?_ _)); exact BK252.out) hb); have n1_ := Aside0.mk (blk_below (g := gb253) (o := .cells #[.int .i64 a1_0, .int .i64 a1_1] 24 (0, 0)) (by (with_reducible repeat (first | refine blk_drewN ?_ _ | refine blk_drew ?_ | refine blk_alloc ?_ _)); refine blk_far ?_ NB253_254.out _; (with_reducible repeat (first | refine blk_drewN ?_ _ | refine blk_drew ?_ | refine blk_alloc ?_ _)); refine blk_far ?_ NB253_254.out _; (with_reducible repeat (first | refine blk_drewN ?_ _ | refine blk_drew ?_ | refine blk_alloc ?_ _)); exact BK253.out) hb); have n2_ := Aside0.mk (blk_below (g := gb254) (o := .cells #[.int .i64 (rd [a0_0, a1_0] x12_1), .int .i64 (rd [a0_1, a1_1] x12_1)] 24 (0, 0)) (by (with_reducible repeat (first | refine blk_drewN ?_ _ | refine blk_drew ?_ | refine blk_alloc ?_ _)); refine blk_put (cs := #[.int .i64 (rd [a0_0, a1_0] x12_1), .int .i64 0]) ?_ 1 _ rfl; (with_reducible repeat (first | refine blk_drewN ?_ _ | refine blk_drew ?_ | refine blk_alloc ?_ _)); refine blk_put (cs := #[.int .i64 0, .int .i64 0]) ?_ 0 _ rfl; (with_reducible repeat (first | refine blk_drewN ?_ _ | refine blk_drew ?_ | refine blk_alloc ?_ _)); exact BK254.out) hb); have n3_ := Aside0.mk (below_step (by repeat (first | (with_reducible first | exact HB.out | apply below_alloc | apply pw_below_drewN | apply below_drew1 | refine below_set ?_ GE252.out | refine below_set ?_ GE253.out | refine below_set ?_ GE254.out) | exact HB.out)) hb); clear BK252; clear BK253; clear BK254; clear HB; have BK252 := n0_; have BK253 := n1_; have BK254 := n2_; have HB := n3_; clear n0_ n1_ n2_ n3_; (try clear hb); (try clear hb2); (try clear hk); (try clear hi)))
            go_ret2
            exact ⟨by first | rfl | (simp [errW_none, errW_some] <;> rfl) | (simp [*, errW_none, errW_some] <;> rfl), by repeat (first | (with_reducible first | exact HB.out | apply below_alloc | apply pw_below_drewN | apply below_drew1 | refine below_set ?_ GE252.out | refine below_set ?_ GE253.out | refine below_set ?_ GE254.out) | exact HB.out)⟩
        · rw [if_neg c9] at H
          exact absurd H (by simp)
      · rw [if_neg c8] at H
        have c8b0 : decide (x12_1 < 2) = false := decide_eq_false c8
        clear c8
        by_cases c23 : a0_1 < a1_0
        · rw [if_pos c23] at H
          have c23b0 : decide (a0_1 < a1_0) = true := decide_eq_true c23
          clear c23
          simp only [Option.some.injEq, Prod.mk.injEq] at H
          obtain ⟨rfl, rfl⟩ := H
          have hnb24 := NB252_253.out
          have hnc24 := NB253_252.out
          have hcz25_0 : wr.cell? ⟨gb252, 0, none⟩ = some (.int .i64 a0_0) := (blk_cell BK252.out 0).trans rfl
          have hcz25_1 : wr.cell? ⟨gb252, 1, none⟩ = some (.int .i64 a0_1) := (blk_cell BK252.out 1).trans rfl
          have hfz25_0 := blk_frozen BK252.out 0
          have hfz25_1 := blk_frozen BK252.out 1
          have hcz26_0 : wr.cell? ⟨gb253, 0, none⟩ = some (.int .i64 a1_0) := (blk_cell BK253.out 0).trans rfl
          have hcz26_1 : wr.cell? ⟨gb253, 1, none⟩ = some (.int .i64 a1_1) := (blk_cell BK253.out 1).trans rfl
          have hfz26_0 := blk_frozen BK253.out 0
          have hfz26_1 := blk_frozen BK253.out 1
          go_wp2
          go_ret2
          exact ⟨by first | rfl | (simp [errW_none, errW_some] <;> rfl) | (simp [*, errW_none, errW_some] <;> rfl), by repeat (first | (with_reducible first | exact HB.out | apply below_alloc | apply pw_below_drewN | apply below_drew1 | refine below_set ?_ GE252.out | refine below_set ?_ GE253.out) | exact HB.out)⟩
        · rw [if_neg c23] at H
          have c23b0 : decide (a0_1 < a1_0) = false := decide_eq_false c23
          clear c23
          by_cases c27 : a0_0 > a1_1
          · rw [if_pos c27] at H
            have c27b0 : decide (a1_1 < a0_0) = true := decide_eq_true c27
            clear c27
            simp only [Option.some.injEq, Prod.mk.injEq] at H
            obtain ⟨rfl, rfl⟩ := H
            have hnb28 := NB252_253.out
            have hnc28 := NB253_252.out
            have hcz29_0 : wr.cell? ⟨gb252, 0, none⟩ = some (.int .i64 a0_0) := (blk_cell BK252.out 0).trans rfl
            have hcz29_1 : wr.cell? ⟨gb252, 1, none⟩ = some (.int .i64 a0_1) := (blk_cell BK252.out 1).trans rfl
            have hfz29_0 := blk_frozen BK252.out 0
            have hfz29_1 := blk_frozen BK252.out 1
            have hcz30_0 : wr.cell? ⟨gb253, 0, none⟩ = some (.int .i64 a1_0) := (blk_cell BK253.out 0).trans rfl
            have hcz30_1 : wr.cell? ⟨gb253, 1, none⟩ = some (.int .i64 a1_1) := (blk_cell BK253.out 1).trans rfl
            have hfz30_0 := blk_frozen BK253.out 0
            have hfz30_1 := blk_frozen BK253.out 1
            go_wp2
            go_ret2
            exact ⟨by first | rfl | (simp [errW_none, errW_some] <;> rfl) | (simp [*, errW_none, errW_some] <;> rfl), by repeat (first | (with_reducible first | exact HB.out | apply below_alloc | apply pw_below_drewN | apply below_drew1 | refine below_set ?_ GE252.out | refine below_set ?_ GE253.out) | exact HB.out)⟩
          · rw [if_neg c27] at H
            have c27b0 : decide (a1_1 < a0_0) = false := decide_eq_false c27
            clear c27
            simp only [Option.some.injEq, Prod.mk.injEq] at H
            obtain ⟨rfl, rfl⟩ := H
            have hnb31 := NB252_253.out
            have hnc31 := NB253_252.out
            have hcz32_0 : wr.cell? ⟨gb252, 0, none⟩ = some (.int .i64 a0_0) := (blk_cell BK252.out 0).trans rfl
            have hcz32_1 : wr.cell? ⟨gb252, 1, none⟩ = some (.int .i64 a0_1) := (blk_cell BK252.out 1).trans rfl
            have hfz32_0 := blk_frozen BK252.out 0
            have hfz32_1 := blk_frozen BK252.out 1
            have hcz33_0 : wr.cell? ⟨gb253, 0, none⟩ = some (.int .i64 a1_0) := (blk_cell BK253.out 0).trans rfl
            have hcz33_1 : wr.cell? ⟨gb253, 1, none⟩ = some (.int .i64 a1_1) := (blk_cell BK253.out 1).trans rfl
            have hfz33_0 := blk_frozen BK253.out 0
            have hfz33_1 := blk_frozen BK253.out 1
            go_wp2
            go_ret2
            exact ⟨by first | rfl | (simp [errW_none, errW_some] <;> rfl) | (simp [*, errW_none, errW_some] <;> rfl), by repeat (first | (with_reducible first | exact HB.out | apply below_alloc | apply pw_below_drewN | apply below_drew1 | refine below_set ?_ GE252.out | refine below_set ?_ GE253.out) | exact HB.out)⟩
end Go.Proofs.Ytmahlfjnejbcnaa.PAll
end
section
namespace Go.Proofs.Ytmahlfjnejbcnaa.PAll
open Go.RowKit YtmahlfjnejbcnaaW.PrintWords YtmahlfjnejbcnaaW.PrintLast YtmahlfjnejbcnaaW.PrintMore More2
attribute [local go_sem] max2_int min2_int max_two min_two max_three min_three max_four min_four tdiv2e18_ tdiv1e18_ cellSS_  -- for this text's walks alone
def ephemerislaw2_has.f (a0_0 : Int) (a0_1 : Int) (a1 : Int) (a2 : Int) : Option (Bool) := if a0_0 ≤ a1 then (if a1 ≤ a0_1 then (some (decide ((wrap64 (a0_1 - a0_0)) ≤ a2))) else (some false)) else (some false)
theorem ephemerislaw2_has.calls (a0_0 : Int) (a0_1 : Int) (a1 : Int) (a2 : Int) (r : Bool) (w : World) (h : ephemerislaw2_has.f a0_0 a0_1 a1 a2 = some r) :
    Calls Try.prog 34 #[.agg #[.int .i64 a0_0, .int .i64 a0_1], .int .i64 a1, .int .i64 a2] w fun e w' => e = .returned (.bool r) ∧ Below w.heap.size w w' := by
  have hu24 := Try.underlying24
  have HB := Aside0.mk (Below.refl w.heap.size w)
  have H : (if a0_0 ≤ a1 then (if a1 ≤ a0_1 then (some (decide ((wrap64 (a0_1 - a0_0)) ≤ a2))) else (some false)) else (some false)) = some r := h
  clear h
  by_cases c4 : a0_0 ≤ a1
  · rw [if_pos c4] at H
    have c4b0 : decide (a0_0 ≤ a1) = true := decide_eq_true c4
    clear c4
    by_cases c5 : a1 ≤ a0_1
    · rw [if_pos c5] at H
      have c5b0 : decide (a1 ≤ a0_1) = true := decide_eq_true c5
      clear c5
      obtain rfl := Option.some.inj H
      simp only [Option.some.injEq, Prod.mk.injEq] at H
      obtain ⟨rfl⟩ := H
      go_enter Try.func34, Try.ntmps34
      go_wp2_with (first | ((with_reducible refine gate_dst (N := 3) rfl ?_); refine box_event ?hg (N := 3) ?hd (cs := #[.int .i64 a0_0, .int .i64 a0_1]) (t := 24) ?hr ?_; (case hd => rfl); (case hg => rfl); (case hr => first | (go_simp; done) | (go_simp; rfl)); intro gb256 hg w6 hbox hb; have n0_ := Aside0.mk (below_step (by repeat (first | (with_reducible first | exact HB.out | apply below_alloc | apply pw_below_drewN | apply below_drew1) | exact HB.out)) hb); have n1_ := Aside0.mk (hbox); have n2_ := Aside0.mk ((by rw [hg]; exact (below_size (by repeat (first | (with_reducible first | exact HB.out | apply below_alloc | apply pw_below_drewN | apply below_drew1) | exact HB.out))) : w.heap.size ≤ gb256)); have n3_ := Aside0.mk ((by rw [hg]; exact (below_size (by repeat (first | (with_reducible first | exact HB.out | apply below_alloc | apply pw_below_drewN | apply below_drew1) | exact HB.out))) : w.heap.size ≤ gb256)); clear HB; have HB := n0_; have BK256 := n1_; have GW256 := n2_; have GE256 := n3_; clear n0_ n1_ n2_ n3_; clear hb hbox hg; have hcz7_0 : w6.cell? ⟨gb256, 0, none⟩ = some (.int .i64 a0_0) := (blk_cell BK256.out 0).trans rfl; have hcz7_1 : w6.cell? ⟨gb256, 1, none⟩ = some (.int .i64 a0_1) := (blk_cell BK256.out 1).trans rfl; have hfz7_0 := blk_frozen BK256.out 0; have hfz7_1 := blk_frozen BK256.out 1))
      go_ret
      exact ⟨by first | rfl | (simp [errW_none, errW_some] <;> rfl) | (simp [*, errW_none, errW_some] <;> rfl), by repeat (first | (with_reducible first | exact HB.out | apply below_alloc | apply pw_below_drewN | apply below_drew1 | refine below_set ?_ GE256.out) | exact HB.out)⟩
    · rw [if_neg c5] at H
      have c5b0 : decide (a1 ≤ a0_1) = false := decide_eq_false c5
      clear c5
      obtain rfl := Option.some.inj H
      simp only [Option.some.injEq, Prod.mk.injEq] at H
      obtain ⟨rfl⟩ := H
      go_enter Try.func34, Try.ntmps34
      go_wp2_with (first | ((with_reducible refine gate_dst (N := 3) rfl ?_); refine box_event ?hg (N := 3) ?hd (cs := #[.int .i64 a0_0, .int .i64 a0_1]) (t := 24) ?hr ?_; (case hd => rfl); (case hg => rfl); (case hr => first | (go_simp; done) | (go_simp; rfl)); intro gb256 hg w8 hbox hb; have n0_ := Aside0.mk (below_step (by repeat (first | (with_reducible first | exact HB.out | apply below_alloc | apply pw_below_drewN | apply below_drew1) | exact HB.out)) hb); have n1_ := Aside0.mk (hbox); have n2_ := Aside0.mk ((by rw [hg]; exact (below_size (by repeat (first | (with_reducible first | exact HB.out | apply below_alloc | apply pw_below_drewN | apply below_drew1) | exact HB.out))) : w.heap.size ≤ gb256)); have n3_ := Aside0.mk ((by rw [hg]; exact (below_size (by repeat (first | (with_reducible first | exact HB.out | apply below_alloc | apply pw_below_drewN | apply below_drew1) | exact HB.out))) : w.heap.size ≤ gb256)); clear HB; have HB := n0_; have BK256 := n1_; have GW256 := n2_; have GE256 := n3_; clear n0_ n1_ n2_ n3_; clear hb hbox hg; have hcz9_0 : w8.cell? ⟨gb256, 0, none⟩ = some (.int .i64 a0_0) := (blk_cell BK256.out 0).trans rfl; have hcz9_1 : w8.cell? ⟨gb256, 1, none⟩ = some (.int .i64 a0_1) := (blk_cell BK256.out 1).trans rfl; have hfz9_0 := blk_frozen BK256.out 0; have hfz9_1 := blk_frozen BK256.out 1))
      go_ret
      exact ⟨by first | rfl | (simp [errW_none, errW_some] <;> rfl) | (simp [*, errW_none, errW_some] <;> rfl), by repeat (first | (with_reducible first | exact HB.out | apply below_alloc | apply pw_below_drewN | apply below_drew1 | refine below_set ?_ GE256.out) | exact HB.out)⟩
  · rw [if_neg c4] at H
    have c4b0 : decide (a0_0 ≤ a1) = false := decide_eq_false c4
    clear c4
    obtain rfl := Option.some.inj H
    simp only [Option.some.injEq, Prod.mk.injEq] at H
    obtain ⟨rfl⟩ := H
    go_enter Try.func34, Try.ntmps34
    go_wp2_with (first | ((with_reducible refine gate_dst (N := 3) rfl ?_); refine box_event ?hg (N := 3) ?hd (cs := #[.int .i64 a0_0, .int .i64 a0_1]) (t := 24) ?hr ?_; (case hd => rfl); (case hg => rfl); (case hr => first | (go_simp; done) | (go_simp; rfl)); intro gb256 hg w10 hbox hb; have n0_ := Aside0.mk (below_step (by repeat (first | (with_reducible first | exact HB.out | apply below_alloc | apply pw_below_drewN | apply below_drew1) | exact HB.out)) hb); have n1_ := Aside0.mk (hbox); have n2_ := Aside0.mk ((by rw [hg]; exact (below_size (by repeat (first | (with_reducible first | exact HB.out | apply below_alloc | apply pw_below_drewN | apply below_drew1) | exact HB.out))) : w.heap.size ≤ gb256)); have n3_ := Aside0.mk ((by rw [hg]; exact (below_size (by repeat (first | (with_reducible first | exact HB.out | apply below_alloc | apply pw_below_drewN | apply below_drew1) | exact HB.out))) : w.heap.size ≤ gb256)); clear HB; have HB := n0_; have BK256 := n1_; have GW256 := n2_; have GE256 := n3_; clear n0_ n1_ n2_ n3_; clear hb hbox hg; have hcz11_0 : w10.cell? ⟨gb256, 0, none⟩ = some (.int .i64 a0_0) := (blk_cell BK256.out 0).trans rfl; have hcz11_1 : w10.cell? ⟨gb256, 1, none⟩ = some (.int .i64 a0_1) := (blk_cell BK256.out 1).trans rfl; have hfz11_0 := blk_frozen BK256.out 0; have hfz11_1 := blk_frozen BK256.out 1))
    go_ret
    exact ⟨by first | rfl | (simp [errW_none, errW_some] <;> rfl) | (simp [*, errW_none, errW_some] <;> rfl), by repeat (first | (with_reducible first | exact HB.out | apply below_alloc | apply pw_below_drewN | apply below_drew1 | refine below_set ?_ GE256.out) | exact HB.out)⟩
end Go.Proofs.Ytmahlfjnejbcnaa.PAll
end
section
namespace Go.Proofs.Ytmahlfjnejbcnaa.PAll
open Go.RowKit YtmahlfjnejbcnaaW.PrintWords YtmahlfjnejbcnaaW.PrintLast YtmahlfjnejbcnaaW.PrintMore More2
attribute [local go_sem] max2_int min2_int max_two min_two max_three min_three max_four min_four tdiv2e18_ tdiv1e18_ cellSS_  -- for this text's walks alone
def ephemerislaw2_sharpenWorks.f (k : Nat)  : Option (Bool) := (sharpen_Season.f k 0 2000 500000).bind fun bt257 => ((sharpen_Earlier.f k 1 2 3 4).bind fun bt261 => (if bt257.2.2 = 0 then ((ephemerislaw2_has.f bt257.1 bt257.2.1 63089219834394 500000).bind fun t263 => (if t263 = true then (if bt261.2 = 0 then (some (bt261.1 == (-1))) else (some false)) else (some false))) else (some false)))
theorem ephemerislaw2_sharpenWorks.mono : ∀ k, LeO (ephemerislaw2_sharpenWorks.f k ) (ephemerislaw2_sharpenWorks.f (k + 1) ) := by
  intro  k
  unfold ephemerislaw2_sharpenWorks.f
  repeat' first
      | (with_reducible exact sharpen_Earlier.mono _ _ _ _ _)
      | (with_reducible exact sharpen_Season.mono _ _ _ _)
      | (with_reducible exact LeO.refl _)
      | (with_reducible exact LeO.none _)
      | (with_reducible refine LeO.ite ?_ ?_)
      | (with_reducible refine LeO.bind ?_ (fun _ => ?_))
      | exact sharpen_Earlier.mono _ _ _ _ _
      | exact sharpen_Season.mono _ _ _ _
      | exact LeO.none _
      | refine LeO.ite ?_ ?_
      | refine LeO.bind ?_ (fun _ => ?_)
theorem ephemerislaw2_sharpenWorks.calls (k : Nat)  (r : Bool) (w : World) (h : ephemerislaw2_sharpenWorks.f k  = some r) (hT : r = true) :
    Calls Try.prog 10 #[] w fun e w' => e = .returned (.bool r) ∧ Below w.heap.size w w' := by
  have hu24 := Try.underlying24
  have HB := Aside0.mk (Below.refl w.heap.size w)
  have H : ((sharpen_Season.f k 0 2000 500000).bind fun bt257 => ((sharpen_Earlier.f k 1 2 3 4).bind fun bt261 => (if bt257.2.2 = 0 then ((ephemerislaw2_has.f bt257.1 bt257.2.1 63089219834394 500000).bind fun t263 => (if t263 = true then (if bt261.2 = 0 then (some (bt261.1 == (-1))) else (some false)) else (some false))) else (some false)))) = some r := h
  clear h
  replace H := Option.bind_eq_some_iff.mp H
  obtain ⟨⟨t257, t258, t259⟩, A10, H⟩ := H
  replace H : ((sharpen_Earlier.f k 1 2 3 4).bind fun bt261 => (if t259 = 0 then ((ephemerislaw2_has.f t257 t258 63089219834394 500000).bind fun t263 => (if t263 = true then (if bt261.2 = 0 then (some (bt261.1 == (-1))) else (some false)) else (some false))) else (some false))) = some r := H
  have A1 := Aside0.mk A10
  clear A10
  replace H := Option.bind_eq_some_iff.mp H
  obtain ⟨⟨t261, t262⟩, A20, H⟩ := H
  replace H : (if t259 = 0 then ((ephemerislaw2_has.f t257 t258 63089219834394 500000).bind fun t263 => (if t263 = true then (if t262 = 0 then (some (t261 == (-1))) else (some false)) else (some false))) else (some false)) = some r := H
  have A2 := Aside0.mk A20
  clear A20
  by_cases c3 : t259 = 0
  · rw [if_pos c3] at H
    have c3b0 : (t259 == 0) = true := beq_iff_eq.mpr c3
    have c3b1 : (t259 != 0) = false := bne_eq_false_iff_eq.mpr c3
    clear c3
    replace H := Option.bind_eq_some_iff.mp H
    obtain ⟨t263, A40, H⟩ := H
    replace H : (if t263 = true then (if t262 = 0 then (some (t261 == (-1))) else (some false)) else (some false)) = some r := H
    have A4 := Aside0.mk A40
    clear A40
    by_cases c5 : t263 = true
    · subst c5
      have H1 : (if t262 = 0 then (some (t261 == (-1))) else (some false)) = some r := by rw [if_pos rfl] at H; exact H
      clear H
      have H := H1
      clear H1
      by_cases c6 : t262 = 0
      · rw [if_pos c6] at H
        have c6b0 : (t262 == 0) = true := beq_iff_eq.mpr c6
        have c6b1 : (t262 != 0) = false := bne_eq_false_iff_eq.mpr c6
        clear c6
        obtain rfl := Option.some.inj H
        simp only [Option.some.injEq, Prod.mk.injEq] at H
        obtain ⟨rfl⟩ := H
        go_enter Try.func10, Try.ntmps10
        go_wp2_with (first | ((with_reducible refine gate_callee (f := 11) rfl ?_); refine goesL_ (some 6) rfl rfl Try.func11 (by kernel_rfl) rfl #[.int .i64 0, .int .i64 2000, .int .i64 500000] rfl (by (try simp only [List.map_toArray, List.map_cons, List.map_nil]); first | done | rfl | (simp only [List.length_drop, List.length_take]; rfl)) ?_; (with_reducible refine (sharpen_Season.calls k 0 2000 500000 t257 t258 t259 _ A1.out).mono ?_); rintro e w7 ⟨rfl, hb⟩; refine ⟨_, rfl, ?_⟩; have n0_ := Aside0.mk (below_step (by repeat (first | (with_reducible first | exact HB.out | apply below_alloc | apply pw_below_drewN | apply below_drew1) | exact HB.out)) hb); clear HB; have HB := n0_; clear n0_; (try clear hb); (try clear hb2); (try clear hk); (try clear hi)) | ((with_reducible refine gate_dst (N := 1) rfl ?_); refine box_event ?hg (N := 1) ?hd (cs := #[.int .i64 0, .int .i64 0]) (t := 24) ?hr ?_; (case hd => rfl); (case hg => rfl); (case hr => first | (go_simp; done) | (go_simp; rfl)); intro gb260 hg w8 hbox hb; have n0_ := Aside0.mk (below_step (by repeat (first | (with_reducible first | exact HB.out | apply below_alloc | apply pw_below_drewN | apply below_drew1) | exact HB.out)) hb); have n1_ := Aside0.mk (hbox); have n2_ := Aside0.mk ((by rw [hg]; exact (below_size (by repeat (first | (with_reducible first | exact HB.out | apply below_alloc | apply pw_below_drewN | apply below_drew1) | exact HB.out))) : w.heap.size ≤ gb260)); have n3_ := Aside0.mk ((by rw [hg]; exact (below_size (by repeat (first | (with_reducible first | exact HB.out | apply below_alloc | apply pw_below_drewN | apply below_drew1) | exact HB.out))) : w.heap.size ≤ gb260)); clear HB; have HB := n0_; have BK260 := n1_; have GW260 := n2_; have GE260 := n3_; clear n0_ n1_ n2_ n3_; clear hb hbox hg; have hcz9_0 : w8.cell? ⟨gb260, 0, none⟩ = some (.int .i64 0) := (blk_cell BK260.out 0).trans rfl; have hcz9_1 : w8.cell? ⟨gb260, 1, none⟩ = some (.int .i64 0) := (blk_cell BK260.out 1).trans rfl; have hfz9_0 := blk_frozen BK260.out 0; have hfz9_1 := blk_frozen BK260.out 1) | ((with_reducible refine gate_callee (f := 33) rfl ?_); refine goesL_ (some 12) rfl rfl Try.func33 (by kernel_rfl) rfl #[.agg #[.int .i64 1, .int .i64 2], .agg #[.int .i64 3, .int .i64 4]] rfl (by (try simp only [List.map_toArray, List.map_cons, List.map_nil]); first | done | rfl | (simp only [List.length_drop, List.length_take]; rfl)) ?_; (with_reducible refine (sharpen_Earlier.calls k 1 2 3 4 t261 t262 _ A2.out).mono ?_); rintro e w10 ⟨rfl, hb⟩; refine ⟨_, rfl, ?_⟩; have n0_ := Aside0.mk (blk_below (g := gb260) (o := .cells #[.int .i64 t257, .int .i64 t258] 24 (0, 0)) (by (with_reducible repeat (first | refine blk_drewN ?_ _ | refine blk_drew ?_ | refine blk_alloc ?_ _)); refine blk_put (cs := #[.int .i64 t257, .int .i64 0]) ?_ 1 _ rfl; (with_reducible repeat (first | refine blk_drewN ?_ _ | refine blk_drew ?_ | refine blk_alloc ?_ _)); refine blk_put (cs := #[.int .i64 0, .int .i64 0]) ?_ 0 _ rfl; (with_reducible repeat (first | refine blk_drewN ?_ _ | refine blk_drew ?_ | refine blk_alloc ?_ _)); exact BK260.out) hb); have n1_ := Aside0.mk (below_step (by repeat (first | (with_reducible first | exact HB.out | apply below_alloc | apply pw_below_drewN | apply below_drew1 | refine below_set ?_ GE260.out) | exact HB.out)) hb); clear BK260; clear HB; have BK260 := n0_; have HB := n1_; clear n0_ n1_; (try clear hb); (try clear hb2); (try clear hk); (try clear hi); have hcz11_0 : w10.cell? ⟨gb260, 0, none⟩ = some (.int .i64 t257) := (blk_cell BK260.out 0).trans rfl; have hcz11_1 : w10.cell? ⟨gb260, 1, none⟩ = some (.int .i64 t258) := (blk_cell BK260.out 1).trans rfl; have hfz11_0 := blk_frozen BK260.out 0; have hfz11_1 := blk_frozen BK260.out 1) | (go_at_call 34; (with_reducible refine (ephemerislaw2_has.calls t257 t258 63089219834394 500000 true _ A4.out).mono ?_); rintro e w12 ⟨rfl, hb⟩; have n0_ := Aside0.mk (blk_below (g := gb260) (o := .cells #[.int .i64 t257, .int .i64 t258] 24 (0, 0)) (by (with_reducible repeat (first | refine blk_drewN ?_ _ | refine blk_drew ?_ | refine blk_alloc ?_ _)); exact BK260.out) hb); have n1_ := Aside0.mk (below_step (by repeat (first | (with_reducible first | exact HB.out | apply below_alloc | apply pw_below_drewN | apply below_drew1 | refine below_set ?_ GE260.out) | exact HB.out)) hb); clear BK260; clear HB; have BK260 := n0_; have HB := n1_; clear n0_ n1_; (try clear hb); (try clear hb2); (try clear hk); (try clear hi)))
        go_ret
        exact ⟨by first | rfl | (simp [errW_none, errW_some] <;> rfl) | (simp [*, errW_none, errW_some] <;> rfl), by repeat (first | (with_reducible first | exact HB.out | apply below_alloc | apply pw_below_drewN | apply below_drew1 | refine below_set ?_ GE260.out) | exact HB.out)⟩
      · rw [if_neg c6] at H
        have c6b0 : (t262 == 0) = false := beq_eq_false_iff_ne.mpr c6
        have c6b1 : (t262 != 0) = true := bne_iff_ne.mpr c6
        obtain rfl := Option.some.inj H
        exact absurd hT (by decide)
    · replace c5 := Bool.eq_false_iff.mpr c5
      subst c5
      have H1 : (some false) = some r := by rw [if_neg (show ¬ (false = true) by decide)] at H; exact H
      clear H
      have H := H1
      clear H1
      obtain rfl := Option.some.inj H
      exact absurd hT (by decide)
  · rw [if_neg c3] at H
    have c3b0 : (t259 == 0) = false := beq_eq_false_iff_ne.mpr c3
    have c3b1 : (t259 != 0) = true := bne_iff_ne.mpr c3
    obtain rfl := Option.some.inj H
    exact absurd hT (by decide)
end Go.Proofs.Ytmahlfjnejbcnaa.PAll
end
section
namespace Go.Proofs.Ytmahlfjnejbcnaa.PAll
open Go.RowKit YtmahlfjnejbcnaaW.PrintWords YtmahlfjnejbcnaaW.PrintLast YtmahlfjnejbcnaaW.PrintMore More2
attribute [local go_sem] max2_int min2_int max_two min_two max_three min_three max_four min_four tdiv2e18_ tdiv1e18_ cellSS_  -- for this text's walks alone
def moon_Series.f  : Option (Int × Int × (List (S71)) × Int) := some (392048814, 36601101305556, (([(⟨17468817, 99384016, 36291647083333⟩ : S71), (⟨3538964, 134030564, 31434736861111⟩ : S71), (⟨1828650, 233414580, 67726383944444⟩ : S71), (⟨593383, 198768032, 72583294166666⟩ : S71), (⟨(-514211), 84888545, 2737778555556⟩ : S71), (⟨(-317589), 297001062, 73496390222222⟩ : S71)] : List (S71))), 20000)
theorem moon_Series.calls  (r1 : Int) (r2 : Int) (r3 : List (S71)) (r4 : Int) (w : World) (h : moon_Series.f  = some (r1, r2, r3, r4)) :
    Calls Try.prog 73 #[] w fun e w' => ∃ v2_ : Value, e = .returned (.agg #[.int .i64 r1, .int .i64 r2, v2_, .int .i64 r4]) ∧ Kd.R k71 71 w' w.heap.size (fun _ => True) v2_ r3 ∧ Below w.heap.size w w' := by
  have hu57 := Try.underlying57
  have hu71 := Try.underlying71
  have HB := Aside0.mk (Below.refl w.heap.size w)
  have H : (some (392048814, 36601101305556, (([(⟨17468817, 99384016, 36291647083333⟩ : S71), (⟨3538964, 134030564, 31434736861111⟩ : S71), (⟨1828650, 233414580, 67726383944444⟩ : S71), (⟨593383, 198768032, 72583294166666⟩ : S71), (⟨(-514211), 84888545, 2737778555556⟩ : S71), (⟨(-317589), 297001062, 73496390222222⟩ : S71)] : List (S71))), 20000)) = some (r1, r2, r3, r4) := h
  clear h
  obtain ⟨y317, hy317⟩ : ∃ y_ : List (S71), y_ = (([(⟨17468817, 99384016, 36291647083333⟩ : S71), (⟨3538964, 134030564, 31434736861111⟩ : S71), (⟨1828650, 233414580, 67726383944444⟩ : S71), (⟨593383, 198768032, 72583294166666⟩ : S71), (⟨(-514211), 84888545, 2737778555556⟩ : S71), (⟨(-317589), 297001062, 73496390222222⟩ : S71)] : List (S71))) := ⟨_, rfl⟩
  replace H : (some (392048814, 36601101305556, y317, 20000)) = some (r1, r2, r3, r4) := by first | (rw [hy317]; with_reducible exact H) | (have H2_ := (Option.bind_some _ _).symm.trans H; rw [hy317]; with_reducible exact H2_) | (have H2_ := (Option.bind_some _ _).symm.trans H; with_reducible exact H2_) | with_reducible exact H | (rw [hy317]; exact H) | exact H
  have Ny317 := Aside0.mk hy317
  clear hy317
  simp only [Option.some.injEq, Prod.mk.injEq] at H
  obtain ⟨rfl, rfl, rfl, rfl⟩ := H
  go_enter Try.func73, Try.ntmps73
  go_wp2_with (first | ((with_reducible refine gate_dst (N := 0) rfl ?_); refine box_event ?hg (N := 0) ?hd (cs := #[.int .i64 0, .int .i64 0, .slice none 0 0, .int .i64 0]) (t := 57) ?hr ?_; (case hd => rfl); (case hg => rfl); (case hr => first | (go_simp; done) | (go_simp; rfl)); intro gb316 hg w1 hbox hb; have n0_ := Aside0.mk (below_step (by repeat (first | (with_reducible first | exact HB.out | apply below_alloc | apply pw_below_drewN | apply below_drew1) | exact HB.out)) hb); have n1_ := Aside0.mk (hbox); have n2_ := Aside0.mk ((by rw [hg]; exact (below_size (by repeat (first | (with_reducible first | exact HB.out | apply below_alloc | apply pw_below_drewN | apply below_drew1) | exact HB.out))) : w.heap.size ≤ gb316)); have n3_ := Aside0.mk ((by rw [hg]; exact (below_size (by repeat (first | (with_reducible first | exact HB.out | apply below_alloc | apply pw_below_drewN | apply below_drew1) | exact HB.out))) : w.heap.size ≤ gb316)); clear HB; have HB := n0_; have BK316 := n1_; have GW316 := n2_; have GE316 := n3_; clear n0_ n1_ n2_ n3_; clear hb hbox hg) | ((with_reducible refine gate_dst (N := 7) rfl ?_); refine Kd.R_lit k71 _ 71 ?hg (N := 7) ?hd (xs := ([(⟨17468817, 99384016, 36291647083333⟩ : S71), (⟨3538964, 134030564, 31434736861111⟩ : S71), (⟨1828650, 233414580, 67726383944444⟩ : S71), (⟨593383, 198768032, 72583294166666⟩ : S71), (⟨(-514211), 84888545, 2737778555556⟩ : S71), (⟨(-317589), 297001062, 73496390222222⟩ : S71)] : List (S71))) (inner := [.int .i64 17468817, .int .i64 99384016, .int .i64 36291647083333, .int .i64 3538964, .int .i64 134030564, .int .i64 31434736861111, .int .i64 1828650, .int .i64 233414580, .int .i64 67726383944444, .int .i64 593383, .int .i64 198768032, .int .i64 72583294166666, .int .i64 (-514211), .int .i64 84888545, .int .i64 2737778555556, .int .i64 (-317589), .int .i64 297001062, .int .i64 73496390222222]) (ok := fun _ => True) (okp := fun _ => True) ?hr ?hp (fun _ hk => hk) trivial (Below.refl _ _) (Nat.le_refl _) (by simp) ?_; (case hd => rfl); (case hg => rfl); (case hr => first | (go_simp; done) | (go_simp; rfl)); (case hp => exact (Reps.c3 (show Kd.M k71 _ _ _ (⟨17468817, 99384016, 36291647083333⟩ : S71) [.int .i64 17468817, .int .i64 99384016, .int .i64 36291647083333] from (k71_mkM _ _ _ (⟨17468817, 99384016, 36291647083333⟩ : S71) )) (Reps.c3 (show Kd.M k71 _ _ _ (⟨3538964, 134030564, 31434736861111⟩ : S71) [.int .i64 3538964, .int .i64 134030564, .int .i64 31434736861111] from (k71_mkM _ _ _ (⟨3538964, 134030564, 31434736861111⟩ : S71) )) (Reps.c3 (show Kd.M k71 _ _ _ (⟨1828650, 233414580, 67726383944444⟩ : S71) [.int .i64 1828650, .int .i64 233414580, .int .i64 67726383944444] from (k71_mkM _ _ _ (⟨1828650, 233414580, 67726383944444⟩ : S71) )) (Reps.c3 (show Kd.M k71 _ _ _ (⟨593383, 198768032, 72583294166666⟩ : S71) [.int .i64 593383, .int .i64 198768032, .int .i64 72583294166666] from (k71_mkM _ _ _ (⟨593383, 198768032, 72583294166666⟩ : S71) )) (Reps.c3 (show Kd.M k71 _ _ _ (⟨(-514211), 84888545, 2737778555556⟩ : S71) [.int .i64 (-514211), .int .i64 84888545, .int .i64 2737778555556] from (k71_mkM _ _ _ (⟨(-514211), 84888545, 2737778555556⟩ : S71) )) (Reps.c3 (show Kd.M k71 _ _ _ (⟨(-317589), 297001062, 73496390222222⟩ : S71) [.int .i64 (-317589), .int .i64 297001062, .int .i64 73496390222222] from (k71_mkM _ _ _ (⟨(-317589), 297001062, 73496390222222⟩ : S71) )) (Reps.none _ _)))))))); intro v318 w2 ho3 hb hg_ hnew_; clear hg_ hnew_; (first | rw [← Ny317.out] at ho3 | (simp only [Int.reduceToNat] at ho3; rw [← Ny317.out] at ho3)); have n0_ := Aside0.mk (Kd.R_lower ho3 (below_size (by repeat (first | (with_reducible first | exact HB.out | apply below_alloc | apply pw_below_drewN | apply below_drew1 | refine below_set ?_ GE316.out) | exact HB.out)))); have n1_ := Aside0.mk (blk_below (g := gb316) (o := .cells #[.int .i64 0, .int .i64 0, .slice none 0 0, .int .i64 0] 57 (0, 0)) (by (with_reducible repeat (first | refine blk_drewN ?_ _ | refine blk_drew ?_ | refine blk_alloc ?_ _)); exact BK316.out) hb); have n2_ := Aside0.mk (below_step (by repeat (first | (with_reducible first | exact HB.out | apply below_alloc | apply pw_below_drewN | apply below_drew1 | refine below_set ?_ GE316.out) | exact HB.out)) hb); clear BK316; clear HB; have HO319 := n0_; have BK316 := n1_; have HB := n2_; clear n0_ n1_ n2_; clear hb ho3; obtain ⟨Ao4, co4, eo4⟩ := Kd.R_slice HO319.out; subst eo4; have hcz5_0 : w2.cell? ⟨gb316, 0, none⟩ = some (.int .i64 0) := (blk_cell BK316.out 0).trans rfl; have hcz5_1 : w2.cell? ⟨gb316, 1, none⟩ = some (.int .i64 0) := (blk_cell BK316.out 1).trans rfl; have hcz5_2 : w2.cell? ⟨gb316, 2, none⟩ = some (.slice none 0 0) := (blk_cell BK316.out 2).trans rfl; have hcz5_3 : w2.cell? ⟨gb316, 3, none⟩ = some (.int .i64 0) := (blk_cell BK316.out 3).trans rfl; have hfz5_0 := blk_frozen BK316.out 0; have hfz5_1 := blk_frozen BK316.out 1; have hfz5_2 := blk_frozen BK316.out 2; have hfz5_3 := blk_frozen BK316.out 3))
  refine bodyPost_ret (results_cell_row rfl _ _ gb316 57 #[.int .i64 392048814, .int .i64 36601101305556, .slice Ao4 y317.length co4, .int .i64 20000] (0, 0) _ rfl (by (with_reducible repeat (first | refine blk_drewN ?_ _ | refine blk_drew ?_ | refine blk_alloc ?_ _)); refine blk_put (cs := #[.int .i64 392048814, .int .i64 36601101305556, .slice Ao4 y317.length co4, .int .i64 0]) ?_ 3 _ rfl; (with_reducible repeat (first | refine blk_drewN ?_ _ | refine blk_drew ?_ | refine blk_alloc ?_ _)); refine blk_put (cs := #[.int .i64 392048814, .int .i64 36601101305556, .slice none 0 0, .int .i64 0]) ?_ 2 _ rfl; (with_reducible repeat (first | refine blk_drewN ?_ _ | refine blk_drew ?_ | refine blk_alloc ?_ _)); refine blk_put (cs := #[.int .i64 392048814, .int .i64 0, .slice none 0 0, .int .i64 0]) ?_ 1 _ rfl; (with_reducible repeat (first | refine blk_drewN ?_ _ | refine blk_drew ?_ | refine blk_alloc ?_ _)); refine blk_put (cs := #[.int .i64 0, .int .i64 0, .slice none 0 0, .int .i64 0]) ?_ 0 _ rfl; (with_reducible repeat (first | refine blk_drewN ?_ _ | refine blk_drew ?_ | refine blk_alloc ?_ _)); exact BK316.out) Try.underlying57 rfl (by kernel_rfl)) rfl ?_
  exact ⟨_, by first | rfl | (simp [errW_none, errW_some] <;> rfl) | (simp [*, errW_none, errW_some] <;> rfl), by (with_reducible repeat (first | apply Kd.R_alloc | apply Kd.R_drewN | apply Kd.R_drew)); exact Kd.R_mono (Kd.R_far (p := ⟨gb316, 3, none⟩) (Kd.R_far (p := ⟨gb316, 2, none⟩) (Kd.R_far (p := ⟨gb316, 1, none⟩) (Kd.R_far (p := ⟨gb316, 0, none⟩) (Kd.R_types HO319.out BK316.out (by decide)) (fun _ hk => hk.2) (.int .i64 392048814)) (fun _ hk => hk.2) (.int .i64 36601101305556)) (fun _ hk => hk.2) (.slice Ao4 y317.length co4)) (fun _ hk => hk.2) (.int .i64 20000)) (fun _ hk => trivial), by repeat (first | (with_reducible first | exact HB.out | apply below_alloc | apply pw_below_drewN | apply below_drew1 | refine below_set ?_ GE316.out) | exact HB.out)⟩
end Go.Proofs.Ytmahlfjnejbcnaa.PAll
end
section
namespace Go.Proofs.Ytmahlfjnejbcnaa.PAll
open Go.RowKit YtmahlfjnejbcnaaW.PrintWords YtmahlfjnejbcnaaW.PrintLast YtmahlfjnejbcnaaW.PrintMore More2
attribute [local go_sem] max2_int min2_int max_two min_two max_three min_three max_four min_four tdiv2e18_ tdiv1e18_ cellSS_  -- for this text's walks alone
def moon_Longitude.f (k : Nat) (a0 : Int) : Option (Int × Int × Int) := (moon_Series.f).bind fun bt321 => ((series_Angle.f k bt321.1 bt321.2.1 bt321.2.2.1 bt321.2.2.2 a0).bind fun bt327 => (some (bt327.1, bt327.2.1, bt327.2.2)))
theorem moon_Longitude.calls (k : Nat) (a0 : Int) (r1 : Int) (r2 : Int) (r3 : Int) (w : World) (h : moon_Longitude.f k a0 = some (r1, r2, r3)) :
    Calls Try.prog 55 #[.int .i64 a0] w fun e w' => e = .returned (.tuple #[.agg #[.int .i64 r1, .int .i64 r2], .int .i64 r3]) ∧ Below w.heap.size w w' := by
  have hu24 := Try.underlying24
  have HB := Aside0.mk (Below.refl w.heap.size w)
  have H : ((moon_Series.f).bind fun bt321 => ((series_Angle.f k bt321.1 bt321.2.1 bt321.2.2.1 bt321.2.2.2 a0).bind fun bt327 => (some (bt327.1, bt327.2.1, bt327.2.2)))) = some (r1, r2, r3) := h
  clear h
  replace H := Option.bind_eq_some_iff.mp H
  obtain ⟨⟨t321, t322, t323, t326⟩, A20, H⟩ := H
  replace H : ((series_Angle.f k t321 t322 t323 t326 a0).bind fun bt327 => (some (bt327.1, bt327.2.1, bt327.2.2))) = some (r1, r2, r3) := H
  have A2 := Aside0.mk A20
  clear A20
  replace H := Option.bind_eq_some_iff.mp H
  obtain ⟨⟨t327, t328, t329⟩, A30, H⟩ := H
  replace H : (some (t327, t328, t329)) = some (r1, r2, r3) := H
  have A3 := Aside0.mk A30
  clear A30
  simp only [Option.some.injEq, Prod.mk.injEq] at H
  obtain ⟨rfl, rfl, rfl⟩ := H
  go_enter Try.func55, Try.ntmps55
  go_wp2_with (first | ((with_reducible refine gate_dst (N := 2) rfl ?_); refine box_event ?hg (N := 2) ?hd (cs := #[.int .i64 0, .int .i64 0]) (t := 24) ?hr ?_; (case hd => rfl); (case hg => rfl); (case hr => first | (go_simp; done) | (go_simp; rfl)); intro gb320 hg w4 hbox hb; have n0_ := Aside0.mk (below_step (by repeat (first | (with_reducible first | exact HB.out | apply below_alloc | apply pw_below_drewN | apply below_drew1) | exact HB.out)) hb); have n1_ := Aside0.mk (hbox); have n2_ := Aside0.mk ((by rw [hg]; exact (below_size (by repeat (first | (with_reducible first | exact HB.out | apply below_alloc | apply pw_below_drewN | apply below_drew1) | exact HB.out))) : w.heap.size ≤ gb320)); have n3_ := Aside0.mk ((by rw [hg]; exact (below_size (by repeat (first | (with_reducible first | exact HB.out | apply below_alloc | apply pw_below_drewN | apply below_drew1) | exact HB.out))) : w.heap.size ≤ gb320)); clear HB; have HB := n0_; have BK320 := n1_; have GW320 := n2_; have GE320 := n3_; clear n0_ n1_ n2_ n3_; clear hb hbox hg) | ((with_reducible refine gate_callee (f := 73) rfl ?_); refine goesL_ (some 4) rfl rfl Try.func73 (by kernel_rfl) rfl #[] rfl (by (try simp only [List.map_toArray, List.map_cons, List.map_nil]); first | done | rfl | (simp only [List.length_drop, List.length_take]; rfl)) ?_; (with_reducible refine (moon_Series.calls  t321 t322 t323 t326 _ A2.out).mono ?_); rintro e w5 ⟨v324, rfl, ho0, hb⟩; refine ⟨_, rfl, ?_⟩; have n0_ := Aside0.mk (Kd.R_lower ho0 (below_size (by repeat (first | (with_reducible first | exact HB.out | apply below_alloc | apply pw_below_drewN | apply below_drew1 | refine below_set ?_ GE320.out) | exact HB.out)))); have n1_ := Aside0.mk (blk_below (g := gb320) (o := .cells #[.int .i64 0, .int .i64 0] 24 (0, 0)) (by (with_reducible repeat (first | refine blk_drewN ?_ _ | refine blk_drew ?_ | refine blk_alloc ?_ _)); exact BK320.out) hb); have n2_ := Aside0.mk (below_step (by repeat (first | (with_reducible first | exact HB.out | apply below_alloc | apply pw_below_drewN | apply below_drew1 | refine below_set ?_ GE320.out) | exact HB.out)) hb); clear BK320; clear HB; have HO325 := n0_; have BK320 := n1_; have HB := n2_; clear n0_ n1_ n2_; (try clear hb); (try clear hb2); (try clear hk); (try clear hi); (try clear ho0); obtain ⟨Ao6, co6, eo6⟩ := Kd.R_slice HO325.out; subst eo6) | ((with_reducible refine gate_callee (f := 66) rfl ?_); refine goesL_ (some 6) rfl rfl Try.func66 (by kernel_rfl) rfl #[.agg #[.int .i64 t321, .int .i64 t322, .slice Ao6 t323.length co6, .int .i64 t326], .int .i64 a0] rfl (by (try simp only [List.map_toArray, List.map_cons, List.map_nil]); first | done | rfl | (simp only [List.length_drop, List.length_take]; rfl)) ?_; (with_reducible refine (series_Angle.calls k t321 t322 _ _ t323 t326 a0 t327 t328 t329 _ ?side1 ?side2 A3.out).mono ?_); (case side1 => repeat (first | exact (Kd.R_reads' HO325.out).2.2 | (with_reducible refine Kd.C_alloc ?_ _) | (with_reducible refine Kd.C_drewN ?_ _) | (with_reducible refine Kd.C_drew ?_))); (case side2 => exact (Kd.R_reads' HO325.out).2.1); rintro e w7 ⟨rfl, hb⟩; refine ⟨_, rfl, ?_⟩; have n0_ := Aside0.mk (Kd.R_below (by (with_reducible repeat (first | apply Kd.R_alloc | apply Kd.R_drewN | apply Kd.R_drew)); exact HO325.out) hb); have n1_ := Aside0.mk (blk_below (g := gb320) (o := .cells #[.int .i64 0, .int .i64 0] 24 (0, 0)) (by (with_reducible repeat (first | refine blk_drewN ?_ _ | refine blk_drew ?_ | refine blk_alloc ?_ _)); exact BK320.out) hb); have n2_ := Aside0.mk (below_step (by repeat (first | (with_reducible first | exact HB.out | apply below_alloc | apply pw_below_drewN | apply below_drew1 | refine below_set ?_ GE320.out) | exact HB.out)) hb); clear HO325; clear BK320; clear HB; have HO325 := n0_; have BK320 := n1_; have HB := n2_; clear n0_ n1_ n2_; (try clear hb); (try clear hb2); (try clear hk); (try clear hi); have hcz8_0 : w7.cell? ⟨gb320, 0, none⟩ = some (.int .i64 0) := (blk_cell BK320.out 0).trans rfl; have hcz8_1 : w7.cell? ⟨gb320, 1, none⟩ = some (.int .i64 0) := (blk_cell BK320.out 1).trans rfl; have hfz8_0 := blk_frozen BK320.out 0; have hfz8_1 := blk_frozen BK320.out 1))
  refine bodyPost_ret (results_ct rfl _ _ gb320 24 #[.int .i64 t327, .int .i64 t328] (0, 0) _ rfl (by (with_reducible repeat (first | refine blk_drewN ?_ _ | refine blk_drew ?_ | refine blk_alloc ?_ _)); refine blk_put (cs := #[.int .i64 t327, .int .i64 0]) ?_ 1 _ rfl; (with_reducible repeat (first | refine blk_drewN ?_ _ | refine blk_drew ?_ | refine blk_alloc ?_ _)); refine blk_put (cs := #[.int .i64 0, .int .i64 0]) ?_ 0 _ rfl; (with_reducible repeat (first | refine blk_drewN ?_ _ | refine blk_drew ?_ | refine blk_alloc ?_ _)); exact BK320.out) Try.underlying24 rfl (by kernel_rfl)) rfl ?_
  exact ⟨by first | rfl | (simp [errW_none, errW_some] <;> rfl) | (simp [*, errW_none, errW_some] <;> rfl), by repeat (first | (with_reducible first | exact HB.out | apply below_alloc | apply pw_below_drewN | apply below_drew1 | refine below_set ?_ GE320.out) | exact HB.out)⟩
end Go.Proofs.Ytmahlfjnejbcnaa.PAll
end
