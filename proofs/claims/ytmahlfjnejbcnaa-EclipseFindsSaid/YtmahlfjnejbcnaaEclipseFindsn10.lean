/- Written by a program of this session: what one law needs. -/
import Derived.Test.YtmahlfjnejbcnaaEclipseFindsn9
set_option maxRecDepth 100000
set_option linter.unusedSimpArgs false
set_option linter.unusedVariables false
section
namespace Go.Proofs.Ytmahlfjnejbcnaa.PAll
open Go Go.RowKit YtmahlfjnejbcnaaW.PrintWords Sx
def interval_Scale.f (k : Nat) (a0_0 : Int) (a0_1 : Int) (a1 : Int) (a2 : Int) : Option (Int × Int × Int) :=
  ob (interval_Check.f k a0_0 a0_1) fun t1 =>
  oif ((t1 != 0) = true) (
   some (0, 0, t1)) (
   oif (decide (a2 < 1) = true) (
    some (0, 0, 1)) (
    oif (decide (a2 > 1000000000) = true) (
     some (0, 0, 1)) (
     oif (decide (a1 < -1000000000) = true) (
      some (0, 0, 1)) (
      oif (decide (a1 > 1000000000) = true) (
       some (0, 0, 1)) (
       oif (decide (a1 < 0) = true) (
        ob (interval_part.f k (IntKind.i64.wrap (0 - a0_1)) (IntKind.i64.wrap (0 - a1)) a2) fun t2 =>
        ob (interval_part.f k (IntKind.i64.wrap (0 - IntKind.i64.wrap (0 - a0_0))) (IntKind.i64.wrap (0 - a1)) a2) fun t3 =>
        oif ((!t2.snd) = true) (
         some (0, 0, 14)) (
         oif ((!t3.snd) = true) (
          some (0, 0, 14)) (
          some (t2.fst, IntKind.i64.wrap (0 - t3.fst), 0)))) (
        ob (interval_part.f k a0_0 a1 a2) fun t4 =>
        ob (interval_part.f k (IntKind.i64.wrap (0 - a0_1)) a1 a2) fun t5 =>
        oif ((!t4.snd) = true) (
         some (0, 0, 14)) (
         oif ((!t5.snd) = true) (
          some (0, 0, 14)) (
          some (t4.fst, IntKind.i64.wrap (0 - t5.fst), 0)))))))))
theorem interval_Scale.mono : ∀ a0_0 a0_1 a1 a2 k, LeO (interval_Scale.f k a0_0 a0_1 a1 a2) (interval_Scale.f (k + 1) a0_0 a0_1 a1 a2) := by
  intro a0_0 a0_1 a1 a2 k
  unfold interval_Scale.f
  try simp only [ob_eq, oif_eq]
  repeat' first
    | (with_reducible exact interval_Check.mono _ _ _)
    | (with_reducible exact interval_part.mono _ _ _ _)
    | (with_reducible exact LeO.refl _)
    | (with_reducible exact LeO.none _)
    | (with_reducible refine LeO.ite ?_ ?_)
    | (with_reducible refine LeO.bind ?_ (fun _ => ?_))
def interval_Scale.OQ {R : Type} (k : Nat) : OraQ R := fun g args K => match g with
  | 65 => (match args with | [.agg ⟨[.int .i64 a0_0, .int .i64 a0_1]⟩] => (interval_Check.f k a0_0 a0_1).bind fun q => K (.int .i64 q) | _ => none)
  | 103 => (match args with | [.int .i64 a0, .int .i64 a1, .int .i64 a2] => (interval_part.f k a0 a1 a2).bind fun q => K (.tuple ⟨[.int .i64 q.1, .bool q.2]⟩) | _ => none)
  | _ => none
theorem interval_Scale.OQ_ok (k : Nat) (Φ : World → Prop) (base : Nat) {R : Type} : OraQOk Try.prog (fun _ => undef) Φ base (interval_Scale.OQ (R := R) k) := by
  intro g args K r h
  unfold interval_Scale.OQ at h
  split at h
  · split at h
    · obtain ⟨q, hq, h⟩ := Option.bind_eq_some_iff.mp h
      exact ⟨_, h, callQ_of rfl rfl fun w => (interval_Check.calls k _ _ _ w hq).mono fun e w' he => ⟨he.1, he.2⟩⟩
    · cases h
  · split at h
    · obtain ⟨q, hq, h⟩ := Option.bind_eq_some_iff.mp h
      exact ⟨_, h, callQ_of rfl rfl fun w => (interval_part.calls k _ _ _ _ _ w hq).mono fun e w' he => ⟨he.1, he.2.below⟩⟩
    · cases h
  · cases h
def interval_Scale.F (v : Value) (_ : Mem) : Option (Int × Int × Int) := match v with | .tuple ⟨[.agg ⟨[.int .i64 r1, .int .i64 r2]⟩, .int .i64 r3]⟩ => some (r1, r2, r3) | _ => none
theorem interval_Scale.run (k : Nat) (a0_0 : Int) (a0_1 : Int) (a1 : Int) (a2 : Int) : runM Try.prog (liftQ (interval_Scale.OQ k)) (drawQ Try.prog (interval_Scale.OQ k)) (fun _ => none) (atEnd Try.prog Try.f97 interval_Scale.F) 5000 [.code (Try.f97.body.getD .skip)] ([.agg ⟨[.int .i64 a0_0, .int .i64 a0_1]⟩, .int .i64 a1, .int .i64 a2] ++ List.replicate (Try.f97.ntmps - ([.agg ⟨[.int .i64 a0_0, .int .i64 a0_1]⟩, .int .i64 a1, .int .i64 a2] : List Value).length) undef) [] = interval_Scale.f k a0_0 a0_1 a1 a2 := by kernel_rfl
theorem interval_Scale.calls (k : Nat) (a0_0 : Int) (a0_1 : Int) (a1 : Int) (a2 : Int) (r1 : Int) (r2 : Int) (r3 : Int) (w : World) (h : interval_Scale.f k a0_0 a0_1 a1 a2 = some (r1, r2, r3)) :
    Calls Try.prog 97 #[.agg #[.int .i64 a0_0, .int .i64 a0_1], .int .i64 a1, .int .i64 a2] w fun e w' => e = .returned (.tuple #[.agg #[.int .i64 r1, .int .i64 r2], .int .i64 r3]) ∧ Below w.heap.size w w' := by
  refine calls_closed (OQ := interval_Scale.OQ k) (LF := fun _ => none) (F := interval_Scale.F) (r := (r1, r2, r3)) (Checked.mixed Try.checked) (fun Φ base _ => interval_Scale.OQ_ok k Φ base) (LS := fun _ => True) (fun Φ base _ c _ live len f e => by cases e) Try.func97 rfl (fun _ _ => trivial) rfl (fun u m hu => ?_) rfl (((interval_Scale.run k a0_0 a0_1 a1 a2).trans h)) w
  unfold interval_Scale.F at hu
  split at hu
  · cases hu; rfl
  · cases hu
end Go.Proofs.Ytmahlfjnejbcnaa.PAll
end
section
namespace Go.Proofs.Ytmahlfjnejbcnaa.PAll
open Go.RowKit YtmahlfjnejbcnaaW.PrintWords YtmahlfjnejbcnaaW.PrintLast YtmahlfjnejbcnaaW.PrintMore More2 Sq
attribute [local go_sem] max2_int min2_int max_two min_two max_three min_three max_four min_four tdiv2e18_ tdiv1e18_ cellSS_  -- for this text's walks alone
def series_sum.l0 : Nat → Int → List (S71) → Int → Int → Int → Int → Option (Int × Int)
 | 0, _, _, _, _, _, _ => none
 | k + 1, x1, x25, x26, x27, x184000, x184001 => if x27 < x26 then (if 0 ≤ x27 then (if x27 < (x25.length : Int) then ((series_Turned.f k ((rd_T71 x25 x27).f2) x1).bind fun t186 => ((trig_SinOver.f k (wrap64 ((wrap64 (Int.tdiv t186 1000000)) + ((rd_T71 x25 x27).f1))) (wrap64 ((wrap64 ((wrap64 (Int.tdiv t186 1000000)) + ((rd_T71 x25 x27).f1))) + 1))).bind fun bt187 => ((interval_Scale.f k bt187.1 bt187.2.1 ((rd_T71 x25 x27).f0) 1000000000).bind fun bt191 => (series_sum.l0 k x1 x25 x26 (wrap64 (x27 + 1)) (wrap64 (x184000 + bt191.1)) (wrap64 (x184001 + bt191.2.1)))))) else (none)) else (none)) else (some (x184000, x184001))
def series_sum.f (k : Nat) (a0_0 : Int) (a0_1 : Int) (l0_2 : List (S71)) (a0_3 : Int) (a1 : Int) : Option (Int × Int) := series_sum.l0 k a1 l0_2 (l0_2.length : Int) 0 (wrap64 (a0_0 - a0_3)) (wrap64 (a0_0 + a0_3))
theorem series_sum.mono_l : ∀ k, (∀ y0 y1 y2 y3 y4 y5, LeO (series_sum.l0 k y0 y1 y2 y3 y4 y5) (series_sum.l0 (k + 1) y0 y1 y2 y3 y4 y5))
 | 0 => fun _ _ _ _ _ _ r h => by simp [series_sum.l0] at h
 | k + 1 => by
  have ih0 := series_sum.mono_l k
  ·intro y0 y1 y2 y3 y4 y5
   unfold series_sum.l0
   repeat' first
   | (with_reducible exact ih0 _ _ _ _ _ _)
   | (with_reducible exact interval_Scale.mono _ _ _ _ _)
   | (with_reducible exact series_Turned.mono _ _ _)
   | (with_reducible exact trig_SinOver.mono _ _ _)
   | (with_reducible exact LeO.refl _)
   | (with_reducible exact LeO.none _)
   | (with_reducible refine LeO.ite ?_ ?_)
   | (with_reducible refine LeO.bind ?_ (fun _ => ?_))
   | exact ih0 _ _ _ _ _ _
   | exact interval_Scale.mono _ _ _ _ _
   | exact series_Turned.mono _ _ _
   | exact trig_SinOver.mono _ _ _
   | exact LeO.none _
   | refine LeO.ite ?_ ?_
   | refine LeO.bind ?_ (fun _ => ?_)
theorem series_sum.mono : ∀ a0 a1 a2 a3 a4 k, LeO (series_sum.f k a0 a1 a2 a3 a4) (series_sum.f (k + 1) a0 a1 a2 a3 a4) := by
 intro a0 a1 a2 a3 a4 k
 have ih0 := series_sum.mono_l k
 unfold series_sum.f
 repeat' first
   | (with_reducible exact ih0 _ _ _ _ _ _)
   | (with_reducible exact interval_Scale.mono _ _ _ _ _)
   | (with_reducible exact series_Turned.mono _ _ _)
   | (with_reducible exact trig_SinOver.mono _ _ _)
   | (with_reducible exact LeO.refl _)
   | (with_reducible exact LeO.none _)
   | (with_reducible refine LeO.ite ?_ ?_)
   | (with_reducible refine LeO.bind ?_ (fun _ => ?_))
   | exact ih0 _ _ _ _ _ _
   | exact interval_Scale.mono _ _ _ _ _
   | exact series_Turned.mono _ _ _
   | exact trig_SinOver.mono _ _ _
   | exact LeO.none _
   | refine LeO.ite ?_ ?_
   | refine LeO.bind ?_ (fun _ => ?_)
def series_sum.T5 : Bool × List (List Nat × List Nat) := (true, [([], []), ([0], [0]), ([], []), ([1, 2], [1, 2]), ([3], [3]), ([], []), ([5], [5]), ([4, 6], [4, 6]), ([7, 3, 0, 1, 2, 3, 4, 5, 6, 7], [7])])
def series_sum.B5 : List Nat := [0, 1, 0, 7, 15, 0, 32, 127, 255]
theorem series_sum.tab5 : rtab .any (opsOf Try.f87 5) = series_sum.T5 := by kernel_rfl
theorem series_sum.bits5 : waitsOk series_sum.T5.2 series_sum.B5 = true := by kernel_rfl
def series_sum.T8 : Bool × List (List Nat × List Nat) := (true, [([], []), ([0], [0]), ([], []), ([2], [2]), ([1, 3], [1, 3]), ([], []), ([5], [5]), ([], []), ([7], [7]), ([6, 8], [6, 8]), ([0, 1, 2, 3, 4, 5, 6], []), ([10, 4, 0, 1, 2, 3, 4, 5, 6], [4, 10]), ([0, 1, 2, 3, 4, 5, 6, 7, 8, 9, 10, 11], []), ([12, 9, 11, 0, 1, 2, 3, 4, 5, 6, 7, 8, 9, 10, 11], [9, 12])])
def series_sum.B8 : List Nat := [0, 1, 0, 4, 15, 0, 32, 0, 128, 480, 127, 1151, 4095, 8191]
theorem series_sum.tab8 : rtab .any (opsOf Try.f87 8) = series_sum.T8 := by kernel_rfl
theorem series_sum.bits8 : waitsOk series_sum.T8.2 series_sum.B8 = true := by kernel_rfl
set_option maxHeartbeats 8000000 in
theorem series_sum.calls (k : Nat) (a0_0 : Int) (a0_1 : Int) (A0_2 : Option Addr) (c0_2 : Nat) (l0_2 : List (S71)) (a0_3 : Int) (a1 : Int) (r1 : Int) (r2 : Int) (w : World) (hr0_2 : Kd.C k71 w A0_2 l0_2.length l0_2) (hc0_2 : l0_2.length ≤ c0_2) (h : series_sum.f k a0_0 a0_1 l0_2 a0_3 a1 = some (r1, r2)) :
  Calls Try.prog 87 #[.agg #[.int .i64 a0_0, .int .i64 a0_1, .slice A0_2 l0_2.length c0_2, .int .i64 a0_3], .int .i64 a1] w fun e w' => e = .returned (.agg #[.int .i64 r1, .int .i64 r2]) ∧ Below w.heap.size w w' := by
 have hu57 := Try.underlying57
 have hu24 := Try.underlying24
 have hu71 := Try.underlying71
 have HR0_2 := Aside0.mk hr0_2
 have HC0_2 := Aside0.mk hc0_2
 clear hr0_2 hc0_2
 have HB := Aside0.mk (Below.refl w.heap.size w)
 have H : (series_sum.l0 k a1 l0_2 (l0_2.length : Int) 0 (wrap64 (a0_0 - a0_3)) (wrap64 (a0_0 + a0_3))) = some (r1, r2) := h
 clear h
 have H' := Aside0.mk H
 clear H
 go_enter Try.func87, Try.ntmps87
 go_wp2_with (first | ((with_reducible refine gate_dst (N := 2) rfl ?_); refine box_event ?hg (N := 2) ?hd (cs := #[.int .i64 a0_0, .int .i64 a0_1, .slice A0_2 l0_2.length c0_2, .int .i64 a0_3]) (t := 57) ?hr ?_; (case hd => rfl); (case hg => rfl); (case hr => first | (go_simp; done) | (go_simp; rfl)); intro gb181 hg w3 hbox hb; have BK181 := Aside0.mk (hbox); have GW181 := ge_ hg HB; have GE181 := ge_ hg HB; replace HB := bs_ HB hb; clear hb hbox hg) | ((with_reducible refine gate_dst (N := 4) rfl ?_); refine box_event ?hg (N := 4) ?hd (cs := #[.int .i64 0, .int .i64 0]) (t := 24) ?hr ?_; (case hd => rfl); (case hg => rfl); (case hr => first | (go_simp; done) | (go_simp; rfl)); intro gb182 hg w4 hbox hb; have BK182 := Aside0.mk (hbox); have GW182 := ge_ hg HB; have GE182 := ge_ hg HB; have NB181_182 := nl_ hg BK181; have NB182_181 := ng_ hg BK181; replace BK181 := kb_ BK181 hb; replace HB := bs_ HB hb; clear hb hbox hg; have hnb5 := NB181_182.out; have hnc5 := NB182_181.out; have hcz6_0 : w4.cell? ⟨gb181, 0, none⟩ = some (.int .i64 a0_0) := (blk_cell BK181.out 0).trans rfl; have hcz6_1 : w4.cell? ⟨gb181, 1, none⟩ = some (.int .i64 a0_1) := (blk_cell BK181.out 1).trans rfl; have hcz6_2 : w4.cell? ⟨gb181, 2, none⟩ = some (.slice A0_2 l0_2.length c0_2) := (blk_cell BK181.out 2).trans rfl; have hcz6_3 : w4.cell? ⟨gb181, 3, none⟩ = some (.int .i64 a0_3) := (blk_cell BK181.out 3).trans rfl; have hfz6_0 := blk_frozen BK181.out 0; have hfz6_1 := blk_frozen BK181.out 1; have hfz6_2 := blk_frozen BK181.out 2; have hfz6_3 := blk_frozen BK181.out 3) | ((with_reducible refine gate_dst (N := 5) rfl ?_); refine box_event ?hg (N := 5) ?hd (cs := #[.int .i64 0, .int .i64 0]) (t := 24) ?hr ?_; (case hd => rfl); (case hg => rfl); (case hr => first | (go_simp; done) | (go_simp; rfl)); intro gb183 hg w7 hbox hb; have BK183 := Aside0.mk (hbox); have GW183 := ge_ hg HB; have GE183 := ge_ hg HB; have NB181_183 := nl_ hg BK181; have NB183_181 := ng_ hg BK181; have NB182_183 := nl_ hg BK182; have NB183_182 := ng_ hg BK182; replace BK181 := kb_ BK181 hb; replace BK182 := kb_ BK182 hb; replace HB := bs_ HB hb; clear hb hbox hg; have hnb8 := NB183_181.out; have hnc8 := NB181_183.out; have hnb9 := NB183_182.out; have hnc9 := NB182_183.out; have hcz10_0 : w7.cell? ⟨gb183, 0, none⟩ = some (.int .i64 0) := (blk_cell BK183.out 0).trans rfl; have hcz10_1 : w7.cell? ⟨gb183, 1, none⟩ = some (.int .i64 0) := (blk_cell BK183.out 1).trans rfl; have hfz10_0 := blk_frozen BK183.out 0; have hfz10_1 := blk_frozen BK183.out 1; have hcz11_0 : w7.cell? ⟨gb181, 0, none⟩ = some (.int .i64 a0_0) := (blk_cell BK181.out 0).trans rfl; have hcz11_1 : w7.cell? ⟨gb181, 1, none⟩ = some (.int .i64 a0_1) := (blk_cell BK181.out 1).trans rfl; have hcz11_2 : w7.cell? ⟨gb181, 2, none⟩ = some (.slice A0_2 l0_2.length c0_2) := (blk_cell BK181.out 2).trans rfl; have hcz11_3 : w7.cell? ⟨gb181, 3, none⟩ = some (.int .i64 a0_3) := (blk_cell BK181.out 3).trans rfl; have hfz11_0 := blk_frozen BK181.out 0; have hfz11_1 := blk_frozen BK181.out 1; have hfz11_2 := blk_frozen BK181.out 2; have hfz11_3 := blk_frozen BK181.out 3))
 go_loopg [27] k (fun kq v27 w' => ∃ (x27_1 : Int) (x184000_1 : Int) (x184001_1 : Int), v27 = .int .i64 x27_1 ∧ Aside0 (series_sum.l0 kq a1 l0_2 (l0_2.length : Int) x27_1 x184000_1 x184001_1 = some (r1, r2)) ∧ Aside0 (kq ≤ k) ∧ Aside0 (w'.heap[gb181]? = some (.cells #[.int .i64 a0_0, .int .i64 a0_1, (.slice A0_2 l0_2.length c0_2), .int .i64 a0_3] 57 (0, 0))) ∧ Aside0 (w'.heap[gb182]? = some (.cells #[.int .i64 0, .int .i64 0] 24 (0, 0))) ∧ Aside0 (w'.heap[gb183]? = some (.cells #[.int .i64 x184000_1, .int .i64 x184001_1] 24 (0, 0))) ∧ Aside0 (Below w.heap.size w w'))
 case atStart => exact ⟨(0), (wrap64 (a0_0 - a0_3)), (wrap64 (a0_0 + a0_3)), (by first | rfl | (simp; done) | (simp [*]; done)), H', ⟨Nat.le_refl _⟩, ⟨kk_ BK181⟩, ⟨kk_ BK182⟩, ⟨by (with_reducible repeat (first | refine blk_drewN ?_ _ | refine blk_drew ?_ | refine blk_alloc ?_ _)); refine blk_put (cs := #[.int .i64 (wrap64 (a0_0 - a0_3)), .int .i64 0]) ?_ 1 _ rfl; (with_reducible repeat (first | refine blk_drewN ?_ _ | refine blk_drew ?_ | refine blk_alloc ?_ _)); refine blk_put (cs := #[.int .i64 0, .int .i64 0]) ?_ 0 _ rfl; (with_reducible repeat (first | refine blk_drewN ?_ _ | refine blk_drew ?_ | refine blk_alloc ?_ _)); exact BK183.out⟩, (be_ HB)⟩
 case round =>
  clear H'
  try clear p2
  try clear c5
  try clear p6
  try clear c8
  try clear c9
  try clear hcz10_0
  try clear hcz10_1
  try clear hcz11_0
  try clear hcz11_1
  try clear hcz11_2
  try clear hcz11_3
  try clear hcz6_0
  try clear hcz6_1
  try clear hcz6_2
  try clear hcz6_3
  try clear hfz10_0
  try clear hfz10_1
  try clear hfz11_0
  try clear hfz11_1
  try clear hfz11_2
  try clear hfz11_3
  try clear hfz6_0
  try clear hfz6_1
  try clear hfz6_2
  try clear hfz6_3
  obtain ⟨x27_1, x184000_1, x184001_1, rfl, HA, HK1, BK181, BK182, BK183, HB⟩ := hrel
  cases gk with
  | zero => exact absurd HA.out (by simp [series_sum.l0])
  | succ k1 =>
   have H := HA.out
   clear HA
   simp only [series_sum.l0] at H
   by_cases c12 : x27_1 < (l0_2.length : Int)
   ·rw [if_pos c12] at H
    have c12b0 : decide (x27_1 < (l0_2.length : Int)) = true := decide_eq_true c12
    clear c12
    by_cases c13 : 0 ≤ x27_1
    ·rw [if_pos c13] at H
     have c13b0 : decide (0 ≤ x27_1) = true := decide_eq_true c13
     clear c13
     by_cases c14 : x27_1 < (l0_2.length : Int)
     ·rw [if_pos c14] at H
      have c14b0 : decide (x27_1 < (l0_2.length : Int)) = true := decide_eq_true c14
      clear c14
      replace H := Option.bind_eq_some_iff.mp H
      obtain ⟨t186, A150, H⟩ := H
      replace H : ((trig_SinOver.f k1 (wrap64 ((wrap64 (Int.tdiv t186 1000000)) + ((rd_T71 l0_2 x27_1).f1))) (wrap64 ((wrap64 ((wrap64 (Int.tdiv t186 1000000)) + ((rd_T71 l0_2 x27_1).f1))) + 1))).bind fun bt187 => ((interval_Scale.f k1 bt187.1 bt187.2.1 ((rd_T71 l0_2 x27_1).f0) 1000000000).bind fun bt191 => (series_sum.l0 k1 a1 l0_2 (l0_2.length : Int) (wrap64 (x27_1 + 1)) (wrap64 (x184000_1 + bt191.1)) (wrap64 (x184001_1 + bt191.2.1))))) = some (r1, r2) := H
      have A15 := Aside0.mk A150
      clear A150
      replace H := Option.bind_eq_some_iff.mp H
      obtain ⟨⟨t187, t188, t189⟩, A160, H⟩ := H
      replace H : ((interval_Scale.f k1 t187 t188 ((rd_T71 l0_2 x27_1).f0) 1000000000).bind fun bt191 => (series_sum.l0 k1 a1 l0_2 (l0_2.length : Int) (wrap64 (x27_1 + 1)) (wrap64 (x184000_1 + bt191.1)) (wrap64 (x184001_1 + bt191.2.1)))) = some (r1, r2) := H
      have A16 := Aside0.mk A160
      clear A160
      replace H := Option.bind_eq_some_iff.mp H
      obtain ⟨⟨t191, t192, t193⟩, A170, H⟩ := H
      replace H : (series_sum.l0 k1 a1 l0_2 (l0_2.length : Int) (wrap64 (x27_1 + 1)) (wrap64 (x184000_1 + t191)) (wrap64 (x184001_1 + t192))) = some (r1, r2) := H
      have A17 := Aside0.mk A170
      clear A170
      have H' := Aside0.mk H
      clear H
      have p184 : 0 ≤ (x27_1 : Int) := of_decide_eq_true (by first | (with_reducible assumption) | assumption)
      have q184 : x27_1 < (l0_2.length : Int) := of_decide_eq_true (by first | (with_reducible assumption) | assumption)
      obtain ⟨ad184, e184, hx184_0, hx184_1, hx184_2⟩ := at_T71 HR0_2.out x27_1 p184 q184
      cases e184
      replace hx184_0 := (HB.out.cell (World.block_lt_of_cell? w _ hx184_0)).trans hx184_0
      replace hx184_1 := (HB.out.cell (World.block_lt_of_cell? w _ hx184_1)).trans hx184_1
      replace hx184_2 := (HB.out.cell (World.block_lt_of_cell? w _ hx184_2)).trans hx184_2
      replace p184 := eq_true p184
      replace q184 := eq_true q184
      try go_wp2_with (first | ((with_reducible refine gate_dst (N := 7) rfl ?_); refine box_event ?hg (N := 7) ?hd (cs := #[.int .i64 0, .int .i64 0, .int .i64 0]) (t := 71) ?hr ?_; (case hd => rfl); (case hg => rfl); (case hr => first | (go_simp; done) | (go_simp; rfl)); intro gb185 hg w18 hbox hb; have BK185 := Aside0.mk (hbox); have GW185 := ge_ hg HB; have GE185 := ge_ hg HB; have NB181_185 := nl_ hg BK181; have NB185_181 := ng_ hg BK181; have NB182_185 := nl_ hg BK182; have NB185_182 := ng_ hg BK182; have NB183_185 := nl_ hg BK183; have NB185_183 := ng_ hg BK183; replace BK181 := kb_ BK181 hb; replace BK182 := kb_ BK182 hb; replace BK183 := kb_ BK183 hb; replace HB := bs_ HB hb; clear hb hbox hg; have hnb19 := NB185_181.out; have hnc19 := NB181_185.out; have hnb20 := NB185_182.out; have hnc20 := NB182_185.out; have hnb21 := NB185_183.out; have hnc21 := NB183_185.out; have hcz22_0 : w18.cell? ⟨gb185, 0, none⟩ = some (.int .i64 0) := (blk_cell BK185.out 0).trans rfl; have hcz22_1 : w18.cell? ⟨gb185, 1, none⟩ = some (.int .i64 0) := (blk_cell BK185.out 1).trans rfl; have hcz22_2 : w18.cell? ⟨gb185, 2, none⟩ = some (.int .i64 0) := (blk_cell BK185.out 2).trans rfl; have hfz22_0 := blk_frozen BK185.out 0; have hfz22_1 := blk_frozen BK185.out 1; have hfz22_2 := blk_frozen BK185.out 2))
      have n0_ : Aside0 ((((w18.setCell ⟨gb185, 0, none⟩ (.int .i64 ((rd_T71 l0_2 x27_1).f0))).setCell ⟨gb185, 1, none⟩ (.int .i64 ((rd_T71 l0_2 x27_1).f1))).setCell ⟨gb185, 2, none⟩ (.int .i64 ((rd_T71 l0_2 x27_1).f2))).heap[gb181]? = some (.cells #[.int .i64 a0_0, .int .i64 a0_1, .slice (some ad184) l0_2.length c0_2, .int .i64 a0_3] 57 (0, 0))) := ⟨kk_ BK181⟩
      have n1_ : Aside0 ((((w18.setCell ⟨gb185, 0, none⟩ (.int .i64 ((rd_T71 l0_2 x27_1).f0))).setCell ⟨gb185, 1, none⟩ (.int .i64 ((rd_T71 l0_2 x27_1).f1))).setCell ⟨gb185, 2, none⟩ (.int .i64 ((rd_T71 l0_2 x27_1).f2))).heap[gb182]? = some (.cells #[.int .i64 0, .int .i64 0] 24 (0, 0))) := ⟨kk_ BK182⟩
      have n2_ : Aside0 ((((w18.setCell ⟨gb185, 0, none⟩ (.int .i64 ((rd_T71 l0_2 x27_1).f0))).setCell ⟨gb185, 1, none⟩ (.int .i64 ((rd_T71 l0_2 x27_1).f1))).setCell ⟨gb185, 2, none⟩ (.int .i64 ((rd_T71 l0_2 x27_1).f2))).heap[gb183]? = some (.cells #[.int .i64 x184000_1, .int .i64 x184001_1] 24 (0, 0))) := ⟨kk_ BK183⟩
      have n3_ : Aside0 ((((w18.setCell ⟨gb185, 0, none⟩ (.int .i64 ((rd_T71 l0_2 x27_1).f0))).setCell ⟨gb185, 1, none⟩ (.int .i64 ((rd_T71 l0_2 x27_1).f1))).setCell ⟨gb185, 2, none⟩ (.int .i64 ((rd_T71 l0_2 x27_1).f2))).heap[gb185]? = some (.cells #[.int .i64 ((rd_T71 l0_2 x27_1).f0), .int .i64 ((rd_T71 l0_2 x27_1).f1), .int .i64 ((rd_T71 l0_2 x27_1).f2)] 71 (0, 0))) := ⟨by (with_reducible repeat (first | refine blk_drewN ?_ _ | refine blk_drew ?_ | refine blk_alloc ?_ _)); refine blk_put (cs := #[.int .i64 ((rd_T71 l0_2 x27_1).f0), .int .i64 ((rd_T71 l0_2 x27_1).f1), .int .i64 0]) ?_ 2 _ rfl; (with_reducible repeat (first | refine blk_drewN ?_ _ | refine blk_drew ?_ | refine blk_alloc ?_ _)); refine blk_put (cs := #[.int .i64 ((rd_T71 l0_2 x27_1).f0), .int .i64 0, .int .i64 0]) ?_ 1 _ rfl; (with_reducible repeat (first | refine blk_drewN ?_ _ | refine blk_drew ?_ | refine blk_alloc ?_ _)); refine blk_put (cs := #[.int .i64 0, .int .i64 0, .int .i64 0]) ?_ 0 _ rfl; (with_reducible repeat (first | refine blk_drewN ?_ _ | refine blk_drew ?_ | refine blk_alloc ?_ _)); exact BK185.out⟩
      have n4_ : Aside0 (Below w.heap.size w (((w18.setCell ⟨gb185, 0, none⟩ (.int .i64 ((rd_T71 l0_2 x27_1).f0))).setCell ⟨gb185, 1, none⟩ (.int .i64 ((rd_T71 l0_2 x27_1).f1))).setCell ⟨gb185, 2, none⟩ (.int .i64 ((rd_T71 l0_2 x27_1).f2)))) := (be_ HB)
      (try clear BK181)
      (try clear BK182)
      (try clear BK183)
      (try clear BK185)
      (try clear HB)
      generalize (((w18.setCell ⟨gb185, 0, none⟩ (.int .i64 ((rd_T71 l0_2 x27_1).f0))).setCell ⟨gb185, 1, none⟩ (.int .i64 ((rd_T71 l0_2 x27_1).f1))).setCell ⟨gb185, 2, none⟩ (.int .i64 ((rd_T71 l0_2 x27_1).f2))) = w23 at n0_ n1_ n2_ n3_ n4_ ⊢
      have BK181 := n0_
      have BK182 := n1_
      have BK183 := n2_
      have BK185 := n3_
      have HB := n4_
      clear n0_ n1_ n2_ n3_ n4_
      replace BK181 := Aside0.mk (blk_drew BK181.out)
      replace BK182 := Aside0.mk (blk_drew BK182.out)
      replace BK183 := Aside0.mk (blk_drew BK183.out)
      replace BK185 := Aside0.mk (blk_drew BK185.out)
      replace HB := Aside0.mk (below_drew1 HB.out)
      refine start_ (n := 9) (S := fun w' => w'.cell? ⟨gb185, 0, none⟩ = some (.int .i64 ((rd_T71 l0_2 x27_1).f0)) ∧ w'.cell? ⟨gb185, 1, none⟩ = some (.int .i64 ((rd_T71 l0_2 x27_1).f1)) ∧ w'.cell? ⟨gb185, 2, none⟩ = some (.int .i64 ((rd_T71 l0_2 x27_1).f2))) (ds := []) #[false, false, false, false, false, false, false, false, false] (by kernel_rfl) rfl rfl ⟨(blk_cell BK185.out 0).trans rfl, (blk_cell BK185.out 1).trans rfl, (blk_cell BK185.out 2).trans rfl⟩ (fun hHeld => ?_); refine with_tabW series_sum.tab5 series_sum.bits5 (fun HT_ HW_ => ?_)
      generalize w23.drew = w24 at BK181 BK182 BK183 BK185 HB hHeld ⊢
      refine pure_ (i := 0) (N := some 31) (v := ?_) (a' := ?_) #[true, false, false, false, false, false, false, false, false] rfl rfl (any_of HT_.out (by kernel_rfl)) (fun _ _ _ h => h) (Or.inl ⟨by rfl, ?_⟩) ?_ ?_
      rotate_left
      ·intro w'
       go_simp
       with_reducible rfl
      rotate_left
      ·simp only [Act.put, List.setIfInBounds_toArray, List.set_cons_zero, List.set_cons_succ, i64_w, i32_w]
       rfl
      refine pure_ (i := 2) (N := some 33) (v := ?_) (a' := ?_) #[true, false, true, false, false, false, false, false, false] rfl rfl (any_of HT_.out (by kernel_rfl)) (fun _ _ _ h => h) (Or.inl ⟨by rfl, ?_⟩) ?_ ?_
      rotate_left
      ·intro w'
       go_simp
       with_reducible rfl
      rotate_left
      ·simp only [Act.put, List.setIfInBounds_toArray, List.set_cons_zero, List.set_cons_succ, i64_w, i32_w]
       rfl
      refine pure_ (i := 5) (N := some 36) (v := ?_) (a' := ?_) #[true, false, true, false, false, true, false, false, false] rfl rfl (any_of HT_.out (by kernel_rfl)) (fun _ _ _ h => h) (Or.inl ⟨by rfl, ?_⟩) ?_ ?_
      rotate_left
      ·intro w'
       go_simp
       with_reducible rfl
      rotate_left
      ·simp only [Act.put, List.setIfInBounds_toArray, List.set_cons_zero, List.set_cons_succ, i64_w, i32_w]
       rfl
      refine take_ (i := 1) (N := some 32) (v := ?_) (a' := ?_) #[true, true, true, false, false, true, false, false, false] rfl rfl (take_ofW HT_.out HW_.out (by kernel_rfl)) (fun _ _ _ h => h) (Or.inl ⟨by rfl, ?_⟩) hHeld ?_ ?_
      rotate_left
      ·rintro w' ⟨s0, s1, s2⟩
       go_simp
       with_reducible rfl
      rotate_left
      ·simp only [Act.put, List.setIfInBounds_toArray, List.set_cons_zero, List.set_cons_succ, i64_w, i32_w]
       rfl
      refine take_ (i := 6) (N := some 37) (v := ?_) (a' := ?_) #[true, true, true, false, false, true, true, false, false] rfl rfl (take_ofW HT_.out HW_.out (by kernel_rfl)) (fun _ _ _ h => h) (Or.inl ⟨by rfl, ?_⟩) hHeld ?_ ?_
      rotate_left
      ·rintro w' ⟨s0, s1, s2⟩
       go_simp
       with_reducible rfl
      rotate_left
      ·simp only [Act.put, List.setIfInBounds_toArray, List.set_cons_zero, List.set_cons_succ, i64_w, i32_w]
       rfl
      refine one_ (i := 3) (N := some 34) #[true, true, true, true, false, true, true, false, false] rfl rfl (one_of HT_.out (by kernel_rfl)) (by decide) (fun K hK => ?_)
      refine goes_ Try.func88 (by kernel_rfl) rfl #[.int .i64 ((rd_T71 l0_2 x27_1).f2), .int .i64 a1] (by rfl) rfl rfl (by (try simp only [List.map_toArray, List.map_cons, List.map_nil]); first | done | rfl | (simp only [List.length_drop, List.length_take]; rfl)) ?_
      with_reducible refine (series_Turned.calls k1 ((rd_T71 l0_2 x27_1).f2) a1 t186 _ A15.out).mono ?_
      rintro e w' ⟨rfl, ⟨nd, rfl⟩⟩
      refine ⟨_, rfl, ?_⟩
      refine hK.out _ _ ⟨(blk_cell BK185.out 0).trans rfl, (blk_cell BK185.out 1).trans rfl, (blk_cell BK185.out 2).trans rfl⟩ (fun hHeld => ?_)
      clear hK K
      refine norm_ (a' := ?_) ?_ ?_
      rotate_left
      ·show Act.put _ (some 34) _ = _
       simp only [Act.put, List.setIfInBounds_toArray, List.set_cons_zero, List.set_cons_succ, i64_w, i32_w]
       rfl
      refine pure_ (i := 4) (N := some 35) (v := ?_) (a' := ?_) #[true, true, true, true, true, true, true, false, false] rfl rfl (any_of HT_.out (by kernel_rfl)) (fun _ _ _ h => h) (Or.inl ⟨by rfl, ?_⟩) ?_ ?_
      rotate_left
      ·intro w'
       go_simp
       with_reducible rfl
      rotate_left
      ·simp only [Act.put, List.setIfInBounds_toArray, List.set_cons_zero, List.set_cons_succ, i64_w, i32_w]
       rfl
      refine pure_ (i := 7) (N := some 38) (v := ?_) (a' := ?_) #[true, true, true, true, true, true, true, true, false] rfl rfl (any_of HT_.out (by kernel_rfl)) (fun _ _ _ h => h) (Or.inl ⟨by rfl, ?_⟩) ?_ ?_
      rotate_left
      ·intro w'
       go_simp
       with_reducible rfl
      rotate_left
      ·simp only [Act.put, List.setIfInBounds_toArray, List.set_cons_zero, List.set_cons_succ, i64_w, i32_w]
       rfl
      refine pure_ (i := 8) (N := some 8) (v := ?_) (a' := ?_) #[true, true, true, true, true, true, true, true, true] rfl rfl (any_of HT_.out (by kernel_rfl)) (fun _ _ _ h => h) (Or.inl ⟨by rfl, ?_⟩) ?_ ?_
      rotate_left
      ·intro w'
       go_simp
       with_reducible rfl
      rotate_left
      ·simp only [Act.put, List.setIfInBounds_toArray, List.set_cons_zero, List.set_cons_succ, i64_w, i32_w]
       rfl
      refine done_ (done_of HT_.out (by kernel_rfl)) ?_
      try go_wp2_with (first | ((with_reducible refine gate_callee (f := 76) rfl ?_); refine goesL_ (some 44) rfl rfl Try.func76 (by kernel_rfl) rfl #[.agg #[.int .i64 (wrap64 ((wrap64 (Int.tdiv t186 1000000)) + ((rd_T71 l0_2 x27_1).f1))), .int .i64 (wrap64 ((wrap64 ((wrap64 (Int.tdiv t186 1000000)) + ((rd_T71 l0_2 x27_1).f1))) + 1))]] rfl (by (try simp only [List.map_toArray, List.map_cons, List.map_nil]); first | done | rfl | (simp only [List.length_drop, List.length_take]; rfl)) ?_; (with_reducible refine (trig_SinOver.calls k1 (wrap64 ((wrap64 (Int.tdiv t186 1000000)) + ((rd_T71 l0_2 x27_1).f1))) (wrap64 ((wrap64 ((wrap64 (Int.tdiv t186 1000000)) + ((rd_T71 l0_2 x27_1).f1))) + 1)) t187 t188 t189 _ A16.out).mono ?_); rintro e w25 ⟨rfl, hb⟩; refine ⟨_, rfl, ?_⟩; replace BK181 := kb_ BK181 hb; replace BK182 := kb_ BK182 hb; replace BK183 := kb_ BK183 hb; replace BK185 := kb_ BK185 hb; replace HB := bs_ HB hb; (try clear hb); (try clear hb2); (try clear hk); (try clear hi)) | ((with_reducible refine gate_dst (N := 9) rfl ?_); refine box_event ?hg (N := 9) ?hd (cs := #[.int .i64 0, .int .i64 0]) (t := 24) ?hr ?_; (case hd => rfl); (case hg => rfl); (case hr => first | (go_simp; done) | (go_simp; rfl)); intro gb190 hg w26 hbox hb; have BK190 := Aside0.mk (hbox); have GW190 := ge_ hg HB; have GE190 := ge_ hg HB; have NB181_190 := nl_ hg BK181; have NB190_181 := ng_ hg BK181; have NB182_190 := nl_ hg BK182; have NB190_182 := ng_ hg BK182; have NB183_190 := nl_ hg BK183; have NB190_183 := ng_ hg BK183; have NB185_190 := nl_ hg BK185; have NB190_185 := ng_ hg BK185; replace BK181 := kb_ BK181 hb; replace BK182 := kb_ BK182 hb; replace BK183 := kb_ BK183 hb; replace BK185 := kb_ BK185 hb; replace HB := bs_ HB hb; clear hb hbox hg; have hnb27 := NB190_181.out; have hnc27 := NB181_190.out; have hnb28 := NB190_182.out; have hnc28 := NB182_190.out; have hnb29 := NB190_183.out; have hnc29 := NB183_190.out; have hnb30 := NB190_185.out; have hnc30 := NB185_190.out; have hcz31_0 : w26.cell? ⟨gb190, 0, none⟩ = some (.int .i64 0) := (blk_cell BK190.out 0).trans rfl; have hcz31_1 : w26.cell? ⟨gb190, 1, none⟩ = some (.int .i64 0) := (blk_cell BK190.out 1).trans rfl; have hfz31_0 := blk_frozen BK190.out 0; have hfz31_1 := blk_frozen BK190.out 1; have hcz32_0 : w26.cell? ⟨gb185, 0, none⟩ = some (.int .i64 ((rd_T71 l0_2 x27_1).f0)) := (blk_cell BK185.out 0).trans rfl; have hcz32_1 : w26.cell? ⟨gb185, 1, none⟩ = some (.int .i64 ((rd_T71 l0_2 x27_1).f1)) := (blk_cell BK185.out 1).trans rfl; have hcz32_2 : w26.cell? ⟨gb185, 2, none⟩ = some (.int .i64 ((rd_T71 l0_2 x27_1).f2)) := (blk_cell BK185.out 2).trans rfl; have hfz32_0 := blk_frozen BK185.out 0; have hfz32_1 := blk_frozen BK185.out 1; have hfz32_2 := blk_frozen BK185.out 2) | ((with_reducible refine gate_callee (f := 97) rfl ?_); refine goesL_ (some 51) rfl rfl Try.func97 (by kernel_rfl) rfl #[.agg #[.int .i64 t187, .int .i64 t188], .int .i64 ((rd_T71 l0_2 x27_1).f0), .int .i64 1000000000] rfl (by (try simp only [List.map_toArray, List.map_cons, List.map_nil]); first | done | rfl | (simp only [List.length_drop, List.length_take]; rfl)) ?_; (with_reducible refine (interval_Scale.calls k1 t187 t188 ((rd_T71 l0_2 x27_1).f0) 1000000000 t191 t192 t193 _ A17.out).mono ?_); rintro e w33 ⟨rfl, hb⟩; refine ⟨_, rfl, ?_⟩; have n0_ := kb_ BK181 hb; have n1_ := kb_ BK182 hb; have n2_ := kb_ BK183 hb; have n3_ := kb_ BK185 hb; have n4_ := Aside0.mk (blk_below (g := gb190) (o := .cells #[.int .i64 t187, .int .i64 t188] 24 (0, 0)) (by (with_reducible repeat (first | refine blk_drewN ?_ _ | refine blk_drew ?_ | refine blk_alloc ?_ _)); refine blk_put (cs := #[.int .i64 t187, .int .i64 0]) ?_ 1 _ rfl; (with_reducible repeat (first | refine blk_drewN ?_ _ | refine blk_drew ?_ | refine blk_alloc ?_ _)); refine blk_put (cs := #[.int .i64 0, .int .i64 0]) ?_ 0 _ rfl; (with_reducible repeat (first | refine blk_drewN ?_ _ | refine blk_drew ?_ | refine blk_alloc ?_ _)); exact BK190.out) hb); have n5_ := bs_ HB hb; clear BK181; clear BK182; clear BK183; clear BK185; clear BK190; clear HB; have BK181 := n0_; have BK182 := n1_; have BK183 := n2_; have BK185 := n3_; have BK190 := n4_; have HB := n5_; clear n0_ n1_ n2_ n3_ n4_ n5_; (try clear hb); (try clear hb2); (try clear hk); (try clear hi)) | ((with_reducible refine gate_dst (N := 11) rfl ?_); refine box_event ?hg (N := 11) ?hd (cs := #[.int .i64 0, .int .i64 0]) (t := 24) ?hr ?_; (case hd => rfl); (case hg => rfl); (case hr => first | (go_simp; done) | (go_simp; rfl)); intro gb194 hg w34 hbox hb; have BK194 := Aside0.mk (hbox); have GW194 := ge_ hg HB; have GE194 := ge_ hg HB; have NB181_194 := nl_ hg BK181; have NB194_181 := ng_ hg BK181; have NB182_194 := nl_ hg BK182; have NB194_182 := ng_ hg BK182; have NB183_194 := nl_ hg BK183; have NB194_183 := ng_ hg BK183; have NB185_194 := nl_ hg BK185; have NB194_185 := ng_ hg BK185; have NB190_194 := nl_ hg BK190; have NB194_190 := ng_ hg BK190; replace BK181 := kb_ BK181 hb; replace BK182 := kb_ BK182 hb; replace BK183 := kb_ BK183 hb; replace BK185 := kb_ BK185 hb; replace BK190 := kb_ BK190 hb; replace HB := bs_ HB hb; clear hb hbox hg; have hnb35 := NB194_181.out; have hnc35 := NB181_194.out; have hnb36 := NB194_182.out; have hnc36 := NB182_194.out; have hnb37 := NB194_183.out; have hnc37 := NB183_194.out; have hnb38 := NB194_185.out; have hnc38 := NB185_194.out; have hnb39 := NB194_190.out; have hnc39 := NB190_194.out; have hcz40_0 : w34.cell? ⟨gb194, 0, none⟩ = some (.int .i64 0) := (blk_cell BK194.out 0).trans rfl; have hcz40_1 : w34.cell? ⟨gb194, 1, none⟩ = some (.int .i64 0) := (blk_cell BK194.out 1).trans rfl; have hfz40_0 := blk_frozen BK194.out 0; have hfz40_1 := blk_frozen BK194.out 1))
      have n0_ : Aside0 (((w34.setCell ⟨gb194, 0, none⟩ (.int .i64 t191)).setCell ⟨gb194, 1, none⟩ (.int .i64 t192)).heap[gb181]? = some (.cells #[.int .i64 a0_0, .int .i64 a0_1, .slice (some ad184) l0_2.length c0_2, .int .i64 a0_3] 57 (0, 0))) := ⟨kk_ BK181⟩
      have n1_ : Aside0 (((w34.setCell ⟨gb194, 0, none⟩ (.int .i64 t191)).setCell ⟨gb194, 1, none⟩ (.int .i64 t192)).heap[gb182]? = some (.cells #[.int .i64 0, .int .i64 0] 24 (0, 0))) := ⟨kk_ BK182⟩
      have n2_ : Aside0 (((w34.setCell ⟨gb194, 0, none⟩ (.int .i64 t191)).setCell ⟨gb194, 1, none⟩ (.int .i64 t192)).heap[gb183]? = some (.cells #[.int .i64 x184000_1, .int .i64 x184001_1] 24 (0, 0))) := ⟨kk_ BK183⟩
      have n3_ : Aside0 (((w34.setCell ⟨gb194, 0, none⟩ (.int .i64 t191)).setCell ⟨gb194, 1, none⟩ (.int .i64 t192)).heap[gb185]? = some (.cells #[.int .i64 ((rd_T71 l0_2 x27_1).f0), .int .i64 ((rd_T71 l0_2 x27_1).f1), .int .i64 ((rd_T71 l0_2 x27_1).f2)] 71 (0, 0))) := ⟨kk_ BK185⟩
      have n4_ : Aside0 (((w34.setCell ⟨gb194, 0, none⟩ (.int .i64 t191)).setCell ⟨gb194, 1, none⟩ (.int .i64 t192)).heap[gb190]? = some (.cells #[.int .i64 t187, .int .i64 t188] 24 (0, 0))) := ⟨kk_ BK190⟩
      have n5_ : Aside0 (((w34.setCell ⟨gb194, 0, none⟩ (.int .i64 t191)).setCell ⟨gb194, 1, none⟩ (.int .i64 t192)).heap[gb194]? = some (.cells #[.int .i64 t191, .int .i64 t192] 24 (0, 0))) := ⟨by (with_reducible repeat (first | refine blk_drewN ?_ _ | refine blk_drew ?_ | refine blk_alloc ?_ _)); refine blk_put (cs := #[.int .i64 t191, .int .i64 0]) ?_ 1 _ rfl; (with_reducible repeat (first | refine blk_drewN ?_ _ | refine blk_drew ?_ | refine blk_alloc ?_ _)); refine blk_put (cs := #[.int .i64 0, .int .i64 0]) ?_ 0 _ rfl; (with_reducible repeat (first | refine blk_drewN ?_ _ | refine blk_drew ?_ | refine blk_alloc ?_ _)); exact BK194.out⟩
      have n6_ : Aside0 (Below w.heap.size w ((w34.setCell ⟨gb194, 0, none⟩ (.int .i64 t191)).setCell ⟨gb194, 1, none⟩ (.int .i64 t192))) := (be_ HB)
      (try clear BK181)
      (try clear BK182)
      (try clear BK183)
      (try clear BK185)
      (try clear BK190)
      (try clear BK194)
      (try clear HB)
      generalize ((w34.setCell ⟨gb194, 0, none⟩ (.int .i64 t191)).setCell ⟨gb194, 1, none⟩ (.int .i64 t192)) = w41 at n0_ n1_ n2_ n3_ n4_ n5_ n6_ ⊢
      have BK181 := n0_
      have BK182 := n1_
      have BK183 := n2_
      have BK185 := n3_
      have BK190 := n4_
      have BK194 := n5_
      have HB := n6_
      clear n0_ n1_ n2_ n3_ n4_ n5_ n6_
      replace BK181 := Aside0.mk (blk_drew BK181.out)
      replace BK182 := Aside0.mk (blk_drew BK182.out)
      replace BK183 := Aside0.mk (blk_drew BK183.out)
      replace BK185 := Aside0.mk (blk_drew BK185.out)
      replace BK190 := Aside0.mk (blk_drew BK190.out)
      replace BK194 := Aside0.mk (blk_drew BK194.out)
      replace HB := Aside0.mk (below_drew1 HB.out)
      refine start_ (n := 14) (S := fun w' => w'.cell? ⟨gb183, 0, none⟩ = some (.int .i64 x184000_1) ∧ w'.cell? ⟨gb183, 1, none⟩ = some (.int .i64 x184001_1) ∧ w'.cell? ⟨gb194, 0, none⟩ = some (.int .i64 t191) ∧ w'.cell? ⟨gb194, 1, none⟩ = some (.int .i64 t192)) (ds := [11, 13]) #[false, false, false, false, false, false, false, false, false, false, false, false, false, false] (by kernel_rfl) rfl rfl ⟨(blk_cell BK183.out 0).trans rfl, (blk_cell BK183.out 1).trans rfl, (blk_cell BK194.out 0).trans rfl, (blk_cell BK194.out 1).trans rfl⟩ (fun hHeld => ?_); refine with_tabW series_sum.tab8 series_sum.bits8 (fun HT_ HW_ => ?_)
      generalize w41.drew = w42 at BK181 BK182 BK183 BK185 BK190 BK194 HB hHeld ⊢
      refine pure_ (i := 0) (N := some 54) (v := ?_) (a' := ?_) #[true, false, false, false, false, false, false, false, false, false, false, false, false, false] rfl rfl (any_of HT_.out (by kernel_rfl)) (fun _ _ _ h => h) (Or.inl ⟨by rfl, ?_⟩) ?_ ?_
      rotate_left
      ·intro w'
       go_simp
       with_reducible rfl
      rotate_left
      ·simp only [Act.put, List.setIfInBounds_toArray, List.set_cons_zero, List.set_cons_succ, i64_w, i32_w]
       rfl
      refine pure_ (i := 2) (N := some 56) (v := ?_) (a' := ?_) #[true, false, true, false, false, false, false, false, false, false, false, false, false, false] rfl rfl (any_of HT_.out (by kernel_rfl)) (fun _ _ _ h => h) (Or.inl ⟨by rfl, ?_⟩) ?_ ?_
      rotate_left
      ·intro w'
       go_simp
       with_reducible rfl
      rotate_left
      ·simp only [Act.put, List.setIfInBounds_toArray, List.set_cons_zero, List.set_cons_succ, i64_w, i32_w]
       rfl
      refine pure_ (i := 5) (N := some 59) (v := ?_) (a' := ?_) #[true, false, true, false, false, true, false, false, false, false, false, false, false, false] rfl rfl (any_of HT_.out (by kernel_rfl)) (fun _ _ _ h => h) (Or.inl ⟨by rfl, ?_⟩) ?_ ?_
      rotate_left
      ·intro w'
       go_simp
       with_reducible rfl
      rotate_left
      ·simp only [Act.put, List.setIfInBounds_toArray, List.set_cons_zero, List.set_cons_succ, i64_w, i32_w]
       rfl
      refine pure_ (i := 7) (N := some 61) (v := ?_) (a' := ?_) #[true, false, true, false, false, true, false, true, false, false, false, false, false, false] rfl rfl (any_of HT_.out (by kernel_rfl)) (fun _ _ _ h => h) (Or.inl ⟨by rfl, ?_⟩) ?_ ?_
      rotate_left
      ·intro w'
       go_simp
       with_reducible rfl
      rotate_left
      ·simp only [Act.put, List.setIfInBounds_toArray, List.set_cons_zero, List.set_cons_succ, i64_w, i32_w]
       rfl
      refine take_ (i := 1) (N := some 55) (v := ?_) (a' := ?_) #[true, true, true, false, false, true, false, true, false, false, false, false, false, false] rfl rfl (take_ofW HT_.out HW_.out (by kernel_rfl)) (fun _ _ _ h => h) (Or.inl ⟨by rfl, ?_⟩) hHeld ?_ ?_
      rotate_left
      ·rintro w' ⟨s0, s1, s2, s3⟩
       go_simp
       with_reducible rfl
      rotate_left
      ·simp only [Act.put, List.setIfInBounds_toArray, List.set_cons_zero, List.set_cons_succ, i64_w, i32_w]
       rfl
      refine take_ (i := 3) (N := some 57) (v := ?_) (a' := ?_) #[true, true, true, true, false, true, false, true, false, false, false, false, false, false] rfl rfl (take_ofW HT_.out HW_.out (by kernel_rfl)) (fun _ _ _ h => h) (Or.inl ⟨by rfl, ?_⟩) hHeld ?_ ?_
      rotate_left
      ·rintro w' ⟨s0, s1, s2, s3⟩
       go_simp
       with_reducible rfl
      rotate_left
      ·simp only [Act.put, List.setIfInBounds_toArray, List.set_cons_zero, List.set_cons_succ, i64_w, i32_w]
       rfl
      refine pure_ (i := 4) (N := some 58) (v := ?_) (a' := ?_) #[true, true, true, true, true, true, false, true, false, false, false, false, false, false] rfl rfl (any_of HT_.out (by kernel_rfl)) (fun _ _ _ h => h) (Or.inl ⟨by rfl, ?_⟩) ?_ ?_
      rotate_left
      ·intro w'
       go_simp
       with_reducible rfl
      rotate_left
      ·simp only [Act.put, List.setIfInBounds_toArray, List.set_cons_zero, List.set_cons_succ, i64_w, i32_w]
       rfl
      refine take_ (i := 6) (N := some 60) (v := ?_) (a' := ?_) #[true, true, true, true, true, true, true, true, false, false, false, false, false, false] rfl rfl (take_ofW HT_.out HW_.out (by kernel_rfl)) (fun _ _ _ h => h) (Or.inl ⟨by rfl, ?_⟩) hHeld ?_ ?_
      rotate_left
      ·rintro w' ⟨s0, s1, s2, s3⟩
       go_simp
       with_reducible rfl
      rotate_left
      ·simp only [Act.put, List.setIfInBounds_toArray, List.set_cons_zero, List.set_cons_succ, i64_w, i32_w]
       rfl
      refine pure_ (i := 10) (N := some 64) (v := ?_) (a' := ?_) #[true, true, true, true, true, true, true, true, false, false, true, false, false, false] rfl rfl (any_of HT_.out (by kernel_rfl)) (fun _ _ _ h => h) (Or.inl ⟨by rfl, ?_⟩) ?_ ?_
      rotate_left
      ·intro w'
       go_simp
       with_reducible rfl
      rotate_left
      ·simp only [Act.put, List.setIfInBounds_toArray, List.set_cons_zero, List.set_cons_succ, i64_w, i32_w]
       rfl
      try simp only [] at hHeld
      obtain ⟨s0, s1, s2, s3⟩ := hHeld
      apply mergeQ_
      ·intro hQ
       refine readyQ_ [8, 11] (by kernel_rfl) (by simp) (consQ_ (i := 8) (N := some 62) #[true, true, true, true, true, true, true, true, true, false, true, false, false, false] rfl rfl (by kernel_rfl) (fun K hK => ?_) (consL_ (i := 11) (N := none) #[true, true, true, true, true, true, true, true, false, false, true, true, false, false] rfl rfl (by kernel_rfl) (by decide) (fun K hK => ?_) AllReadyL.nil))
       ·skip
        refine value_ (w1 := ?_) (v := ?_) (by rfl) rfl ?_ ?_
        rotate_left 2
        ·go_simp
         constructor
         ·rfl
         ·rfl
        refine hK.out _ _ (fun h_ => h_) ?_
        clear hK K
        refine norm_ (a' := ?_) ?_ ?_
        rotate_left
        ·show Act.put _ (some 62) _ = _
         simp only [Act.put, List.setIfInBounds_toArray, List.set_cons_zero, List.set_cons_succ, i64_w, i32_w]
         rfl
        refine pure_ (i := 9) (N := some 63) (v := ?_) (a' := ?_) #[true, true, true, true, true, true, true, true, true, true, true, false, false, false] rfl rfl (any_of HT_.out (by kernel_rfl)) (fun _ _ _ h => h) (Or.inl ⟨by rfl, ?_⟩) ?_ ?_
        rotate_left
        ·intro w'
         go_simp
         with_reducible rfl
        rotate_left
        ·simp only [Act.put, List.setIfInBounds_toArray, List.set_cons_zero, List.set_cons_succ, i64_w, i32_w]
         rfl
        refine readyQ_ [11] (by kernel_rfl) (by simp) (consL_ (i := 11) (N := none) #[true, true, true, true, true, true, true, true, true, true, true, true, false, false] rfl rfl (by kernel_rfl) (by decide) (fun K hK => ?_) AllReadyL.nil)
        have hs43 : w42.cell? ⟨gb183, 0, none⟩ = some (.int .i64 x184000_1) := (blk_cell BK183.out 0).trans rfl
        have hfs43 := blk_frozen BK183.out 0
        have hns43_0 := NB181_183.out
        have hns43_1 := NB182_183.out
        have hns43_3 := NB185_183.out
        have hns43_4 := NB190_183.out
        have hns43_5 := NB194_183.out
        have hms43_0 := NB183_181.out
        have hms43_1 := NB183_182.out
        have hms43_3 := NB183_185.out
        have hms43_4 := NB183_190.out
        have hms43_5 := NB183_194.out
        refine skip_ (w1 := ?_) (by rfl) rfl ?_ ?_
        rotate_left
        ·go_simp
         rfl
        refine hK.out _ _ ?_
        clear hK K
        refine pure_ (i := 12) (N := some 65) (v := ?_) (a' := ?_) #[true, true, true, true, true, true, true, true, true, true, true, true, true, false] rfl rfl (any_of HT_.out (by kernel_rfl)) (fun _ _ _ h => h) (Or.inl ⟨by rfl, ?_⟩) ?_ ?_
        rotate_left
        ·intro w'
         go_simp
         with_reducible rfl
        rotate_left
        ·simp only [Act.put, List.setIfInBounds_toArray, List.set_cons_zero, List.set_cons_succ, i64_w, i32_w]
         rfl
        refine readyQ_ [13] (by kernel_rfl) (by simp) (consL_ (i := 13) (N := none) #[true, true, true, true, true, true, true, true, true, true, true, true, true, true] rfl rfl (by kernel_rfl) (by decide) (fun K hK => ?_) AllReadyL.nil)
        have hs44 : w42.cell? ⟨gb183, 1, none⟩ = some (.int .i64 x184001_1) := (blk_cell BK183.out 1).trans rfl
        have hfs44 := blk_frozen BK183.out 1
        have hns44_0 := NB181_183.out
        have hns44_1 := NB182_183.out
        have hns44_3 := NB185_183.out
        have hns44_4 := NB190_183.out
        have hns44_5 := NB194_183.out
        have hms44_0 := NB183_181.out
        have hms44_1 := NB183_182.out
        have hms44_3 := NB183_185.out
        have hms44_4 := NB183_190.out
        have hms44_5 := NB183_194.out
        refine skip_ (w1 := ?_) (by rfl) rfl ?_ ?_
        rotate_left
        ·go_simp
         rfl
        refine hK.out _ _ ?_
        clear hK K
        exact hQ
       ·skip
        have hs43 : w42.cell? ⟨gb183, 0, none⟩ = some (.int .i64 x184000_1) := (blk_cell BK183.out 0).trans rfl
        have hfs43 := blk_frozen BK183.out 0
        have hns43_0 := NB181_183.out
        have hns43_1 := NB182_183.out
        have hns43_3 := NB185_183.out
        have hns43_4 := NB190_183.out
        have hns43_5 := NB194_183.out
        have hms43_0 := NB183_181.out
        have hms43_1 := NB183_182.out
        have hms43_3 := NB183_185.out
        have hms43_4 := NB183_190.out
        have hms43_5 := NB183_194.out
        refine skip_ (w1 := ?_) (by rfl) rfl ?_ ?_
        rotate_left
        ·go_simp
         rfl
        refine hK.out _ _ ?_
        clear hK K
        refine readyQ_ [8] (by kernel_rfl) (by simp) (consQ_ (i := 8) (N := some 62) #[true, true, true, true, true, true, true, true, true, false, true, true, false, false] rfl rfl (by kernel_rfl) (fun K hK => ?_) AllReadyL.nil)
        refine value_ (w1 := ?_) (v := ?_) (by rfl) rfl ?_ ?_
        rotate_left 2
        ·go_simp
         constructor
         ·rfl
         ·rfl
        refine hK.out _ _ (fun h_ => h_) ?_
        clear hK K
        refine norm_ (a' := ?_) ?_ ?_
        rotate_left
        ·show Act.put _ (some 62) _ = _
         simp only [Act.put, List.setIfInBounds_toArray, List.set_cons_zero, List.set_cons_succ, i64_w, i32_w]
         rfl
        refine pure_ (i := 9) (N := some 63) (v := ?_) (a' := ?_) #[true, true, true, true, true, true, true, true, true, true, true, true, false, false] rfl rfl (any_of HT_.out (by kernel_rfl)) (fun _ _ _ h => h) (Or.inl ⟨by rfl, ?_⟩) ?_ ?_
        rotate_left
        ·intro w'
         go_simp
         with_reducible rfl
        rotate_left
        ·simp only [Act.put, List.setIfInBounds_toArray, List.set_cons_zero, List.set_cons_succ, i64_w, i32_w]
         rfl
        refine pure_ (i := 12) (N := some 65) (v := ?_) (a' := ?_) #[true, true, true, true, true, true, true, true, true, true, true, true, true, false] rfl rfl (any_of HT_.out (by kernel_rfl)) (fun _ _ _ h => h) (Or.inl ⟨by rfl, ?_⟩) ?_ ?_
        rotate_left
        ·intro w'
         go_simp
         with_reducible rfl
        rotate_left
        ·simp only [Act.put, List.setIfInBounds_toArray, List.set_cons_zero, List.set_cons_succ, i64_w, i32_w]
         rfl
        refine readyQ_ [13] (by kernel_rfl) (by simp) (consL_ (i := 13) (N := none) #[true, true, true, true, true, true, true, true, true, true, true, true, true, true] rfl rfl (by kernel_rfl) (by decide) (fun K hK => ?_) AllReadyL.nil)
        have hs44 : w42.cell? ⟨gb183, 1, none⟩ = some (.int .i64 x184001_1) := (blk_cell BK183.out 1).trans rfl
        have hfs44 := blk_frozen BK183.out 1
        have hns44_0 := NB181_183.out
        have hns44_1 := NB182_183.out
        have hns44_3 := NB185_183.out
        have hns44_4 := NB190_183.out
        have hns44_5 := NB194_183.out
        have hms44_0 := NB183_181.out
        have hms44_1 := NB183_182.out
        have hms44_3 := NB183_185.out
        have hms44_4 := NB183_190.out
        have hms44_5 := NB183_194.out
        refine skip_ (w1 := ?_) (by rfl) rfl ?_ ?_
        rotate_left
        ·go_simp
         rfl
        refine hK.out _ _ ?_
        clear hK K
        exact hQ
      refine done_ (done_of HT_.out (by kernel_rfl)) ?_
      try go_wp2
      go_roundg k1
      case measure => have := HK1.out; omega
      case rel => exact ⟨(wrap64 (x27_1 + 1)), (wrap64 (x184000_1 + t191)), (wrap64 (x184001_1 + t192)), (by first | rfl | (simp; done) | (simp [*]; done)), H', ⟨by have := HK1.out; omega⟩, ⟨kk_ BK181⟩, ⟨kk_ BK182⟩, ⟨by (with_reducible repeat (first | refine blk_drewN ?_ _ | refine blk_drew ?_ | refine blk_alloc ?_ _)); refine blk_put (cs := #[.int .i64 (wrap64 (x184000_1 + t191)), .int .i64 x184001_1]) ?_ 1 _ rfl; (with_reducible repeat (first | refine blk_drewN ?_ _ | refine blk_drew ?_ | refine blk_alloc ?_ _)); refine blk_put (cs := #[.int .i64 x184000_1, .int .i64 x184001_1]) ?_ 0 _ rfl; (with_reducible repeat (first | refine blk_drewN ?_ _ | refine blk_drew ?_ | refine blk_alloc ?_ _)); exact BK183.out⟩, (be_ HB)⟩
     ·rw [if_neg c14] at H
      exact absurd H (by simp)
    ·rw [if_neg c13] at H
     exact absurd H (by simp)
   ·rw [if_neg c12] at H
    have c12b0 : decide (x27_1 < (l0_2.length : Int)) = false := decide_eq_false c12
    clear c12
    simp only [Option.some.injEq, Prod.mk.injEq] at H
    obtain ⟨rfl, rfl⟩ := H
    have hnb45 := NB183_181.out
    have hnc45 := NB181_183.out
    have hnb46 := NB183_182.out
    have hnc46 := NB182_183.out
    have hcz47_0 : wr.cell? ⟨gb183, 0, none⟩ = some (.int .i64 x184000_1) := (blk_cell BK183.out 0).trans rfl
    have hcz47_1 : wr.cell? ⟨gb183, 1, none⟩ = some (.int .i64 x184001_1) := (blk_cell BK183.out 1).trans rfl
    have hfz47_0 := blk_frozen BK183.out 0
    have hfz47_1 := blk_frozen BK183.out 1
    have hnb48 := NB182_181.out
    have hnc48 := NB181_182.out
    have hcz49_0 : wr.cell? ⟨gb182, 0, none⟩ = some (.int .i64 0) := (blk_cell BK182.out 0).trans rfl
    have hcz49_1 : wr.cell? ⟨gb182, 1, none⟩ = some (.int .i64 0) := (blk_cell BK182.out 1).trans rfl
    have hfz49_0 := blk_frozen BK182.out 0
    have hfz49_1 := blk_frozen BK182.out 1
    go_wp2
    refine bodyPost_ret (results_cell_row rfl _ _ gb182 24 #[.int .i64 x184000_1, .int .i64 x184001_1] (0, 0) _ rfl (by (with_reducible repeat (first | refine blk_drewN ?_ _ | refine blk_drew ?_ | refine blk_alloc ?_ _)); refine blk_put (cs := #[.int .i64 x184000_1, .int .i64 0]) ?_ 1 _ rfl; (with_reducible repeat (first | refine blk_drewN ?_ _ | refine blk_drew ?_ | refine blk_alloc ?_ _)); refine blk_put (cs := #[.int .i64 0, .int .i64 0]) ?_ 0 _ rfl; (with_reducible repeat (first | refine blk_drewN ?_ _ | refine blk_drew ?_ | refine blk_alloc ?_ _)); exact BK182.out) Try.underlying24 rfl (by kernel_rfl)) rfl ?_
    exact ⟨by first | rfl | (simp [errW_none, errW_some] <;> rfl) | (simp [*, errW_none, errW_some] <;> rfl), (be_ HB).out⟩
end Go.Proofs.Ytmahlfjnejbcnaa.PAll
end
