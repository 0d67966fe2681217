/- Written by a program of this session: what one law needs. -/
import Derived.Test.YtmahlfjnejbcnaaProg
import Derived.Laws.StructEq
import Derived.Test.YtmahlfjnejbcnaaTopSeasonsn2
set_option maxHeartbeats 8000000
set_option maxRecDepth 100000
set_option linter.unusedSimpArgs false
set_option linter.unusedVariables false
section
namespace Go.Proofs.Ytmahlfjnejbcnaa.PAll
open Go.RowKit YtmahlfjnejbcnaaW.PrintWords YtmahlfjnejbcnaaW.PrintLast YtmahlfjnejbcnaaW.PrintMore More2
attribute [local go_sem] max2_int min2_int max_two min_two max_three min_three max_four min_four tdiv2e18_ tdiv1e18_ cellSS_  -- for this text's walks alone
def errW : Option Int → Value
  | none => .nilIface
  | some c => .iface 0 (.int .i64 c)
theorem errW_none : errW none = .nilIface := rfl
theorem errW_some (c : Int) : errW (some c) = .iface 0 (.int .i64 c) := rfl
structure S71 where
  f0 : Int
  f1 : Int
  f2 : Int
def z71 : S71 := ⟨(0 : Int), (0 : Int), (0 : Int)⟩
def k71 : Kd S71 := Kd.iso (Kd.pair (Kd.int .i64) (Kd.pair (Kd.int .i64) (Kd.int .i64))) (fun x : S71 => (x.f0, x.f1, x.f2))
theorem k71_open {w : World} {x : S71} {cs : List Value} (h : k71.K w x cs) : cs = [.int .i64 x.f0, .int .i64 x.f1, .int .i64 x.f2] := by
  obtain ⟨_, _, rfl, rfl, ⟨_, _, rfl, rfl, rfl⟩⟩ := h
  exact rfl
theorem k71_mkM (w : World) (base : Nat) (ok : Nat → Prop) (x : S71)  : k71.M w base ok x [.int .i64 x.f0, .int .i64 x.f1, .int .i64 x.f2] := ⟨[.int .i64 x.f0], [.int .i64 x.f1, .int .i64 x.f2], rfl, rfl, ⟨[.int .i64 x.f1], [.int .i64 x.f2], rfl, rfl, rfl⟩⟩
def rd_T71 (xs : List S71) (i : Int) : S71 := xs.getD i.toNat z71
theorem at_T71 {w : World} {A : Option Addr} {n : Nat} {xs : List S71} (h : Kd.C k71 w A n xs) (i : Int) (h0 : 0 ≤ i) (h1 : i < n) : ∃ ad , A = some ad ∧ w.cell? (ad.add (i.toNat * 3)) = some (.int .i64 (rd_T71 xs i).f0) ∧ w.cell? ⟨(ad.add (i.toNat * 3)).block, (ad.add (i.toNat * 3)).off + 1, none⟩ = some (.int .i64 (rd_T71 xs i).f1) ∧ w.cell? ⟨(ad.add (i.toNat * 3)).block, (ad.add (i.toNat * 3)).off + 2, none⟩ = some (.int .i64 (rd_T71 xs i).f2) := by
  obtain ⟨ad, c, e, _, hK, hc0⟩ := Kd.C_get h z71 i h0 h1
  have hc : ∀ j u, c[j]? = some u → w.cell? (ad.add (i.toNat * 3 + j)) = some u := hc0
  obtain rfl := k71_open hK
  exact ⟨ad, e, hc 0 _ rfl, by rw [← add_field _ _ 1 (by omega)]; exact hc 1 _ rfl, by rw [← add_field _ _ 2 (by omega)]; exact hc 2 _ rfl⟩
end Go.Proofs.Ytmahlfjnejbcnaa.PAll
end
section
namespace Go.Proofs.Ytmahlfjnejbcnaa.PAll
open Go.RowKit YtmahlfjnejbcnaaW.PrintWords YtmahlfjnejbcnaaW.PrintLast YtmahlfjnejbcnaaW.PrintMore More2 Sq
attribute [local go_sem] max2_int min2_int max_two min_two max_three min_three max_four min_four tdiv2e18_ tdiv1e18_ cellSS_  -- for this text's walks alone
def sun_Series.f  : Option (Int × Int × (List (S71)) × Int) := some (775342092, 2737909333333, (([(⟨5318339, 84888545, 2737778555556⟩ : S71), (⟨55536, 169777090, 5475557111112⟩ : S71)] : List (S71))), 2000)
theorem sun_Series.calls  (r1 : Int) (r2 : Int) (r3 : List (S71)) (r4 : Int) (w : World) (h : sun_Series.f  = some (r1, r2, r3, r4)) :
  Calls Try.prog 64 #[] w fun e w' => ∃ v2_ : Value, e = .returned (.agg #[.int .i64 r1, .int .i64 r2, v2_, .int .i64 r4]) ∧ Kd.R k71 71 w' w.heap.size (fun _ => True) v2_ r3 ∧ Below w.heap.size w w' := by
 have hu57 := Try.underlying57
 have hu71 := Try.underlying71
 have HB := Aside0.mk (Below.refl w.heap.size w)
 have H : (some (775342092, 2737909333333, (([(⟨5318339, 84888545, 2737778555556⟩ : S71), (⟨55536, 169777090, 5475557111112⟩ : S71)] : List (S71))), 2000)) = some (r1, r2, r3, r4) := h
 clear h
 obtain ⟨y102, hy102⟩ : ∃ y_ : List (S71), y_ = (([(⟨5318339, 84888545, 2737778555556⟩ : S71), (⟨55536, 169777090, 5475557111112⟩ : S71)] : List (S71))) := ⟨_, rfl⟩
 replace H : (some (775342092, 2737909333333, y102, 2000)) = some (r1, r2, r3, r4) := by first | (rw [hy102]; with_reducible exact H) | (have H2_ := (Option.bind_some _ _).symm.trans H; rw [hy102]; with_reducible exact H2_) | (have H2_ := (Option.bind_some _ _).symm.trans H; with_reducible exact H2_) | with_reducible exact H | (rw [hy102]; exact H) | exact H
 have Ny102 := Aside0.mk hy102
 clear hy102
 simp only [Option.some.injEq, Prod.mk.injEq] at H
 obtain ⟨rfl, rfl, rfl, rfl⟩ := H
 go_enter Try.func64, Try.ntmps64
 go_wp2_with (first | ((with_reducible refine gate_dst (N := 0) rfl ?_); refine box_event ?hg (N := 0) ?hd (cs := #[.int .i64 0, .int .i64 0, .slice none 0 0, .int .i64 0]) (t := 57) ?hr ?_; (case hd => rfl); (case hg => rfl); (case hr => first | (go_simp; done) | (go_simp; rfl)); intro gb101 hg w1 hbox hb; have BK101 := Aside0.mk (hbox); have GW101 := ge_ hg HB; have GE101 := ge_ hg HB; replace HB := bs_ HB hb; clear hb hbox hg) | ((with_reducible refine gate_dst (N := 3) rfl ?_); refine Kd.R_lit k71 _ 71 ?hg (N := 3) ?hd (xs := ([(⟨5318339, 84888545, 2737778555556⟩ : S71), (⟨55536, 169777090, 5475557111112⟩ : S71)] : List (S71))) (inner := [.int .i64 5318339, .int .i64 84888545, .int .i64 2737778555556, .int .i64 55536, .int .i64 169777090, .int .i64 5475557111112]) (ok := fun _ => True) (okp := fun _ => True) ?hr ?hp (fun _ hk => hk) trivial (Below.refl _ _) (Nat.le_refl _) (by simp) ?_; (case hd => rfl); (case hg => rfl); (case hr => first | (go_simp; done) | (go_simp; rfl)); (case hp => exact (Reps.c3 (show Kd.M k71 _ _ _ (⟨5318339, 84888545, 2737778555556⟩ : S71) [.int .i64 5318339, .int .i64 84888545, .int .i64 2737778555556] from (k71_mkM _ _ _ (⟨5318339, 84888545, 2737778555556⟩ : S71) )) (Reps.c3 (show Kd.M k71 _ _ _ (⟨55536, 169777090, 5475557111112⟩ : S71) [.int .i64 55536, .int .i64 169777090, .int .i64 5475557111112] from (k71_mkM _ _ _ (⟨55536, 169777090, 5475557111112⟩ : S71) )) (Reps.none _ _)))); intro v103 w2 ho3 hb hg_ hnew_; clear hg_ hnew_; (first | rw [← Ny102.out] at ho3 | (simp only [Int.reduceToNat] at ho3; rw [← Ny102.out] at ho3)); have HO104 := Aside0.mk (Kd.R_lower ho3 (below_size (be_ HB).out)); replace BK101 := kb_ BK101 hb; replace HB := bs_ HB hb; clear hb ho3; obtain ⟨Ao4, co4, eo4⟩ := Kd.R_slice HO104.out; subst eo4; have hcz5_0 : w2.cell? ⟨gb101, 0, none⟩ = some (.int .i64 0) := (blk_cell BK101.out 0).trans rfl; have hcz5_1 : w2.cell? ⟨gb101, 1, none⟩ = some (.int .i64 0) := (blk_cell BK101.out 1).trans rfl; have hcz5_2 : w2.cell? ⟨gb101, 2, none⟩ = some (.slice none 0 0) := (blk_cell BK101.out 2).trans rfl; have hcz5_3 : w2.cell? ⟨gb101, 3, none⟩ = some (.int .i64 0) := (blk_cell BK101.out 3).trans rfl; have hfz5_0 := blk_frozen BK101.out 0; have hfz5_1 := blk_frozen BK101.out 1; have hfz5_2 := blk_frozen BK101.out 2; have hfz5_3 := blk_frozen BK101.out 3))
 refine bodyPost_ret (results_cell_row rfl _ _ gb101 57 #[.int .i64 775342092, .int .i64 2737909333333, .slice Ao4 y102.length co4, .int .i64 2000] (0, 0) _ rfl (by (with_reducible repeat (first | refine blk_drewN ?_ _ | refine blk_drew ?_ | refine blk_alloc ?_ _)); refine blk_put (cs := #[.int .i64 775342092, .int .i64 2737909333333, .slice Ao4 y102.length co4, .int .i64 0]) ?_ 3 _ rfl; (with_reducible repeat (first | refine blk_drewN ?_ _ | refine blk_drew ?_ | refine blk_alloc ?_ _)); refine blk_put (cs := #[.int .i64 775342092, .int .i64 2737909333333, .slice none 0 0, .int .i64 0]) ?_ 2 _ rfl; (with_reducible repeat (first | refine blk_drewN ?_ _ | refine blk_drew ?_ | refine blk_alloc ?_ _)); refine blk_put (cs := #[.int .i64 775342092, .int .i64 0, .slice none 0 0, .int .i64 0]) ?_ 1 _ rfl; (with_reducible repeat (first | refine blk_drewN ?_ _ | refine blk_drew ?_ | refine blk_alloc ?_ _)); refine blk_put (cs := #[.int .i64 0, .int .i64 0, .slice none 0 0, .int .i64 0]) ?_ 0 _ rfl; (with_reducible repeat (first | refine blk_drewN ?_ _ | refine blk_drew ?_ | refine blk_alloc ?_ _)); exact BK101.out) Try.underlying57 rfl (by kernel_rfl)) rfl ?_
 exact ⟨_, by first | rfl | (simp [errW_none, errW_some] <;> rfl) | (simp [*, errW_none, errW_some] <;> rfl), by (with_reducible repeat (first | apply Kd.R_alloc | apply Kd.R_drewN | apply Kd.R_drew)); exact Kd.R_mono (Kd.R_far (p := ⟨gb101, 3, none⟩) (Kd.R_far (p := ⟨gb101, 2, none⟩) (Kd.R_far (p := ⟨gb101, 1, none⟩) (Kd.R_far (p := ⟨gb101, 0, none⟩) (Kd.R_types HO104.out BK101.out (by decide)) (fun _ hk => hk.2) (.int .i64 775342092)) (fun _ hk => hk.2) (.int .i64 2737909333333)) (fun _ hk => hk.2) (.slice Ao4 y102.length co4)) (fun _ hk => hk.2) (.int .i64 2000)) (fun _ hk => trivial), (be_ HB).out⟩
end Go.Proofs.Ytmahlfjnejbcnaa.PAll
end
section
namespace Go.Proofs.Ytmahlfjnejbcnaa.PAll
open Go.RowKit YtmahlfjnejbcnaaW.PrintWords YtmahlfjnejbcnaaW.PrintLast YtmahlfjnejbcnaaW.PrintMore More2 Sq
attribute [local go_sem] max2_int min2_int max_two min_two max_three min_three max_four min_four tdiv2e18_ tdiv1e18_ cellSS_  -- for this text's walks alone
def series_Valid.f (a0 : Int) : Option (Bool) := if a0 ≥ (-345600000000000) then (some (decide (a0 < 345600086400000))) else (some false)
theorem series_Valid.calls (a0 : Int) (r : Bool) (w : World) (h : series_Valid.f a0 = some r) :
  Calls Try.prog 58 #[.int .i64 a0] w fun e w' => e = .returned (.bool r) ∧ Drawn0 w w' := by
 have H : (if a0 ≥ (-345600000000000) then (some (decide (a0 < 345600086400000))) else (some false)) = some r := h
 clear h
 by_cases c2 : a0 ≥ (-345600000000000)
 ·rw [if_pos c2] at H
  have c2b0 : decide ((-345600000000000) ≤ a0) = true := decide_eq_true c2
  clear c2
  obtain rfl := Option.some.inj H
  simp only [Option.some.injEq, Prod.mk.injEq] at H
  obtain ⟨rfl⟩ := H
  go_enter Try.func58, Try.ntmps58
  go_wp2
  go_ret
  exact ⟨by first | rfl | (simp; done) | (simp [*]; done), by repeat (first | exact Drawn0.refl _ | apply Drawn0.step)⟩
 ·rw [if_neg c2] at H
  have c2b0 : decide ((-345600000000000) ≤ a0) = false := decide_eq_false c2
  clear c2
  obtain rfl := Option.some.inj H
  simp only [Option.some.injEq, Prod.mk.injEq] at H
  obtain ⟨rfl⟩ := H
  go_enter Try.func58, Try.ntmps58
  go_wp2
  go_ret
  exact ⟨by first | rfl | (simp; done) | (simp [*]; done), by repeat (first | exact Drawn0.refl _ | apply Drawn0.step)⟩
end Go.Proofs.Ytmahlfjnejbcnaa.PAll
end
section
namespace Go.Proofs.Ytmahlfjnejbcnaa.PAll
open Go.RowKit YtmahlfjnejbcnaaW.PrintWords YtmahlfjnejbcnaaW.PrintLast YtmahlfjnejbcnaaW.PrintMore More2 Sq
attribute [local go_sem] max2_int min2_int max_two min_two max_three min_three max_four min_four tdiv2e18_ tdiv1e18_ cellSS_  -- for this text's walks alone
def interval_Floor.f (a0 : Int) (a1 : Int) : Option (Int) := if a1 = 0 then (none) else (if (Int.tmod a0 a1) = 0 then (some (wrap64 (Int.tdiv a0 a1))) else (if ((decide (a0 < 0)) != (decide (a1 < 0))) = true then (some (wrap64 ((wrap64 (Int.tdiv a0 a1)) - 1))) else (some (wrap64 (Int.tdiv a0 a1)))))
theorem interval_Floor.calls (a0 : Int) (a1 : Int) (r : Int) (w : World) (h : interval_Floor.f a0 a1 = some r) :
  Calls Try.prog 57 #[.int .i64 a0, .int .i64 a1] w fun e w' => e = .returned (.int .i64 r) ∧ Drawn0 w w' := by
 have H : (if a1 = 0 then (none) else (if (Int.tmod a0 a1) = 0 then (some (wrap64 (Int.tdiv a0 a1))) else (if ((decide (a0 < 0)) != (decide (a1 < 0))) = true then (some (wrap64 ((wrap64 (Int.tdiv a0 a1)) - 1))) else (some (wrap64 (Int.tdiv a0 a1)))))) = some r := h
 clear h
 by_cases c3 : a1 = 0
 ·rw [if_pos c3] at H
  exact absurd H (by simp)
 ·rw [if_neg c3] at H
  have c3b0 : (a1 == 0) = false := beq_eq_false_iff_ne.mpr c3
  have c3b1 : (a1 != 0) = true := bne_iff_ne.mpr c3
  by_cases c4 : (Int.tmod a0 a1) = 0
  ·rw [if_pos c4] at H
   have c4b0 : ((Int.tmod a0 a1) == 0) = true := beq_iff_eq.mpr c4
   have c4b1 : ((Int.tmod a0 a1) != 0) = false := bne_eq_false_iff_eq.mpr c4
   clear c4
   obtain rfl := Option.some.inj H
   simp only [Option.some.injEq, Prod.mk.injEq] at H
   obtain ⟨rfl⟩ := H
   go_enter Try.func57, Try.ntmps57
   go_wp2
   go_ret
   exact ⟨by first | rfl | (simp; done) | (simp [*]; done), by repeat (first | exact Drawn0.refl _ | apply Drawn0.step)⟩
  ·rw [if_neg c4] at H
   have c4b0 : ((Int.tmod a0 a1) == 0) = false := beq_eq_false_iff_ne.mpr c4
   have c4b1 : ((Int.tmod a0 a1) != 0) = true := bne_iff_ne.mpr c4
   by_cases c5 : ((decide (a0 < 0)) != (decide (a1 < 0))) = true
   ·rw [if_pos c5] at H
    have c5b0 : ((decide (a0 < 0)) != (decide (a1 < 0))) = true := c5
    (try (have c5b1 : decide ((decide (a0 < 0)) = (decide (a1 < 0))) = false := by simpa using c5))
    (try (have c5b2 : ((decide (a0 < 0)) == (decide (a1 < 0))) = false := by simpa using c5))
    (try (have c5b3 : ¬ ((decide (a0 < 0)) = (decide (a1 < 0))) := by simpa using c5))
    clear c5
    obtain rfl := Option.some.inj H
    simp only [Option.some.injEq, Prod.mk.injEq] at H
    obtain ⟨rfl⟩ := H
    go_enter Try.func57, Try.ntmps57
    go_wp2
    go_ret
    exact ⟨by first | rfl | (simp; done) | (simp [*]; done), by repeat (first | exact Drawn0.refl _ | apply Drawn0.step)⟩
   ·rw [if_neg c5] at H
    have c5b0 : ((decide (a0 < 0)) != (decide (a1 < 0))) = false := by simpa using c5
    (try (have c5b1 : decide ((decide (a0 < 0)) = (decide (a1 < 0))) = true := by simpa using c5))
    (try (have c5b2 : ((decide (a0 < 0)) == (decide (a1 < 0))) = true := by simpa using c5))
    clear c5
    obtain rfl := Option.some.inj H
    simp only [Option.some.injEq, Prod.mk.injEq] at H
    obtain ⟨rfl⟩ := H
    go_enter Try.func57, Try.ntmps57
    go_wp2
    go_ret
    exact ⟨by first | rfl | (simp; done) | (simp [*]; done), by repeat (first | exact Drawn0.refl _ | apply Drawn0.step)⟩
end Go.Proofs.Ytmahlfjnejbcnaa.PAll
end
section
namespace Go.Proofs.Ytmahlfjnejbcnaa.PAll
open Go.RowKit YtmahlfjnejbcnaaW.PrintWords YtmahlfjnejbcnaaW.PrintLast YtmahlfjnejbcnaaW.PrintMore More2 Sq
attribute [local go_sem] max2_int min2_int max_two min_two max_three min_three max_four min_four tdiv2e18_ tdiv1e18_ cellSS_  -- for this text's walks alone
def series_Reduced.f (a0_0 : Int) (a0_1 : Int) : Option (Int × Int) := (interval_Floor.f a0_0 1000000000).bind fun t107 => (some (wrap64 (a0_0 - (wrap64 (t107 * 1000000000))), wrap64 (a0_1 - (wrap64 (t107 * 1000000000)))))
theorem series_Reduced.calls (a0_0 : Int) (a0_1 : Int) (r1 : Int) (r2 : Int) (w : World) (h : series_Reduced.f a0_0 a0_1 = some (r1, r2)) :
  Calls Try.prog 74 #[.agg #[.int .i64 a0_0, .int .i64 a0_1]] w fun e w' => e = .returned (.agg #[.int .i64 r1, .int .i64 r2]) ∧ Below w.heap.size w w' := by
 have hu24 := Try.underlying24
 have HB := Aside0.mk (Below.refl w.heap.size w)
 have H : ((interval_Floor.f a0_0 1000000000).bind fun t107 => (some (wrap64 (a0_0 - (wrap64 (t107 * 1000000000))), wrap64 (a0_1 - (wrap64 (t107 * 1000000000)))))) = some (r1, r2) := h
 clear h
 replace H := Option.bind_eq_some_iff.mp H
 obtain ⟨t107, A20, H⟩ := H
 replace H : (some (wrap64 (a0_0 - (wrap64 (t107 * 1000000000))), wrap64 (a0_1 - (wrap64 (t107 * 1000000000))))) = some (r1, r2) := H
 have A2 := Aside0.mk A20
 clear A20
 simp only [Option.some.injEq, Prod.mk.injEq] at H
 obtain ⟨rfl, rfl⟩ := H
 go_enter Try.func74, Try.ntmps74
 go_wp2_with (first | ((with_reducible refine gate_dst (N := 1) rfl ?_); refine box_event ?hg (N := 1) ?hd (cs := #[.int .i64 a0_0, .int .i64 a0_1]) (t := 24) ?hr ?_; (case hd => rfl); (case hg => rfl); (case hr => first | (go_simp; done) | (go_simp; rfl)); intro gb105 hg w3 hbox hb; have BK105 := Aside0.mk (hbox); have GW105 := ge_ hg HB; have GE105 := ge_ hg HB; replace HB := bs_ HB hb; clear hb hbox hg) | ((with_reducible refine gate_dst (N := 2) rfl ?_); refine box_event ?hg (N := 2) ?hd (cs := #[.int .i64 0, .int .i64 0]) (t := 24) ?hr ?_; (case hd => rfl); (case hg => rfl); (case hr => first | (go_simp; done) | (go_simp; rfl)); intro gb106 hg w4 hbox hb; have BK106 := Aside0.mk (hbox); have GW106 := ge_ hg HB; have GE106 := ge_ hg HB; have NB105_106 := nl_ hg BK105; have NB106_105 := ng_ hg BK105; replace BK105 := kb_ BK105 hb; replace HB := bs_ HB hb; clear hb hbox hg; have hnb5 := NB105_106.out; have hnc5 := NB106_105.out; have hcz6_0 : w4.cell? ⟨gb105, 0, none⟩ = some (.int .i64 a0_0) := (blk_cell BK105.out 0).trans rfl; have hcz6_1 : w4.cell? ⟨gb105, 1, none⟩ = some (.int .i64 a0_1) := (blk_cell BK105.out 1).trans rfl; have hfz6_0 := blk_frozen BK105.out 0; have hfz6_1 := blk_frozen BK105.out 1) | ((with_reducible refine gate_callee (f := 57) rfl ?_); refine goesL_ (some 6) rfl rfl Try.func57 (by kernel_rfl) rfl #[.int .i64 a0_0, .int .i64 1000000000] rfl (by (try simp only [List.map_toArray, List.map_cons, List.map_nil]); first | done | rfl | (simp only [List.length_drop, List.length_take]; rfl)) ?_; (with_reducible refine (interval_Floor.calls a0_0 1000000000 t107 _ A2.out).mono ?_); rintro e w' ⟨rfl, ⟨nd, rfl⟩⟩; refine ⟨_, rfl, ?_⟩; (try (rw [drewN_self w4]; generalize hq_ : World.drewN w4 _ = w4; have n0_ : Aside0 (w4.heap[gb105]? = some (.cells #[.int .i64 a0_0, .int .i64 a0_1] 24 (0, 0))) := ⟨by rw [← hq_]; exact (kk_ BK105)⟩; have n1_ : Aside0 (w4.heap[gb106]? = some (.cells #[.int .i64 0, .int .i64 0] 24 (0, 0))) := ⟨by rw [← hq_]; exact (kk_ BK106)⟩; have n2_ : Aside0 (Below w.heap.size w w4) := ⟨by rw [← hq_]; exact (be_ HB).out⟩; clear BK105 BK106 HB hq_; have BK105 := n0_; have BK106 := n1_; have HB := n2_; clear n0_ n1_ n2_; have hcy105_0 : w4.cell? ⟨gb105, 0, none⟩ = some (.int .i64 a0_0) := (blk_cell BK105.out 0).trans rfl; have hfy105_0 := blk_frozen BK105.out 0; have hcy105_1 : w4.cell? ⟨gb105, 1, none⟩ = some (.int .i64 a0_1) := (blk_cell BK105.out 1).trans rfl; have hfy105_1 := blk_frozen BK105.out 1; have hcy106_0 : w4.cell? ⟨gb106, 0, none⟩ = some (.int .i64 0) := (blk_cell BK106.out 0).trans rfl; have hfy106_0 := blk_frozen BK106.out 0; have hcy106_1 : w4.cell? ⟨gb106, 1, none⟩ = some (.int .i64 0) := (blk_cell BK106.out 1).trans rfl; have hfy106_1 := blk_frozen BK106.out 1)); have hcz7_0 : w4.cell? ⟨gb106, 0, none⟩ = some (.int .i64 0) := (blk_cell BK106.out 0).trans rfl; have hcz7_1 : w4.cell? ⟨gb106, 1, none⟩ = some (.int .i64 0) := (blk_cell BK106.out 1).trans rfl; have hfz7_0 := blk_frozen BK106.out 0; have hfz7_1 := blk_frozen BK106.out 1))
 refine bodyPost_ret (results_cell_row rfl _ _ gb106 24 #[.int .i64 (wrap64 (a0_0 - (wrap64 (t107 * 1000000000)))), .int .i64 (wrap64 (a0_1 - (wrap64 (t107 * 1000000000))))] (0, 0) _ rfl (by (with_reducible repeat (first | refine blk_drewN ?_ _ | refine blk_drew ?_ | refine blk_alloc ?_ _)); refine blk_put (cs := #[.int .i64 (wrap64 (a0_0 - (wrap64 (t107 * 1000000000)))), .int .i64 0]) ?_ 1 _ rfl; (with_reducible repeat (first | refine blk_drewN ?_ _ | refine blk_drew ?_ | refine blk_alloc ?_ _)); refine blk_put (cs := #[.int .i64 0, .int .i64 0]) ?_ 0 _ rfl; (with_reducible repeat (first | refine blk_drewN ?_ _ | refine blk_drew ?_ | refine blk_alloc ?_ _)); exact BK106.out) Try.underlying24 rfl (by kernel_rfl)) rfl ?_
 exact ⟨by first | rfl | (simp [errW_none, errW_some] <;> rfl) | (simp [*, errW_none, errW_some] <;> rfl), (be_ HB).out⟩
end Go.Proofs.Ytmahlfjnejbcnaa.PAll
end
section
namespace Go.Proofs.Ytmahlfjnejbcnaa.PAll
open Go.RowKit YtmahlfjnejbcnaaW.PrintWords YtmahlfjnejbcnaaW.PrintLast YtmahlfjnejbcnaaW.PrintMore More2 Sq
attribute [local go_sem] max2_int min2_int max_two min_two max_three min_three max_four min_four tdiv2e18_ tdiv1e18_ cellSS_  -- for this text's walks alone
def series_beyond.f (a0 : Int) (a1 : Int) : Option (Bool) := if a0 < (wrap64 (-a1)) then (some true) else (some (decide (a0 > a1)))
theorem series_beyond.calls (a0 : Int) (a1 : Int) (r : Bool) (w : World) (h : series_beyond.f a0 a1 = some r) :
  Calls Try.prog 89 #[.int .i64 a0, .int .i64 a1] w fun e w' => e = .returned (.bool r) ∧ Drawn0 w w' := by
 have H : (if a0 < (wrap64 (-a1)) then (some true) else (some (decide (a0 > a1)))) = some r := h
 clear h
 by_cases c3 : a0 < (wrap64 (-a1))
 ·rw [if_pos c3] at H
  have c3b0 : decide (a0 < (wrap64 (-a1))) = true := decide_eq_true c3
  clear c3
  obtain rfl := Option.some.inj H
  simp only [Option.some.injEq, Prod.mk.injEq] at H
  obtain ⟨rfl⟩ := H
  go_enter Try.func89, Try.ntmps89
  go_wp2
  go_ret
  exact ⟨by first | rfl | (simp; done) | (simp [*]; done), by repeat (first | exact Drawn0.refl _ | apply Drawn0.step)⟩
 ·rw [if_neg c3] at H
  have c3b0 : decide (a0 < (wrap64 (-a1))) = false := decide_eq_false c3
  clear c3
  obtain rfl := Option.some.inj H
  simp only [Option.some.injEq, Prod.mk.injEq] at H
  obtain ⟨rfl⟩ := H
  go_enter Try.func89, Try.ntmps89
  go_wp2
  go_ret
  exact ⟨by first | rfl | (simp; done) | (simp [*]; done), by repeat (first | exact Drawn0.refl _ | apply Drawn0.step)⟩
end Go.Proofs.Ytmahlfjnejbcnaa.PAll
end
section
namespace Go.Proofs.Ytmahlfjnejbcnaa.PAll
open Go.RowKit YtmahlfjnejbcnaaW.PrintWords YtmahlfjnejbcnaaW.PrintLast YtmahlfjnejbcnaaW.PrintMore More2 Sq
attribute [local go_sem] max2_int min2_int max_two min_two max_three min_three max_four min_four tdiv2e18_ tdiv1e18_ cellSS_  -- for this text's walks alone
mutual
def series_Check.j0 : Nat → Bool → Int → Int → List (S71) → Int → Option (Int)
 | 0, _, _, _, _, _ => none
 | k + 1, x26, x109000, x109001, x109002, x109003 => if x26 = true then (some 3) else (series_Check.l0 k x109002 (x109002.length : Int) 0)
def series_Check.l0 : Nat → List (S71) → Int → Int → Option (Int)
 | 0, _, _, _ => none
 | k + 1, x28, x29, x30 => if x30 < x29 then (if 0 ≤ x30 then (if x30 < (x28.length : Int) then ((series_beyond.f ((rd_T71 x28 x30).f0) 1000000000).bind fun t113 => (if t113 = true then (some 3) else (if ((rd_T71 x28 x30).f1) < 0 then (some 3) else (if ((rd_T71 x28 x30).f1) ≥ 1000000000 then (some 3) else ((series_beyond.f ((rd_T71 x28 x30).f2) 4000000000000000).bind fun t114 => (if t114 = true then (some 3) else (series_Check.l0 k x28 x29 (wrap64 (x30 + 1))))))))) else (none)) else (none)) else (some 0)
end
def series_Check.f (k : Nat) (a0_0 : Int) (a0_1 : Int) (l0_2 : List (S71)) (a0_3 : Int) : Option (Int) := if (l0_2.length : Int) > 40 then (some 2) else ((series_beyond.f a0_0 1000000000).bind fun t109 => (if t109 = true then (series_Check.j0 k true a0_0 a0_1 l0_2 a0_3) else ((series_beyond.f a0_1 4000000000000000).bind fun t110 => (if t110 = true then (series_Check.j0 k true a0_0 a0_1 l0_2 a0_3) else (if a0_3 < 0 then (series_Check.j0 k true a0_0 a0_1 l0_2 a0_3) else (series_Check.j0 k (decide (a0_3 > 100000000)) a0_0 a0_1 l0_2 a0_3))))))
theorem series_Check.mono_l : ∀ k, (∀ y0 y1 y2 y3 y4, LeO (series_Check.j0 k y0 y1 y2 y3 y4) (series_Check.j0 (k + 1) y0 y1 y2 y3 y4)) ∧ (∀ y0 y1 y2, LeO (series_Check.l0 k y0 y1 y2) (series_Check.l0 (k + 1) y0 y1 y2))
 | 0 => ⟨fun _ _ _ _ _ r h => by simp [series_Check.j0] at h, fun _ _ _ r h => by simp [series_Check.l0] at h⟩
 | k + 1 => by
  obtain ⟨ih0, ih1⟩ := series_Check.mono_l k
  refine ⟨?_, ?_⟩
  ·intro y0 y1 y2 y3 y4
   unfold series_Check.j0
   repeat' first
   | (with_reducible exact ih0 _ _ _ _ _)
   | (with_reducible exact ih1 _ _ _)
   | (with_reducible exact LeO.refl _)
   | (with_reducible exact LeO.none _)
   | (with_reducible refine LeO.ite ?_ ?_)
   | (with_reducible refine LeO.bind ?_ (fun _ => ?_))
   | exact ih0 _ _ _ _ _
   | exact ih1 _ _ _
   | exact LeO.none _
   | refine LeO.ite ?_ ?_
   | refine LeO.bind ?_ (fun _ => ?_)
  ·intro y0 y1 y2
   unfold series_Check.l0
   repeat' first
   | (with_reducible exact ih0 _ _ _ _ _)
   | (with_reducible exact ih1 _ _ _)
   | (with_reducible exact LeO.refl _)
   | (with_reducible exact LeO.none _)
   | (with_reducible refine LeO.ite ?_ ?_)
   | (with_reducible refine LeO.bind ?_ (fun _ => ?_))
   | exact ih0 _ _ _ _ _
   | exact ih1 _ _ _
   | exact LeO.none _
   | refine LeO.ite ?_ ?_
   | refine LeO.bind ?_ (fun _ => ?_)
theorem series_Check.mono : ∀ a0 a1 a2 a3 k, LeO (series_Check.f k a0 a1 a2 a3) (series_Check.f (k + 1) a0 a1 a2 a3) := by
 intro a0 a1 a2 a3 k
 obtain ⟨ih0, ih1⟩ := series_Check.mono_l k
 unfold series_Check.f
 repeat' first
   | (with_reducible exact ih0 _ _ _ _ _)
   | (with_reducible exact ih1 _ _ _)
   | (with_reducible exact LeO.refl _)
   | (with_reducible exact LeO.none _)
   | (with_reducible refine LeO.ite ?_ ?_)
   | (with_reducible refine LeO.bind ?_ (fun _ => ?_))
   | exact ih0 _ _ _ _ _
   | exact ih1 _ _ _
   | exact LeO.none _
   | refine LeO.ite ?_ ?_
   | refine LeO.bind ?_ (fun _ => ?_)
theorem series_Check.calls (k : Nat) (a0_0 : Int) (a0_1 : Int) (A0_2 : Option Addr) (c0_2 : Nat) (l0_2 : List (S71)) (a0_3 : Int) (r : Int) (w : World) (hr0_2 : Kd.C k71 w A0_2 l0_2.length l0_2) (hc0_2 : l0_2.length ≤ c0_2) (h : series_Check.f k a0_0 a0_1 l0_2 a0_3 = some r) :
  Calls Try.prog 70 #[.agg #[.int .i64 a0_0, .int .i64 a0_1, .slice A0_2 l0_2.length c0_2, .int .i64 a0_3]] w fun e w' => e = .returned (.int .i64 r) ∧ Below w.heap.size w w' := by
 have hu57 := Try.underlying57
 have hu71 := Try.underlying71
 have HR0_2 := Aside0.mk hr0_2
 have HC0_2 := Aside0.mk hc0_2
 clear hr0_2 hc0_2
 have HB := Aside0.mk (Below.refl w.heap.size w)
 have H : (if (l0_2.length : Int) > 40 then (some 2) else ((series_beyond.f a0_0 1000000000).bind fun t109 => (if t109 = true then (series_Check.j0 k true a0_0 a0_1 l0_2 a0_3) else ((series_beyond.f a0_1 4000000000000000).bind fun t110 => (if t110 = true then (series_Check.j0 k true a0_0 a0_1 l0_2 a0_3) else (if a0_3 < 0 then (series_Check.j0 k true a0_0 a0_1 l0_2 a0_3) else (series_Check.j0 k (decide (a0_3 > 100000000)) a0_0 a0_1 l0_2 a0_3))))))) = some r := h
 clear h
 by_cases c2 : (l0_2.length : Int) > 40
 ·rw [if_pos c2] at H
  have c2b0 : decide (40 < (l0_2.length : Int)) = true := decide_eq_true c2
  have c2b1 : decide (40 < l0_2.length) = true := decide_eq_true (by omega)
  clear c2
  obtain rfl := Option.some.inj H
  simp only [Option.some.injEq, Prod.mk.injEq] at H
  obtain ⟨rfl⟩ := H
  go_enter Try.func70, Try.ntmps70
  go_wp2_with (first | ((with_reducible refine gate_dst (N := 1) rfl ?_); refine box_event ?hg (N := 1) ?hd (cs := #[.int .i64 a0_0, .int .i64 a0_1, .slice A0_2 l0_2.length c0_2, .int .i64 a0_3]) (t := 57) ?hr ?_; (case hd => rfl); (case hg => rfl); (case hr => first | (go_simp; done) | (go_simp; rfl)); intro gb108 hg w3 hbox hb; have BK108 := Aside0.mk (hbox); have GW108 := ge_ hg HB; have GE108 := ge_ hg HB; replace HB := bs_ HB hb; clear hb hbox hg; have hcz4_0 : w3.cell? ⟨gb108, 0, none⟩ = some (.int .i64 a0_0) := (blk_cell BK108.out 0).trans rfl; have hcz4_1 : w3.cell? ⟨gb108, 1, none⟩ = some (.int .i64 a0_1) := (blk_cell BK108.out 1).trans rfl; have hcz4_2 : w3.cell? ⟨gb108, 2, none⟩ = some (.slice A0_2 l0_2.length c0_2) := (blk_cell BK108.out 2).trans rfl; have hcz4_3 : w3.cell? ⟨gb108, 3, none⟩ = some (.int .i64 a0_3) := (blk_cell BK108.out 3).trans rfl; have hfz4_0 := blk_frozen BK108.out 0; have hfz4_1 := blk_frozen BK108.out 1; have hfz4_2 := blk_frozen BK108.out 2; have hfz4_3 := blk_frozen BK108.out 3))
  go_ret
  exact ⟨by first | rfl | (simp [errW_none, errW_some] <;> rfl) | (simp [*, errW_none, errW_some] <;> rfl), (be_ HB).out⟩
 ·rw [if_neg c2] at H
  have c2b0 : decide (40 < (l0_2.length : Int)) = false := decide_eq_false c2
  have c2b1 : decide (40 < l0_2.length) = false := decide_eq_false (by omega)
  clear c2
  have HC5 := Aside0.mk H
  clear H
  go_enter Try.func70, Try.ntmps70
  go_upto_region 3 with (first | ((with_reducible refine gate_dst (N := 1) rfl ?_); refine box_event ?hg (N := 1) ?hd (cs := #[.int .i64 a0_0, .int .i64 a0_1, .slice A0_2 l0_2.length c0_2, .int .i64 a0_3]) (t := 57) ?hr ?_; (case hd => rfl); (case hg => rfl); (case hr => first | (go_simp; done) | (go_simp; rfl)); intro gb108 hg w6 hbox hb; have BK108 := Aside0.mk (hbox); have GW108 := ge_ hg HB; have GE108 := ge_ hg HB; replace HB := bs_ HB hb; clear hb hbox hg; have hcz7_0 : w6.cell? ⟨gb108, 0, none⟩ = some (.int .i64 a0_0) := (blk_cell BK108.out 0).trans rfl; have hcz7_1 : w6.cell? ⟨gb108, 1, none⟩ = some (.int .i64 a0_1) := (blk_cell BK108.out 1).trans rfl; have hcz7_2 : w6.cell? ⟨gb108, 2, none⟩ = some (.slice A0_2 l0_2.length c0_2) := (blk_cell BK108.out 2).trans rfl; have hcz7_3 : w6.cell? ⟨gb108, 3, none⟩ = some (.int .i64 a0_3) := (blk_cell BK108.out 3).trans rfl; have hfz7_0 := blk_frozen BK108.out 0; have hfz7_1 := blk_frozen BK108.out 1; have hfz7_2 := blk_frozen BK108.out 2; have hfz7_3 := blk_frozen BK108.out 3))
  (try simp only [Act.put, List.setIfInBounds_toArray, List.set_cons_zero, List.set_cons_succ])
  go_cut [26] (fun v26 wc => ∃ (kq : Nat) (x26_4 : Bool), v26 = .bool x26_4 ∧ Aside0 (series_Check.j0 kq x26_4 a0_0 a0_1 l0_2 a0_3 = some r) ∧ Aside0 (kq ≤ k) ∧ Aside0 (wc.heap[gb108]? = some (.cells #[.int .i64 a0_0, .int .i64 a0_1, (.slice A0_2 l0_2.length c0_2), .int .i64 a0_3] 57 (0, 0))) ∧ Aside0 (Below w.heap.size w wc))
  case first =>
   have H := HC5.out
   clear HC5
   replace H := Option.bind_eq_some_iff.mp H
   obtain ⟨t109, A80, H⟩ := H
   replace H : (if t109 = true then (series_Check.j0 k true a0_0 a0_1 l0_2 a0_3) else ((series_beyond.f a0_1 4000000000000000).bind fun t110 => (if t110 = true then (series_Check.j0 k true a0_0 a0_1 l0_2 a0_3) else (if a0_3 < 0 then (series_Check.j0 k true a0_0 a0_1 l0_2 a0_3) else (series_Check.j0 k (decide (a0_3 > 100000000)) a0_0 a0_1 l0_2 a0_3))))) = some r := H
   have A8 := Aside0.mk A80
   clear A80
   by_cases c9 : t109 = true
   ·subst c9
    have H1 : (series_Check.j0 k true a0_0 a0_1 l0_2 a0_3) = some r := by rw [if_pos rfl] at H; exact H
    clear H
    have H := H1
    clear H1
    have H' := Aside0.mk H
    clear H
    have hcz10_0 : w6.cell? ⟨gb108, 0, none⟩ = some (.int .i64 a0_0) := (blk_cell BK108.out 0).trans rfl
    have hcz10_1 : w6.cell? ⟨gb108, 1, none⟩ = some (.int .i64 a0_1) := (blk_cell BK108.out 1).trans rfl
    have hcz10_2 : w6.cell? ⟨gb108, 2, none⟩ = some (.slice A0_2 l0_2.length c0_2) := (blk_cell BK108.out 2).trans rfl
    have hcz10_3 : w6.cell? ⟨gb108, 3, none⟩ = some (.int .i64 a0_3) := (blk_cell BK108.out 3).trans rfl
    have hfz10_0 := blk_frozen BK108.out 0
    have hfz10_1 := blk_frozen BK108.out 1
    have hfz10_2 := blk_frozen BK108.out 2
    have hfz10_3 := blk_frozen BK108.out 3
    go_wp2_with (first | ((with_reducible refine gate_callee (f := 89) rfl ?_); refine goesL_ (some 11) rfl rfl Try.func89 (by kernel_rfl) rfl #[.int .i64 a0_0, .int .i64 1000000000] rfl (by (try simp only [List.map_toArray, List.map_cons, List.map_nil]); first | done | rfl | (simp only [List.length_drop, List.length_take]; rfl)) ?_; (with_reducible refine (series_beyond.calls a0_0 1000000000 true _ A8.out).mono ?_); rintro e w' ⟨rfl, ⟨nd, rfl⟩⟩; refine ⟨_, rfl, ?_⟩))
    go_meet
    case rel => exact ⟨_, (true), (by first | rfl | (simp; done) | (simp [*]; done)), H', ⟨by first | omega | exact Nat.le_refl _⟩, ⟨kk_ BK108⟩, (be_ HB)⟩
   ·replace c9 := Bool.eq_false_iff.mpr c9
    subst c9
    have H1 : ((series_beyond.f a0_1 4000000000000000).bind fun t110 => (if t110 = true then (series_Check.j0 k true a0_0 a0_1 l0_2 a0_3) else (if a0_3 < 0 then (series_Check.j0 k true a0_0 a0_1 l0_2 a0_3) else (series_Check.j0 k (decide (a0_3 > 100000000)) a0_0 a0_1 l0_2 a0_3)))) = some r := by rw [if_neg (show ¬ (false = true) by decide)] at H; exact H
    clear H
    have H := H1
    clear H1
    replace H := Option.bind_eq_some_iff.mp H
    obtain ⟨t110, A110, H⟩ := H
    replace H : (if t110 = true then (series_Check.j0 k true a0_0 a0_1 l0_2 a0_3) else (if a0_3 < 0 then (series_Check.j0 k true a0_0 a0_1 l0_2 a0_3) else (series_Check.j0 k (decide (a0_3 > 100000000)) a0_0 a0_1 l0_2 a0_3))) = some r := H
    have A11 := Aside0.mk A110
    clear A110
    by_cases c12 : t110 = true
    ·subst c12
     have H1 : (series_Check.j0 k true a0_0 a0_1 l0_2 a0_3) = some r := by rw [if_pos rfl] at H; exact H
     clear H
     have H := H1
     clear H1
     have H' := Aside0.mk H
     clear H
     have hcz13_0 : w6.cell? ⟨gb108, 0, none⟩ = some (.int .i64 a0_0) := (blk_cell BK108.out 0).trans rfl
     have hcz13_1 : w6.cell? ⟨gb108, 1, none⟩ = some (.int .i64 a0_1) := (blk_cell BK108.out 1).trans rfl
     have hcz13_2 : w6.cell? ⟨gb108, 2, none⟩ = some (.slice A0_2 l0_2.length c0_2) := (blk_cell BK108.out 2).trans rfl
     have hcz13_3 : w6.cell? ⟨gb108, 3, none⟩ = some (.int .i64 a0_3) := (blk_cell BK108.out 3).trans rfl
     have hfz13_0 := blk_frozen BK108.out 0
     have hfz13_1 := blk_frozen BK108.out 1
     have hfz13_2 := blk_frozen BK108.out 2
     have hfz13_3 := blk_frozen BK108.out 3
     go_wp2_with (first | ((with_reducible refine gate_callee (f := 89) rfl ?_); refine goesL_ (some 11) rfl rfl Try.func89 (by kernel_rfl) rfl #[.int .i64 a0_0, .int .i64 1000000000] rfl (by (try simp only [List.map_toArray, List.map_cons, List.map_nil]); first | done | rfl | (simp only [List.length_drop, List.length_take]; rfl)) ?_; (with_reducible refine (series_beyond.calls a0_0 1000000000 false _ A8.out).mono ?_); rintro e w' ⟨rfl, ⟨nd, rfl⟩⟩; refine ⟨_, rfl, ?_⟩) | (go_at_call 89; (with_reducible refine (series_beyond.calls a0_1 4000000000000000 true _ A11.out).mono ?_); rintro e w' ⟨rfl, ⟨nd, rfl⟩⟩))
     go_meet
     case rel => exact ⟨_, (true), (by first | rfl | (simp; done) | (simp [*]; done)), H', ⟨by first | omega | exact Nat.le_refl _⟩, ⟨kk_ BK108⟩, (be_ HB)⟩
    ·replace c12 := Bool.eq_false_iff.mpr c12
     subst c12
     have H1 : (if a0_3 < 0 then (series_Check.j0 k true a0_0 a0_1 l0_2 a0_3) else (series_Check.j0 k (decide (a0_3 > 100000000)) a0_0 a0_1 l0_2 a0_3)) = some r := by rw [if_neg (show ¬ (false = true) by decide)] at H; exact H
     clear H
     have H := H1
     clear H1
     by_cases c14 : a0_3 < 0
     ·rw [if_pos c14] at H
      have c14b0 : decide (a0_3 < 0) = true := decide_eq_true c14
      clear c14
      (first | rw [c14b0] | (simp only [i64_w, i32_w]; rw [c14b0]) | skip)
      have H' := Aside0.mk H
      clear H
      have hcz15_0 : w6.cell? ⟨gb108, 0, none⟩ = some (.int .i64 a0_0) := (blk_cell BK108.out 0).trans rfl
      have hcz15_1 : w6.cell? ⟨gb108, 1, none⟩ = some (.int .i64 a0_1) := (blk_cell BK108.out 1).trans rfl
      have hcz15_2 : w6.cell? ⟨gb108, 2, none⟩ = some (.slice A0_2 l0_2.length c0_2) := (blk_cell BK108.out 2).trans rfl
      have hcz15_3 : w6.cell? ⟨gb108, 3, none⟩ = some (.int .i64 a0_3) := (blk_cell BK108.out 3).trans rfl
      have hfz15_0 := blk_frozen BK108.out 0
      have hfz15_1 := blk_frozen BK108.out 1
      have hfz15_2 := blk_frozen BK108.out 2
      have hfz15_3 := blk_frozen BK108.out 3
      go_wp2_with (first | ((with_reducible refine gate_callee (f := 89) rfl ?_); refine goesL_ (some 11) rfl rfl Try.func89 (by kernel_rfl) rfl #[.int .i64 a0_0, .int .i64 1000000000] rfl (by (try simp only [List.map_toArray, List.map_cons, List.map_nil]); first | done | rfl | (simp only [List.length_drop, List.length_take]; rfl)) ?_; (with_reducible refine (series_beyond.calls a0_0 1000000000 false _ A8.out).mono ?_); rintro e w' ⟨rfl, ⟨nd, rfl⟩⟩; refine ⟨_, rfl, ?_⟩) | (go_at_call 89; (with_reducible refine (series_beyond.calls a0_1 4000000000000000 false _ A11.out).mono ?_); rintro e w' ⟨rfl, ⟨nd, rfl⟩⟩))
      go_meet
      case rel => exact ⟨_, (true), (by first | rfl | (simp; done) | (simp [*]; done)), H', ⟨by first | omega | exact Nat.le_refl _⟩, ⟨kk_ BK108⟩, (be_ HB)⟩
     ·rw [if_neg c14] at H
      have c14b0 : decide (a0_3 < 0) = false := decide_eq_false c14
      clear c14
      (first | rw [c14b0] | (simp only [i64_w, i32_w]; rw [c14b0]) | skip)
      have H' := Aside0.mk H
      clear H
      have hcz16_0 : w6.cell? ⟨gb108, 0, none⟩ = some (.int .i64 a0_0) := (blk_cell BK108.out 0).trans rfl
      have hcz16_1 : w6.cell? ⟨gb108, 1, none⟩ = some (.int .i64 a0_1) := (blk_cell BK108.out 1).trans rfl
      have hcz16_2 : w6.cell? ⟨gb108, 2, none⟩ = some (.slice A0_2 l0_2.length c0_2) := (blk_cell BK108.out 2).trans rfl
      have hcz16_3 : w6.cell? ⟨gb108, 3, none⟩ = some (.int .i64 a0_3) := (blk_cell BK108.out 3).trans rfl
      have hfz16_0 := blk_frozen BK108.out 0
      have hfz16_1 := blk_frozen BK108.out 1
      have hfz16_2 := blk_frozen BK108.out 2
      have hfz16_3 := blk_frozen BK108.out 3
      go_wp2_with (first | ((with_reducible refine gate_callee (f := 89) rfl ?_); refine goesL_ (some 11) rfl rfl Try.func89 (by kernel_rfl) rfl #[.int .i64 a0_0, .int .i64 1000000000] rfl (by (try simp only [List.map_toArray, List.map_cons, List.map_nil]); first | done | rfl | (simp only [List.length_drop, List.length_take]; rfl)) ?_; (with_reducible refine (series_beyond.calls a0_0 1000000000 false _ A8.out).mono ?_); rintro e w' ⟨rfl, ⟨nd, rfl⟩⟩; refine ⟨_, rfl, ?_⟩) | (go_at_call 89; (with_reducible refine (series_beyond.calls a0_1 4000000000000000 false _ A11.out).mono ?_); rintro e w' ⟨rfl, ⟨nd, rfl⟩⟩))
      go_meet
      case rel => exact ⟨_, (decide (a0_3 > 100000000)), (by first | rfl | (simp; done) | (simp [*]; done)), H', ⟨by first | omega | exact Nat.le_refl _⟩, ⟨kk_ BK108⟩, (be_ HB)⟩
  case rest =>
   clear HC5
   try clear c1
   try clear c2
   try clear c2b0
   try clear c2b1
   try clear p2
   try clear c7
   try clear c8
   try clear c9
   try clear c12
   try clear c14
   try clear c14b0
   try clear hcz10_0
   try clear hcz10_1
   try clear hcz10_2
   try clear hcz10_3
   try clear hcz13_0
   try clear hcz13_1
   try clear hcz13_2
   try clear hcz13_3
   try clear hcz15_0
   try clear hcz15_1
   try clear hcz15_2
   try clear hcz15_3
   try clear hcz16_0
   try clear hcz16_1
   try clear hcz16_2
   try clear hcz16_3
   try clear hcz4_0
   try clear hcz4_1
   try clear hcz4_2
   try clear hcz4_3
   try clear hcz7_0
   try clear hcz7_1
   try clear hcz7_2
   try clear hcz7_3
   try clear hfz10_0
   try clear hfz10_1
   try clear hfz10_2
   try clear hfz10_3
   try clear hfz13_0
   try clear hfz13_1
   try clear hfz13_2
   try clear hfz13_3
   try clear hfz15_0
   try clear hfz15_1
   try clear hfz15_2
   try clear hfz15_3
   try clear hfz16_0
   try clear hfz16_1
   try clear hfz16_2
   try clear hfz16_3
   try clear hfz4_0
   try clear hfz4_1
   try clear hfz4_2
   try clear hfz4_3
   try clear hfz7_0
   try clear hfz7_1
   try clear hfz7_2
   try clear hfz7_3
   obtain ⟨kq, x26_4, rfl, HA, HJ4, BK108, HB⟩ := hcut
   cases kq with
   | zero => exact absurd HA.out (by simp [series_Check.j0])
   | succ kj4 =>
    have H := HA.out
    clear HA
    simp only [series_Check.j0] at H
    by_cases c17 : x26_4 = true
    ·subst c17
     have H1 : (some 3) = some r := by rw [if_pos rfl] at H; exact H
     clear H
     have H := H1
     clear H1
     obtain rfl := Option.some.inj H
     simp only [Option.some.injEq, Prod.mk.injEq] at H
     obtain ⟨rfl⟩ := H
     go_wp2
     go_ret
     exact ⟨by first | rfl | (simp [errW_none, errW_some] <;> rfl) | (simp [*, errW_none, errW_some] <;> rfl), (be_ HB).out⟩
    ·replace c17 := Bool.eq_false_iff.mpr c17
     subst c17
     have H1 : (series_Check.l0 kj4 l0_2 (l0_2.length : Int) 0) = some r := by rw [if_neg (show ¬ (false = true) by decide)] at H; exact H
     clear H
     have H := H1
     clear H1
     have H' := Aside0.mk H
     clear H
     have hcz18_0 : wc.cell? ⟨gb108, 0, none⟩ = some (.int .i64 a0_0) := (blk_cell BK108.out 0).trans rfl
     have hcz18_1 : wc.cell? ⟨gb108, 1, none⟩ = some (.int .i64 a0_1) := (blk_cell BK108.out 1).trans rfl
     have hcz18_2 : wc.cell? ⟨gb108, 2, none⟩ = some (.slice A0_2 l0_2.length c0_2) := (blk_cell BK108.out 2).trans rfl
     have hcz18_3 : wc.cell? ⟨gb108, 3, none⟩ = some (.int .i64 a0_3) := (blk_cell BK108.out 3).trans rfl
     have hfz18_0 := blk_frozen BK108.out 0
     have hfz18_1 := blk_frozen BK108.out 1
     have hfz18_2 := blk_frozen BK108.out 2
     have hfz18_3 := blk_frozen BK108.out 3
     go_wp2
     go_loopg [30] kj4 (fun kq v30 w' => ∃ (x30_2 : Int), v30 = .int .i64 x30_2 ∧ Aside0 (series_Check.l0 kq l0_2 (l0_2.length : Int) x30_2 = some r) ∧ Aside0 (kq ≤ kj4) ∧ Aside0 (w'.heap[gb108]? = some (.cells #[.int .i64 a0_0, .int .i64 a0_1, (.slice A0_2 l0_2.length c0_2), .int .i64 a0_3] 57 (0, 0))) ∧ Aside0 (Below w.heap.size w w'))
     case atStart => exact ⟨(0), (by first | rfl | (simp; done) | (simp [*]; done)), H', ⟨Nat.le_refl _⟩, ⟨kk_ BK108⟩, (be_ HB)⟩
     case round =>
      clear H'
      try clear c1
      try clear c2
      try clear c2b0
      try clear c2b1
      try clear p2
      try clear c7
      try clear c8
      try clear c9
      try clear c12
      try clear c14
      try clear c14b0
      try clear c17
      try clear hcz10_0
      try clear hcz10_1
      try clear hcz10_2
      try clear hcz10_3
      try clear hcz13_0
      try clear hcz13_1
      try clear hcz13_2
      try clear hcz13_3
      try clear hcz15_0
      try clear hcz15_1
      try clear hcz15_2
      try clear hcz15_3
      try clear hcz16_0
      try clear hcz16_1
      try clear hcz16_2
      try clear hcz16_3
      try clear hcz18_0
      try clear hcz18_1
      try clear hcz18_2
      try clear hcz18_3
      try clear hcz4_0
      try clear hcz4_1
      try clear hcz4_2
      try clear hcz4_3
      try clear hcz7_0
      try clear hcz7_1
      try clear hcz7_2
      try clear hcz7_3
      try clear hfz10_0
      try clear hfz10_1
      try clear hfz10_2
      try clear hfz10_3
      try clear hfz13_0
      try clear hfz13_1
      try clear hfz13_2
      try clear hfz13_3
      try clear hfz15_0
      try clear hfz15_1
      try clear hfz15_2
      try clear hfz15_3
      try clear hfz16_0
      try clear hfz16_1
      try clear hfz16_2
      try clear hfz16_3
      try clear hfz18_0
      try clear hfz18_1
      try clear hfz18_2
      try clear hfz18_3
      try clear hfz4_0
      try clear hfz4_1
      try clear hfz4_2
      try clear hfz4_3
      try clear hfz7_0
      try clear hfz7_1
      try clear hfz7_2
      try clear hfz7_3
      try clear p2
      obtain ⟨x30_2, rfl, HA, HK2, BK108, HB⟩ := hrel
      cases gk with
      | zero => exact absurd HA.out (by simp [series_Check.l0])
      | succ k2 =>
       have H := HA.out
       clear HA
       simp only [series_Check.l0] at H
       by_cases c19 : x30_2 < (l0_2.length : Int)
       ·rw [if_pos c19] at H
        have c19b0 : decide (x30_2 < (l0_2.length : Int)) = true := decide_eq_true c19
        clear c19
        by_cases c20 : 0 ≤ x30_2
        ·rw [if_pos c20] at H
         have c20b0 : decide (0 ≤ x30_2) = true := decide_eq_true c20
         clear c20
         by_cases c21 : x30_2 < (l0_2.length : Int)
         ·rw [if_pos c21] at H
          have c21b0 : decide (x30_2 < (l0_2.length : Int)) = true := decide_eq_true c21
          clear c21
          replace H := Option.bind_eq_some_iff.mp H
          obtain ⟨t113, A220, H⟩ := H
          replace H : (if t113 = true then (some 3) else (if ((rd_T71 l0_2 x30_2).f1) < 0 then (some 3) else (if ((rd_T71 l0_2 x30_2).f1) ≥ 1000000000 then (some 3) else ((series_beyond.f ((rd_T71 l0_2 x30_2).f2) 4000000000000000).bind fun t114 => (if t114 = true then (some 3) else (series_Check.l0 k2 l0_2 (l0_2.length : Int) (wrap64 (x30_2 + 1)))))))) = some r := H
          have A22 := Aside0.mk A220
          clear A220
          by_cases c23 : t113 = true
          ·subst c23
           have H1 : (some 3) = some r := by rw [if_pos rfl] at H; exact H
           clear H
           have H := H1
           clear H1
           obtain rfl := Option.some.inj H
           simp only [Option.some.injEq, Prod.mk.injEq] at H
           obtain ⟨rfl⟩ := H
           have p111 : 0 ≤ (x30_2 : Int) := of_decide_eq_true (by first | (with_reducible assumption) | assumption)
           have q111 : x30_2 < (l0_2.length : Int) := of_decide_eq_true (by first | (with_reducible assumption) | assumption)
           obtain ⟨ad111, e111, hx111_0, hx111_1, hx111_2⟩ := at_T71 HR0_2.out x30_2 p111 q111
           cases e111
           replace hx111_0 := (HB.out.cell (World.block_lt_of_cell? w _ hx111_0)).trans hx111_0
           replace hx111_1 := (HB.out.cell (World.block_lt_of_cell? w _ hx111_1)).trans hx111_1
           replace hx111_2 := (HB.out.cell (World.block_lt_of_cell? w _ hx111_2)).trans hx111_2
           replace p111 := eq_true p111
           replace q111 := eq_true q111
           go_wp2_with (first | ((with_reducible refine gate_dst (N := 4) rfl ?_); refine box_event ?hg (N := 4) ?hd (cs := #[.int .i64 0, .int .i64 0, .int .i64 0]) (t := 71) ?hr ?_; (case hd => rfl); (case hg => rfl); (case hr => first | (go_simp; done) | (go_simp; rfl)); intro gb112 hg w24 hbox hb; have BK112 := Aside0.mk (hbox); have GW112 := ge_ hg HB; have GE112 := ge_ hg HB; have NB108_112 := nl_ hg BK108; have NB112_108 := ng_ hg BK108; replace BK108 := kb_ BK108 hb; replace HB := bs_ HB hb; clear hb hbox hg; have hnb25 := NB112_108.out; have hnc25 := NB108_112.out; have hcz26_0 : w24.cell? ⟨gb112, 0, none⟩ = some (.int .i64 0) := (blk_cell BK112.out 0).trans rfl; have hcz26_1 : w24.cell? ⟨gb112, 1, none⟩ = some (.int .i64 0) := (blk_cell BK112.out 1).trans rfl; have hcz26_2 : w24.cell? ⟨gb112, 2, none⟩ = some (.int .i64 0) := (blk_cell BK112.out 2).trans rfl; have hfz26_0 := blk_frozen BK112.out 0; have hfz26_1 := blk_frozen BK112.out 1; have hfz26_2 := blk_frozen BK112.out 2) | ((with_reducible refine gate_callee (f := 89) rfl ?_); refine goesL_ (some 36) rfl rfl Try.func89 (by kernel_rfl) rfl #[.int .i64 ((rd_T71 l0_2 x30_2).f0), .int .i64 1000000000] rfl (by (try simp only [List.map_toArray, List.map_cons, List.map_nil]); first | done | rfl | (simp only [List.length_drop, List.length_take]; rfl)) ?_; (with_reducible refine (series_beyond.calls ((rd_T71 l0_2 x30_2).f0) 1000000000 true _ A22.out).mono ?_); rintro e w' ⟨rfl, ⟨nd, rfl⟩⟩; refine ⟨_, rfl, ?_⟩))
           go_ret
           exact ⟨by first | rfl | (simp [errW_none, errW_some] <;> rfl) | (simp [*, errW_none, errW_some] <;> rfl), (be_ HB).out⟩
          ·replace c23 := Bool.eq_false_iff.mpr c23
           subst c23
           have H1 : (if ((rd_T71 l0_2 x30_2).f1) < 0 then (some 3) else (if ((rd_T71 l0_2 x30_2).f1) ≥ 1000000000 then (some 3) else ((series_beyond.f ((rd_T71 l0_2 x30_2).f2) 4000000000000000).bind fun t114 => (if t114 = true then (some 3) else (series_Check.l0 k2 l0_2 (l0_2.length : Int) (wrap64 (x30_2 + 1))))))) = some r := by rw [if_neg (show ¬ (false = true) by decide)] at H; exact H
           clear H
           have H := H1
           clear H1
           by_cases c27 : ((rd_T71 l0_2 x30_2).f1) < 0
           ·rw [if_pos c27] at H
            have c27b0 : decide (((rd_T71 l0_2 x30_2).f1) < 0) = true := decide_eq_true c27
            clear c27
            obtain rfl := Option.some.inj H
            simp only [Option.some.injEq, Prod.mk.injEq] at H
            obtain ⟨rfl⟩ := H
            have p111 : 0 ≤ (x30_2 : Int) := of_decide_eq_true (by first | (with_reducible assumption) | assumption)
            have q111 : x30_2 < (l0_2.length : Int) := of_decide_eq_true (by first | (with_reducible assumption) | assumption)
            obtain ⟨ad111, e111, hx111_0, hx111_1, hx111_2⟩ := at_T71 HR0_2.out x30_2 p111 q111
            cases e111
            replace hx111_0 := (HB.out.cell (World.block_lt_of_cell? w _ hx111_0)).trans hx111_0
            replace hx111_1 := (HB.out.cell (World.block_lt_of_cell? w _ hx111_1)).trans hx111_1
            replace hx111_2 := (HB.out.cell (World.block_lt_of_cell? w _ hx111_2)).trans hx111_2
            replace p111 := eq_true p111
            replace q111 := eq_true q111
            go_wp2_with (first | ((with_reducible refine gate_dst (N := 4) rfl ?_); refine box_event ?hg (N := 4) ?hd (cs := #[.int .i64 0, .int .i64 0, .int .i64 0]) (t := 71) ?hr ?_; (case hd => rfl); (case hg => rfl); (case hr => first | (go_simp; done) | (go_simp; rfl)); intro gb112 hg w28 hbox hb; have BK112 := Aside0.mk (hbox); have GW112 := ge_ hg HB; have GE112 := ge_ hg HB; have NB108_112 := nl_ hg BK108; have NB112_108 := ng_ hg BK108; replace BK108 := kb_ BK108 hb; replace HB := bs_ HB hb; clear hb hbox hg; have hnb29 := NB112_108.out; have hnc29 := NB108_112.out; have hcz30_0 : w28.cell? ⟨gb112, 0, none⟩ = some (.int .i64 0) := (blk_cell BK112.out 0).trans rfl; have hcz30_1 : w28.cell? ⟨gb112, 1, none⟩ = some (.int .i64 0) := (blk_cell BK112.out 1).trans rfl; have hcz30_2 : w28.cell? ⟨gb112, 2, none⟩ = some (.int .i64 0) := (blk_cell BK112.out 2).trans rfl; have hfz30_0 := blk_frozen BK112.out 0; have hfz30_1 := blk_frozen BK112.out 1; have hfz30_2 := blk_frozen BK112.out 2) | ((with_reducible refine gate_callee (f := 89) rfl ?_); refine goesL_ (some 36) rfl rfl Try.func89 (by kernel_rfl) rfl #[.int .i64 ((rd_T71 l0_2 x30_2).f0), .int .i64 1000000000] rfl (by (try simp only [List.map_toArray, List.map_cons, List.map_nil]); first | done | rfl | (simp only [List.length_drop, List.length_take]; rfl)) ?_; (with_reducible refine (series_beyond.calls ((rd_T71 l0_2 x30_2).f0) 1000000000 false _ A22.out).mono ?_); rintro e w' ⟨rfl, ⟨nd, rfl⟩⟩; refine ⟨_, rfl, ?_⟩))
            go_ret
            exact ⟨by first | rfl | (simp [errW_none, errW_some] <;> rfl) | (simp [*, errW_none, errW_some] <;> rfl), (be_ HB).out⟩
           ·rw [if_neg c27] at H
            have c27b0 : decide (((rd_T71 l0_2 x30_2).f1) < 0) = false := decide_eq_false c27
            clear c27
            by_cases c31 : ((rd_T71 l0_2 x30_2).f1) ≥ 1000000000
            ·rw [if_pos c31] at H
             have c31b0 : decide (1000000000 ≤ ((rd_T71 l0_2 x30_2).f1)) = true := decide_eq_true c31
             clear c31
             obtain rfl := Option.some.inj H
             simp only [Option.some.injEq, Prod.mk.injEq] at H
             obtain ⟨rfl⟩ := H
             have p111 : 0 ≤ (x30_2 : Int) := of_decide_eq_true (by first | (with_reducible assumption) | assumption)
             have q111 : x30_2 < (l0_2.length : Int) := of_decide_eq_true (by first | (with_reducible assumption) | assumption)
             obtain ⟨ad111, e111, hx111_0, hx111_1, hx111_2⟩ := at_T71 HR0_2.out x30_2 p111 q111
             cases e111
             replace hx111_0 := (HB.out.cell (World.block_lt_of_cell? w _ hx111_0)).trans hx111_0
             replace hx111_1 := (HB.out.cell (World.block_lt_of_cell? w _ hx111_1)).trans hx111_1
             replace hx111_2 := (HB.out.cell (World.block_lt_of_cell? w _ hx111_2)).trans hx111_2
             replace p111 := eq_true p111
             replace q111 := eq_true q111
             go_wp2_with (first | ((with_reducible refine gate_dst (N := 4) rfl ?_); refine box_event ?hg (N := 4) ?hd (cs := #[.int .i64 0, .int .i64 0, .int .i64 0]) (t := 71) ?hr ?_; (case hd => rfl); (case hg => rfl); (case hr => first | (go_simp; done) | (go_simp; rfl)); intro gb112 hg w32 hbox hb; have BK112 := Aside0.mk (hbox); have GW112 := ge_ hg HB; have GE112 := ge_ hg HB; have NB108_112 := nl_ hg BK108; have NB112_108 := ng_ hg BK108; replace BK108 := kb_ BK108 hb; replace HB := bs_ HB hb; clear hb hbox hg; have hnb33 := NB112_108.out; have hnc33 := NB108_112.out; have hcz34_0 : w32.cell? ⟨gb112, 0, none⟩ = some (.int .i64 0) := (blk_cell BK112.out 0).trans rfl; have hcz34_1 : w32.cell? ⟨gb112, 1, none⟩ = some (.int .i64 0) := (blk_cell BK112.out 1).trans rfl; have hcz34_2 : w32.cell? ⟨gb112, 2, none⟩ = some (.int .i64 0) := (blk_cell BK112.out 2).trans rfl; have hfz34_0 := blk_frozen BK112.out 0; have hfz34_1 := blk_frozen BK112.out 1; have hfz34_2 := blk_frozen BK112.out 2) | ((with_reducible refine gate_callee (f := 89) rfl ?_); refine goesL_ (some 36) rfl rfl Try.func89 (by kernel_rfl) rfl #[.int .i64 ((rd_T71 l0_2 x30_2).f0), .int .i64 1000000000] rfl (by (try simp only [List.map_toArray, List.map_cons, List.map_nil]); first | done | rfl | (simp only [List.length_drop, List.length_take]; rfl)) ?_; (with_reducible refine (series_beyond.calls ((rd_T71 l0_2 x30_2).f0) 1000000000 false _ A22.out).mono ?_); rintro e w' ⟨rfl, ⟨nd, rfl⟩⟩; refine ⟨_, rfl, ?_⟩))
             go_ret
             exact ⟨by first | rfl | (simp [errW_none, errW_some] <;> rfl) | (simp [*, errW_none, errW_some] <;> rfl), (be_ HB).out⟩
            ·rw [if_neg c31] at H
             have c31b0 : decide (1000000000 ≤ ((rd_T71 l0_2 x30_2).f1)) = false := decide_eq_false c31
             clear c31
             replace H := Option.bind_eq_some_iff.mp H
             obtain ⟨t114, A350, H⟩ := H
             replace H : (if t114 = true then (some 3) else (series_Check.l0 k2 l0_2 (l0_2.length : Int) (wrap64 (x30_2 + 1)))) = some r := H
             have A35 := Aside0.mk A350
             clear A350
             by_cases c36 : t114 = true
             ·subst c36
              have H1 : (some 3) = some r := by rw [if_pos rfl] at H; exact H
              clear H
              have H := H1
              clear H1
              obtain rfl := Option.some.inj H
              simp only [Option.some.injEq, Prod.mk.injEq] at H
              obtain ⟨rfl⟩ := H
              have p111 : 0 ≤ (x30_2 : Int) := of_decide_eq_true (by first | (with_reducible assumption) | assumption)
              have q111 : x30_2 < (l0_2.length : Int) := of_decide_eq_true (by first | (with_reducible assumption) | assumption)
              obtain ⟨ad111, e111, hx111_0, hx111_1, hx111_2⟩ := at_T71 HR0_2.out x30_2 p111 q111
              cases e111
              replace hx111_0 := (HB.out.cell (World.block_lt_of_cell? w _ hx111_0)).trans hx111_0
              replace hx111_1 := (HB.out.cell (World.block_lt_of_cell? w _ hx111_1)).trans hx111_1
              replace hx111_2 := (HB.out.cell (World.block_lt_of_cell? w _ hx111_2)).trans hx111_2
              replace p111 := eq_true p111
              replace q111 := eq_true q111
              go_wp2_with (first | ((with_reducible refine gate_dst (N := 4) rfl ?_); refine box_event ?hg (N := 4) ?hd (cs := #[.int .i64 0, .int .i64 0, .int .i64 0]) (t := 71) ?hr ?_; (case hd => rfl); (case hg => rfl); (case hr => first | (go_simp; done) | (go_simp; rfl)); intro gb112 hg w37 hbox hb; have BK112 := Aside0.mk (hbox); have GW112 := ge_ hg HB; have GE112 := ge_ hg HB; have NB108_112 := nl_ hg BK108; have NB112_108 := ng_ hg BK108; replace BK108 := kb_ BK108 hb; replace HB := bs_ HB hb; clear hb hbox hg; have hnb38 := NB112_108.out; have hnc38 := NB108_112.out; have hcz39_0 : w37.cell? ⟨gb112, 0, none⟩ = some (.int .i64 0) := (blk_cell BK112.out 0).trans rfl; have hcz39_1 : w37.cell? ⟨gb112, 1, none⟩ = some (.int .i64 0) := (blk_cell BK112.out 1).trans rfl; have hcz39_2 : w37.cell? ⟨gb112, 2, none⟩ = some (.int .i64 0) := (blk_cell BK112.out 2).trans rfl; have hfz39_0 := blk_frozen BK112.out 0; have hfz39_1 := blk_frozen BK112.out 1; have hfz39_2 := blk_frozen BK112.out 2) | ((with_reducible refine gate_callee (f := 89) rfl ?_); refine goesL_ (some 36) rfl rfl Try.func89 (by kernel_rfl) rfl #[.int .i64 ((rd_T71 l0_2 x30_2).f0), .int .i64 1000000000] rfl (by (try simp only [List.map_toArray, List.map_cons, List.map_nil]); first | done | rfl | (simp only [List.length_drop, List.length_take]; rfl)) ?_; (with_reducible refine (series_beyond.calls ((rd_T71 l0_2 x30_2).f0) 1000000000 false _ A22.out).mono ?_); rintro e w' ⟨rfl, ⟨nd, rfl⟩⟩; refine ⟨_, rfl, ?_⟩) | (go_at_call 89; (with_reducible refine (series_beyond.calls ((rd_T71 l0_2 x30_2).f2) 4000000000000000 true _ A35.out).mono ?_); rintro e w' ⟨rfl, ⟨nd, rfl⟩⟩))
              go_ret
              exact ⟨by first | rfl | (simp [errW_none, errW_some] <;> rfl) | (simp [*, errW_none, errW_some] <;> rfl), (be_ HB).out⟩
             ·replace c36 := Bool.eq_false_iff.mpr c36
              subst c36
              have H1 : (series_Check.l0 k2 l0_2 (l0_2.length : Int) (wrap64 (x30_2 + 1))) = some r := by rw [if_neg (show ¬ (false = true) by decide)] at H; exact H
              clear H
              have H := H1
              clear H1
              have H' := Aside0.mk H
              clear H
              have p111 : 0 ≤ (x30_2 : Int) := of_decide_eq_true (by first | (with_reducible assumption) | assumption)
              have q111 : x30_2 < (l0_2.length : Int) := of_decide_eq_true (by first | (with_reducible assumption) | assumption)
              obtain ⟨ad111, e111, hx111_0, hx111_1, hx111_2⟩ := at_T71 HR0_2.out x30_2 p111 q111
              cases e111
              replace hx111_0 := (HB.out.cell (World.block_lt_of_cell? w _ hx111_0)).trans hx111_0
              replace hx111_1 := (HB.out.cell (World.block_lt_of_cell? w _ hx111_1)).trans hx111_1
              replace hx111_2 := (HB.out.cell (World.block_lt_of_cell? w _ hx111_2)).trans hx111_2
              replace p111 := eq_true p111
              replace q111 := eq_true q111
              go_wp2_with (first | ((with_reducible refine gate_dst (N := 4) rfl ?_); refine box_event ?hg (N := 4) ?hd (cs := #[.int .i64 0, .int .i64 0, .int .i64 0]) (t := 71) ?hr ?_; (case hd => rfl); (case hg => rfl); (case hr => first | (go_simp; done) | (go_simp; rfl)); intro gb112 hg w40 hbox hb; have BK112 := Aside0.mk (hbox); have GW112 := ge_ hg HB; have GE112 := ge_ hg HB; have NB108_112 := nl_ hg BK108; have NB112_108 := ng_ hg BK108; replace BK108 := kb_ BK108 hb; replace HB := bs_ HB hb; clear hb hbox hg; have hnb41 := NB112_108.out; have hnc41 := NB108_112.out; have hcz42_0 : w40.cell? ⟨gb112, 0, none⟩ = some (.int .i64 0) := (blk_cell BK112.out 0).trans rfl; have hcz42_1 : w40.cell? ⟨gb112, 1, none⟩ = some (.int .i64 0) := (blk_cell BK112.out 1).trans rfl; have hcz42_2 : w40.cell? ⟨gb112, 2, none⟩ = some (.int .i64 0) := (blk_cell BK112.out 2).trans rfl; have hfz42_0 := blk_frozen BK112.out 0; have hfz42_1 := blk_frozen BK112.out 1; have hfz42_2 := blk_frozen BK112.out 2) | ((with_reducible refine gate_callee (f := 89) rfl ?_); refine goesL_ (some 36) rfl rfl Try.func89 (by kernel_rfl) rfl #[.int .i64 ((rd_T71 l0_2 x30_2).f0), .int .i64 1000000000] rfl (by (try simp only [List.map_toArray, List.map_cons, List.map_nil]); first | done | rfl | (simp only [List.length_drop, List.length_take]; rfl)) ?_; (with_reducible refine (series_beyond.calls ((rd_T71 l0_2 x30_2).f0) 1000000000 false _ A22.out).mono ?_); rintro e w' ⟨rfl, ⟨nd, rfl⟩⟩; refine ⟨_, rfl, ?_⟩) | (go_at_call 89; (with_reducible refine (series_beyond.calls ((rd_T71 l0_2 x30_2).f2) 4000000000000000 false _ A35.out).mono ?_); rintro e w' ⟨rfl, ⟨nd, rfl⟩⟩))
              go_roundg k2
              case measure => have := HJ4.out; have := HK2.out; omega
              case rel => exact ⟨(wrap64 (x30_2 + 1)), (by first | rfl | (simp; done) | (simp [*]; done)), H', ⟨by have := HJ4.out; have := HK2.out; omega⟩, ⟨kk_ BK108⟩, (be_ HB)⟩
         ·rw [if_neg c21] at H
          exact absurd H (by simp)
        ·rw [if_neg c20] at H
         exact absurd H (by simp)
       ·rw [if_neg c19] at H
        have c19b0 : decide (x30_2 < (l0_2.length : Int)) = false := decide_eq_false c19
        clear c19
        obtain rfl := Option.some.inj H
        simp only [Option.some.injEq, Prod.mk.injEq] at H
        obtain ⟨rfl⟩ := H
        go_wp2
        go_ret
        exact ⟨by first | rfl | (simp [errW_none, errW_some] <;> rfl) | (simp [*, errW_none, errW_some] <;> rfl), (be_ HB).out⟩
end Go.Proofs.Ytmahlfjnejbcnaa.PAll
end
section
namespace Go.Proofs.Ytmahlfjnejbcnaa.PAll
open Go.RowKit YtmahlfjnejbcnaaW.PrintWords YtmahlfjnejbcnaaW.PrintLast YtmahlfjnejbcnaaW.PrintMore More2 Sq
attribute [local go_sem] max2_int min2_int max_two min_two max_three min_three max_four min_four tdiv2e18_ tdiv1e18_ cellSS_  -- for this text's walks alone
def series_check.f (k : Nat) (a0_0 : Int) (a0_1 : Int) (l0_2 : List (S71)) (a0_3 : Int) (a1 : Int) : Option (Int) := (series_Check.f k a0_0 a0_1 l0_2 a0_3).bind fun t116 => (if t116 = 0 then ((series_Valid.f a1).bind fun t117 => (if t117 = true then (some 0) else (some 3))) else (some t116))
theorem series_check.mono : ∀ a0 a1 a2 a3 a4 k, LeO (series_check.f k a0 a1 a2 a3 a4) (series_check.f (k + 1) a0 a1 a2 a3 a4) := by
 intro a0 a1 a2 a3 a4 k
 unfold series_check.f
 repeat' first
   | (with_reducible exact series_Check.mono _ _ _ _ _)
   | (with_reducible exact LeO.refl _)
   | (with_reducible exact LeO.none _)
   | (with_reducible refine LeO.ite ?_ ?_)
   | (with_reducible refine LeO.bind ?_ (fun _ => ?_))
   | exact series_Check.mono _ _ _ _ _
   | exact LeO.none _
   | refine LeO.ite ?_ ?_
   | refine LeO.bind ?_ (fun _ => ?_)
theorem series_check.calls (k : Nat) (a0_0 : Int) (a0_1 : Int) (A0_2 : Option Addr) (c0_2 : Nat) (l0_2 : List (S71)) (a0_3 : Int) (a1 : Int) (r : Int) (w : World) (hr0_2 : Kd.C k71 w A0_2 l0_2.length l0_2) (hc0_2 : l0_2.length ≤ c0_2) (h : series_check.f k a0_0 a0_1 l0_2 a0_3 a1 = some r) :
  Calls Try.prog 86 #[.agg #[.int .i64 a0_0, .int .i64 a0_1, .slice A0_2 l0_2.length c0_2, .int .i64 a0_3], .int .i64 a1] w fun e w' => e = .returned (.int .i64 r) ∧ Below w.heap.size w w' := by
 have hu57 := Try.underlying57
 have HR0_2 := Aside0.mk hr0_2
 have HC0_2 := Aside0.mk hc0_2
 clear hr0_2 hc0_2
 have HB := Aside0.mk (Below.refl w.heap.size w)
 have H : ((series_Check.f k a0_0 a0_1 l0_2 a0_3).bind fun t116 => (if t116 = 0 then ((series_Valid.f a1).bind fun t117 => (if t117 = true then (some 0) else (some 3))) else (some t116))) = some r := h
 clear h
 replace H := Option.bind_eq_some_iff.mp H
 obtain ⟨t116, A30, H⟩ := H
 replace H : (if t116 = 0 then ((series_Valid.f a1).bind fun t117 => (if t117 = true then (some 0) else (some 3))) else (some t116)) = some r := H
 have A3 := Aside0.mk A30
 clear A30
 by_cases c4 : t116 = 0
 ·rw [if_pos c4] at H
  have c4b0 : (t116 == 0) = true := beq_iff_eq.mpr c4
  have c4b1 : (t116 != 0) = false := bne_eq_false_iff_eq.mpr c4
  clear c4
  replace H := Option.bind_eq_some_iff.mp H
  obtain ⟨t117, A50, H⟩ := H
  replace H : (if t117 = true then (some 0) else (some 3)) = some r := H
  have A5 := Aside0.mk A50
  clear A50
  have HC6 := Aside0.mk H
  clear H
  go_enter Try.func86, Try.ntmps86
  go_upto_if 13 with (first | ((with_reducible refine gate_dst (N := 2) rfl ?_); refine box_event ?hg (N := 2) ?hd (cs := #[.int .i64 a0_0, .int .i64 a0_1, .slice A0_2 l0_2.length c0_2, .int .i64 a0_3]) (t := 57) ?hr ?_; (case hd => rfl); (case hg => rfl); (case hr => first | (go_simp; done) | (go_simp; rfl)); intro gb115 hg w7 hbox hb; have BK115 := Aside0.mk (hbox); have GW115 := ge_ hg HB; have GE115 := ge_ hg HB; replace HB := bs_ HB hb; clear hb hbox hg; have hcz8_0 : w7.cell? ⟨gb115, 0, none⟩ = some (.int .i64 a0_0) := (blk_cell BK115.out 0).trans rfl; have hcz8_1 : w7.cell? ⟨gb115, 1, none⟩ = some (.int .i64 a0_1) := (blk_cell BK115.out 1).trans rfl; have hcz8_2 : w7.cell? ⟨gb115, 2, none⟩ = some (.slice A0_2 l0_2.length c0_2) := (blk_cell BK115.out 2).trans rfl; have hcz8_3 : w7.cell? ⟨gb115, 3, none⟩ = some (.int .i64 a0_3) := (blk_cell BK115.out 3).trans rfl; have hfz8_0 := blk_frozen BK115.out 0; have hfz8_1 := blk_frozen BK115.out 1; have hfz8_2 := blk_frozen BK115.out 2; have hfz8_3 := blk_frozen BK115.out 3) | ((with_reducible refine gate_callee (f := 70) rfl ?_); refine goesL_ (some 7) rfl rfl Try.func70 (by kernel_rfl) rfl #[.agg #[.int .i64 a0_0, .int .i64 a0_1, .slice A0_2 l0_2.length c0_2, .int .i64 a0_3]] rfl (by (try simp only [List.map_toArray, List.map_cons, List.map_nil]); first | done | rfl | (simp only [List.length_drop, List.length_take]; rfl)) ?_; (with_reducible refine (series_Check.calls k a0_0 a0_1 _ _ l0_2 a0_3 t116 _ ?side1 ?side2 A3.out).mono ?_); (case side1 => repeat (first | exact (Kd.C_below HR0_2.out HB.out) | (with_reducible refine Kd.C_alloc ?_ _) | (with_reducible refine Kd.C_drewN ?_ _) | (with_reducible refine Kd.C_drew ?_))); (case side2 => exact HC0_2.out); rintro e w9 ⟨rfl, hb⟩; refine ⟨_, rfl, ?_⟩; replace BK115 := kb_ BK115 hb; replace HB := bs_ HB hb; (try clear hb); (try clear hb2); (try clear hk); (try clear hi)) | ((with_reducible refine gate_callee (f := 58) rfl ?_); refine goesL_ (some 12) rfl rfl Try.func58 (by kernel_rfl) rfl #[.int .i64 a1] rfl (by (try simp only [List.map_toArray, List.map_cons, List.map_nil]); first | done | rfl | (simp only [List.length_drop, List.length_take]; rfl)) ?_; (with_reducible refine (series_Valid.calls a1 t117 _ A5.out).mono ?_); rintro e w' ⟨rfl, ⟨nd, rfl⟩⟩; refine ⟨_, rfl, ?_⟩))
  (try simp only [Act.put, List.setIfInBounds_toArray, List.set_cons_zero, List.set_cons_succ])
  have H := HC6.out
  clear HC6
  by_cases c10 : t117 = true
  ·subst c10
   have H1 : (some 0) = some r := by rw [if_pos rfl] at H; exact H
   clear H
   have H := H1
   clear H1
   obtain rfl := Option.some.inj H
   simp only [Option.some.injEq, Prod.mk.injEq] at H
   obtain ⟨rfl⟩ := H
   go_wp2
   go_ret
   exact ⟨by first | rfl | (simp [errW_none, errW_some] <;> rfl) | (simp [*, errW_none, errW_some] <;> rfl), (be_ HB).out⟩
  ·replace c10 := Bool.eq_false_iff.mpr c10
   subst c10
   have H1 : (some 3) = some r := by rw [if_neg (show ¬ (false = true) by decide)] at H; exact H
   clear H
   have H := H1
   clear H1
   obtain rfl := Option.some.inj H
   simp only [Option.some.injEq, Prod.mk.injEq] at H
   obtain ⟨rfl⟩ := H
   go_wp2
   go_ret
   exact ⟨by first | rfl | (simp [errW_none, errW_some] <;> rfl) | (simp [*, errW_none, errW_some] <;> rfl), (be_ HB).out⟩
 ·rw [if_neg c4] at H
  have c4b0 : (t116 == 0) = false := beq_eq_false_iff_ne.mpr c4
  have c4b1 : (t116 != 0) = true := bne_iff_ne.mpr c4
  obtain rfl := Option.some.inj H
  simp only [Option.some.injEq, Prod.mk.injEq] at H
  obtain ⟨rfl⟩ := H
  go_enter Try.func86, Try.ntmps86
  go_wp2_with (first | ((with_reducible refine gate_dst (N := 2) rfl ?_); refine box_event ?hg (N := 2) ?hd (cs := #[.int .i64 a0_0, .int .i64 a0_1, .slice A0_2 l0_2.length c0_2, .int .i64 a0_3]) (t := 57) ?hr ?_; (case hd => rfl); (case hg => rfl); (case hr => first | (go_simp; done) | (go_simp; rfl)); intro gb115 hg w11 hbox hb; have BK115 := Aside0.mk (hbox); have GW115 := ge_ hg HB; have GE115 := ge_ hg HB; replace HB := bs_ HB hb; clear hb hbox hg; have hcz12_0 : w11.cell? ⟨gb115, 0, none⟩ = some (.int .i64 a0_0) := (blk_cell BK115.out 0).trans rfl; have hcz12_1 : w11.cell? ⟨gb115, 1, none⟩ = some (.int .i64 a0_1) := (blk_cell BK115.out 1).trans rfl; have hcz12_2 : w11.cell? ⟨gb115, 2, none⟩ = some (.slice A0_2 l0_2.length c0_2) := (blk_cell BK115.out 2).trans rfl; have hcz12_3 : w11.cell? ⟨gb115, 3, none⟩ = some (.int .i64 a0_3) := (blk_cell BK115.out 3).trans rfl; have hfz12_0 := blk_frozen BK115.out 0; have hfz12_1 := blk_frozen BK115.out 1; have hfz12_2 := blk_frozen BK115.out 2; have hfz12_3 := blk_frozen BK115.out 3) | ((with_reducible refine gate_callee (f := 70) rfl ?_); refine goesL_ (some 7) rfl rfl Try.func70 (by kernel_rfl) rfl #[.agg #[.int .i64 a0_0, .int .i64 a0_1, .slice A0_2 l0_2.length c0_2, .int .i64 a0_3]] rfl (by (try simp only [List.map_toArray, List.map_cons, List.map_nil]); first | done | rfl | (simp only [List.length_drop, List.length_take]; rfl)) ?_; (with_reducible refine (series_Check.calls k a0_0 a0_1 _ _ l0_2 a0_3 t116 _ ?side1 ?side2 A3.out).mono ?_); (case side1 => repeat (first | exact (Kd.C_below HR0_2.out HB.out) | (with_reducible refine Kd.C_alloc ?_ _) | (with_reducible refine Kd.C_drewN ?_ _) | (with_reducible refine Kd.C_drew ?_))); (case side2 => exact HC0_2.out); rintro e w13 ⟨rfl, hb⟩; refine ⟨_, rfl, ?_⟩; replace BK115 := kb_ BK115 hb; replace HB := bs_ HB hb; (try clear hb); (try clear hb2); (try clear hk); (try clear hi)))
  go_ret
  exact ⟨by first | rfl | (simp [errW_none, errW_some] <;> rfl) | (simp [*, errW_none, errW_some] <;> rfl), (be_ HB).out⟩
end Go.Proofs.Ytmahlfjnejbcnaa.PAll
end
section
namespace Go.Proofs.Ytmahlfjnejbcnaa.PAll
open Go.RowKit YtmahlfjnejbcnaaW.PrintWords YtmahlfjnejbcnaaW.PrintLast YtmahlfjnejbcnaaW.PrintMore More2 Sq
attribute [local go_sem] max2_int min2_int max_two min_two max_three min_three max_four min_four tdiv2e18_ tdiv1e18_ cellSS_  -- for this text's walks alone
def series_Turned.j0 : Nat → Int → Int → Int → Int → Int → Option (Int)
 | 0, _, _, _, _, _ => none
 | k + 1, x0, x5, x6, x7, x8 => if x5 < 0 then ((interval_Floor.f x0 86400000).bind fun t166 => ((interval_Floor.f (wrap64 ((wrap64 (-(wrap64 ((Int.tmod (wrap64 ((Int.tmod (wrap64 (x7 * (wrap64 (Int.tdiv x8 1000)))) 1000000000000000) * 1000)) 1000000000000000) + (Int.tmod (wrap64 (x7 * (Int.tmod x8 1000))) 1000000000000000))))) + (wrap64 ((wrap64 (t166 * x6)) + (wrap64 (Int.tdiv (wrap64 ((wrap64 (x0 - (wrap64 (t166 * 86400000)))) * x6)) 86400000)))))) 1000000000000000).bind fun t167 => (some (wrap64 ((wrap64 ((wrap64 (-(wrap64 ((Int.tmod (wrap64 ((Int.tmod (wrap64 (x7 * (wrap64 (Int.tdiv x8 1000)))) 1000000000000000) * 1000)) 1000000000000000) + (Int.tmod (wrap64 (x7 * (Int.tmod x8 1000))) 1000000000000000))))) + (wrap64 ((wrap64 (t166 * x6)) + (wrap64 (Int.tdiv (wrap64 ((wrap64 (x0 - (wrap64 (t166 * 86400000)))) * x6)) 86400000)))))) - (wrap64 (t167 * 1000000000000000))))))) else ((interval_Floor.f x0 86400000).bind fun t168 => ((interval_Floor.f (wrap64 ((wrap64 ((Int.tmod (wrap64 ((Int.tmod (wrap64 (x7 * (wrap64 (Int.tdiv x8 1000)))) 1000000000000000) * 1000)) 1000000000000000) + (Int.tmod (wrap64 (x7 * (Int.tmod x8 1000))) 1000000000000000))) + (wrap64 ((wrap64 (t168 * x6)) + (wrap64 (Int.tdiv (wrap64 ((wrap64 (x0 - (wrap64 (t168 * 86400000)))) * x6)) 86400000)))))) 1000000000000000).bind fun t169 => (some (wrap64 ((wrap64 ((wrap64 ((Int.tmod (wrap64 ((Int.tmod (wrap64 (x7 * (wrap64 (Int.tdiv x8 1000)))) 1000000000000000) * 1000)) 1000000000000000) + (Int.tmod (wrap64 (x7 * (Int.tmod x8 1000))) 1000000000000000))) + (wrap64 ((wrap64 (t168 * x6)) + (wrap64 (Int.tdiv (wrap64 ((wrap64 (x0 - (wrap64 (t168 * 86400000)))) * x6)) 86400000)))))) - (wrap64 (t169 * 1000000000000000)))))))
def series_Turned.f (k : Nat) (a0 : Int) (a1 : Int) : Option (Int) := (interval_Floor.f a1 86400000).bind fun t164 => ((interval_Floor.f a0 1000000000000000).bind fun t165 => (if t164 < 0 then (series_Turned.j0 k a0 t164 (wrap64 (a1 - (wrap64 (t164 * 86400000)))) (wrap64 (a0 - (wrap64 (t165 * 1000000000000000)))) (wrap64 (-t164))) else (series_Turned.j0 k a0 t164 (wrap64 (a1 - (wrap64 (t164 * 86400000)))) (wrap64 (a0 - (wrap64 (t165 * 1000000000000000)))) t164)))
theorem series_Turned.mono_l : ∀ k, (∀ y0 y1 y2 y3 y4, LeO (series_Turned.j0 k y0 y1 y2 y3 y4) (series_Turned.j0 (k + 1) y0 y1 y2 y3 y4))
 | 0 => fun _ _ _ _ _ r h => by simp [series_Turned.j0] at h
 | k + 1 => by
  have ih0 := series_Turned.mono_l k
  ·intro y0 y1 y2 y3 y4
   unfold series_Turned.j0
   repeat' first
   | (with_reducible exact ih0 _ _ _ _ _)
   | (with_reducible exact LeO.refl _)
   | (with_reducible exact LeO.none _)
   | (with_reducible refine LeO.ite ?_ ?_)
   | (with_reducible refine LeO.bind ?_ (fun _ => ?_))
   | exact ih0 _ _ _ _ _
   | exact LeO.none _
   | refine LeO.ite ?_ ?_
   | refine LeO.bind ?_ (fun _ => ?_)
theorem series_Turned.mono : ∀ a0 a1 k, LeO (series_Turned.f k a0 a1) (series_Turned.f (k + 1) a0 a1) := by
 intro a0 a1 k
 have ih0 := series_Turned.mono_l k
 unfold series_Turned.f
 repeat' first
   | (with_reducible exact ih0 _ _ _ _ _)
   | (with_reducible exact LeO.refl _)
   | (with_reducible exact LeO.none _)
   | (with_reducible refine LeO.ite ?_ ?_)
   | (with_reducible refine LeO.bind ?_ (fun _ => ?_))
   | exact ih0 _ _ _ _ _
   | exact LeO.none _
   | refine LeO.ite ?_ ?_
   | refine LeO.bind ?_ (fun _ => ?_)
theorem series_Turned.calls (k : Nat) (a0 : Int) (a1 : Int) (r : Int) (w : World) (h : series_Turned.f k a0 a1 = some r) :
  Calls Try.prog 88 #[.int .i64 a0, .int .i64 a1] w fun e w' => e = .returned (.int .i64 r) ∧ Drawn0 w w' := by
 have H : ((interval_Floor.f a1 86400000).bind fun t164 => ((interval_Floor.f a0 1000000000000000).bind fun t165 => (if t164 < 0 then (series_Turned.j0 k a0 t164 (wrap64 (a1 - (wrap64 (t164 * 86400000)))) (wrap64 (a0 - (wrap64 (t165 * 1000000000000000)))) (wrap64 (-t164))) else (series_Turned.j0 k a0 t164 (wrap64 (a1 - (wrap64 (t164 * 86400000)))) (wrap64 (a0 - (wrap64 (t165 * 1000000000000000)))) t164)))) = some r := h
 clear h
 replace H := Option.bind_eq_some_iff.mp H
 obtain ⟨t164, A30, H⟩ := H
 replace H : ((interval_Floor.f a0 1000000000000000).bind fun t165 => (if t164 < 0 then (series_Turned.j0 k a0 t164 (wrap64 (a1 - (wrap64 (t164 * 86400000)))) (wrap64 (a0 - (wrap64 (t165 * 1000000000000000)))) (wrap64 (-t164))) else (series_Turned.j0 k a0 t164 (wrap64 (a1 - (wrap64 (t164 * 86400000)))) (wrap64 (a0 - (wrap64 (t165 * 1000000000000000)))) t164))) = some r := H
 have A3 := Aside0.mk A30
 clear A30
 replace H := Option.bind_eq_some_iff.mp H
 obtain ⟨t165, A40, H⟩ := H
 replace H : (if t164 < 0 then (series_Turned.j0 k a0 t164 (wrap64 (a1 - (wrap64 (t164 * 86400000)))) (wrap64 (a0 - (wrap64 (t165 * 1000000000000000)))) (wrap64 (-t164))) else (series_Turned.j0 k a0 t164 (wrap64 (a1 - (wrap64 (t164 * 86400000)))) (wrap64 (a0 - (wrap64 (t165 * 1000000000000000)))) t164)) = some r := H
 have A4 := Aside0.mk A40
 clear A40
 have HC5 := Aside0.mk H
 clear H
 go_enter Try.func88, Try.ntmps88
 go_upto_if 24 with (first | ((with_reducible refine gate_callee (f := 57) rfl ?_); refine goesL_ (some 12) rfl rfl Try.func57 (by kernel_rfl) rfl #[.int .i64 a1, .int .i64 86400000] rfl (by (try simp only [List.map_toArray, List.map_cons, List.map_nil]); first | done | rfl | (simp only [List.length_drop, List.length_take]; rfl)) ?_; (with_reducible refine (interval_Floor.calls a1 86400000 t164 _ A3.out).mono ?_); rintro e w' ⟨rfl, ⟨nd, rfl⟩⟩; refine ⟨_, rfl, ?_⟩) | ((with_reducible refine gate_callee (f := 57) rfl ?_); refine goesL_ (some 19) rfl rfl Try.func57 (by kernel_rfl) rfl #[.int .i64 a0, .int .i64 1000000000000000] rfl (by (try simp only [List.map_toArray, List.map_cons, List.map_nil]); first | done | rfl | (simp only [List.length_drop, List.length_take]; rfl)) ?_; (with_reducible refine (interval_Floor.calls a0 1000000000000000 t165 _ A4.out).mono ?_); rintro e w' ⟨rfl, ⟨nd, rfl⟩⟩; refine ⟨_, rfl, ?_⟩))
 (try simp only [Act.put, List.setIfInBounds_toArray, List.set_cons_zero, List.set_cons_succ])
 go_cut [8] (fun v8 wc => ∃ (kq : Nat) (x8_4 : Int), v8 = .int .i64 x8_4 ∧ Aside0 (series_Turned.j0 kq a0 t164 (wrap64 (a1 - (wrap64 (t164 * 86400000)))) (wrap64 (a0 - (wrap64 (t165 * 1000000000000000)))) x8_4 = some r) ∧ Aside0 (kq ≤ k) ∧ Drawn0 w wc)
 case first =>
  have H := HC5.out
  clear HC5
  by_cases c6 : t164 < 0
  ·rw [if_pos c6] at H
   have c6b0 : decide (t164 < 0) = true := decide_eq_true c6
   clear c6
   (first | rw [c6b0] | (simp only [i64_w, i32_w]; rw [c6b0]) | skip)
   have H' := Aside0.mk H
   clear H
   go_wp2
   go_meet
   case rel => exact ⟨_, (wrap64 (-t164)), (by first | rfl | (simp; done) | (simp [*]; done)), H', ⟨by first | omega | exact Nat.le_refl _⟩, by repeat (first | exact Drawn0.refl _ | apply Drawn0.step)⟩
  ·rw [if_neg c6] at H
   have c6b0 : decide (t164 < 0) = false := decide_eq_false c6
   clear c6
   (first | rw [c6b0] | (simp only [i64_w, i32_w]; rw [c6b0]) | skip)
   have H' := Aside0.mk H
   clear H
   go_wp2
   go_meet
   case rel => exact ⟨_, (t164), (by first | rfl | (simp; done) | (simp [*]; done)), H', ⟨by first | omega | exact Nat.le_refl _⟩, by repeat (first | exact Drawn0.refl _ | apply Drawn0.step)⟩
 case rest =>
  clear HC5
  try clear p2
  try clear c5
  try clear c6
  try clear c6b0
  try clear p6
  obtain ⟨kq, x8_4, rfl, HA, HJ4, ⟨mc4, rfl⟩⟩ := hcut
  cases kq with
  | zero => exact absurd HA.out (by simp [series_Turned.j0])
  | succ kj4 =>
   have H := HA.out
   clear HA
   simp only [series_Turned.j0] at H
   by_cases c7 : t164 < 0
   ·rw [if_pos c7] at H
    have c7b0 : decide (t164 < 0) = true := decide_eq_true c7
    clear c7
    replace H := Option.bind_eq_some_iff.mp H
    obtain ⟨t166, A80, H⟩ := H
    replace H : ((interval_Floor.f (wrap64 ((wrap64 (-(wrap64 ((Int.tmod (wrap64 ((Int.tmod (wrap64 ((wrap64 (a0 - (wrap64 (t165 * 1000000000000000)))) * (wrap64 (Int.tdiv x8_4 1000)))) 1000000000000000) * 1000)) 1000000000000000) + (Int.tmod (wrap64 ((wrap64 (a0 - (wrap64 (t165 * 1000000000000000)))) * (Int.tmod x8_4 1000))) 1000000000000000))))) + (wrap64 ((wrap64 (t166 * (wrap64 (a1 - (wrap64 (t164 * 86400000)))))) + (wrap64 (Int.tdiv (wrap64 ((wrap64 (a0 - (wrap64 (t166 * 86400000)))) * (wrap64 (a1 - (wrap64 (t164 * 86400000)))))) 86400000)))))) 1000000000000000).bind fun t167 => (some (wrap64 ((wrap64 ((wrap64 (-(wrap64 ((Int.tmod (wrap64 ((Int.tmod (wrap64 ((wrap64 (a0 - (wrap64 (t165 * 1000000000000000)))) * (wrap64 (Int.tdiv x8_4 1000)))) 1000000000000000) * 1000)) 1000000000000000) + (Int.tmod (wrap64 ((wrap64 (a0 - (wrap64 (t165 * 1000000000000000)))) * (Int.tmod x8_4 1000))) 1000000000000000))))) + (wrap64 ((wrap64 (t166 * (wrap64 (a1 - (wrap64 (t164 * 86400000)))))) + (wrap64 (Int.tdiv (wrap64 ((wrap64 (a0 - (wrap64 (t166 * 86400000)))) * (wrap64 (a1 - (wrap64 (t164 * 86400000)))))) 86400000)))))) - (wrap64 (t167 * 1000000000000000)))))) = some r := H
    have A8 := Aside0.mk A80
    clear A80
    replace H := Option.bind_eq_some_iff.mp H
    obtain ⟨t167, A90, H⟩ := H
    replace H : (some (wrap64 ((wrap64 ((wrap64 (-(wrap64 ((Int.tmod (wrap64 ((Int.tmod (wrap64 ((wrap64 (a0 - (wrap64 (t165 * 1000000000000000)))) * (wrap64 (Int.tdiv x8_4 1000)))) 1000000000000000) * 1000)) 1000000000000000) + (Int.tmod (wrap64 ((wrap64 (a0 - (wrap64 (t165 * 1000000000000000)))) * (Int.tmod x8_4 1000))) 1000000000000000))))) + (wrap64 ((wrap64 (t166 * (wrap64 (a1 - (wrap64 (t164 * 86400000)))))) + (wrap64 (Int.tdiv (wrap64 ((wrap64 (a0 - (wrap64 (t166 * 86400000)))) * (wrap64 (a1 - (wrap64 (t164 * 86400000)))))) 86400000)))))) - (wrap64 (t167 * 1000000000000000))))) = some r := H
    have A9 := Aside0.mk A90
    clear A90
    obtain rfl := Option.some.inj H
    simp only [Option.some.injEq, Prod.mk.injEq] at H
    obtain ⟨rfl⟩ := H
    go_wp2_with (first | ((with_reducible refine gate_callee (f := 57) rfl ?_); refine goesL_ (some 45) rfl rfl Try.func57 (by kernel_rfl) rfl #[.int .i64 a0, .int .i64 86400000] rfl (by (try simp only [List.map_toArray, List.map_cons, List.map_nil]); first | done | rfl | (simp only [List.length_drop, List.length_take]; rfl)) ?_; (with_reducible refine (interval_Floor.calls a0 86400000 t166 _ A8.out).mono ?_); rintro e w' ⟨rfl, ⟨nd, rfl⟩⟩; refine ⟨_, rfl, ?_⟩) | ((with_reducible refine gate_callee (f := 57) rfl ?_); refine goesL_ (some 61) rfl rfl Try.func57 (by kernel_rfl) rfl #[.int .i64 (wrap64 ((wrap64 (-(wrap64 ((Int.tmod (wrap64 ((Int.tmod (wrap64 ((wrap64 (a0 - (wrap64 (t165 * 1000000000000000)))) * (wrap64 (Int.tdiv x8_4 1000)))) 1000000000000000) * 1000)) 1000000000000000) + (Int.tmod (wrap64 ((wrap64 (a0 - (wrap64 (t165 * 1000000000000000)))) * (Int.tmod x8_4 1000))) 1000000000000000))))) + (wrap64 ((wrap64 (t166 * (wrap64 (a1 - (wrap64 (t164 * 86400000)))))) + (wrap64 (Int.tdiv (wrap64 ((wrap64 (a0 - (wrap64 (t166 * 86400000)))) * (wrap64 (a1 - (wrap64 (t164 * 86400000)))))) 86400000)))))), .int .i64 1000000000000000] rfl (by (try simp only [List.map_toArray, List.map_cons, List.map_nil]); first | done | rfl | (simp only [List.length_drop, List.length_take]; rfl)) ?_; (with_reducible refine (interval_Floor.calls (wrap64 ((wrap64 (-(wrap64 ((Int.tmod (wrap64 ((Int.tmod (wrap64 ((wrap64 (a0 - (wrap64 (t165 * 1000000000000000)))) * (wrap64 (Int.tdiv x8_4 1000)))) 1000000000000000) * 1000)) 1000000000000000) + (Int.tmod (wrap64 ((wrap64 (a0 - (wrap64 (t165 * 1000000000000000)))) * (Int.tmod x8_4 1000))) 1000000000000000))))) + (wrap64 ((wrap64 (t166 * (wrap64 (a1 - (wrap64 (t164 * 86400000)))))) + (wrap64 (Int.tdiv (wrap64 ((wrap64 (a0 - (wrap64 (t166 * 86400000)))) * (wrap64 (a1 - (wrap64 (t164 * 86400000)))))) 86400000)))))) 1000000000000000 t167 _ A9.out).mono ?_); rintro e w' ⟨rfl, ⟨nd, rfl⟩⟩; refine ⟨_, rfl, ?_⟩))
    go_ret
    exact ⟨by first | rfl | (simp; done) | (simp [*]; done), by repeat (first | exact Drawn0.refl _ | apply Drawn0.step)⟩
   ·rw [if_neg c7] at H
    have c7b0 : decide (t164 < 0) = false := decide_eq_false c7
    clear c7
    replace H := Option.bind_eq_some_iff.mp H
    obtain ⟨t168, A100, H⟩ := H
    replace H : ((interval_Floor.f (wrap64 ((wrap64 ((Int.tmod (wrap64 ((Int.tmod (wrap64 ((wrap64 (a0 - (wrap64 (t165 * 1000000000000000)))) * (wrap64 (Int.tdiv x8_4 1000)))) 1000000000000000) * 1000)) 1000000000000000) + (Int.tmod (wrap64 ((wrap64 (a0 - (wrap64 (t165 * 1000000000000000)))) * (Int.tmod x8_4 1000))) 1000000000000000))) + (wrap64 ((wrap64 (t168 * (wrap64 (a1 - (wrap64 (t164 * 86400000)))))) + (wrap64 (Int.tdiv (wrap64 ((wrap64 (a0 - (wrap64 (t168 * 86400000)))) * (wrap64 (a1 - (wrap64 (t164 * 86400000)))))) 86400000)))))) 1000000000000000).bind fun t169 => (some (wrap64 ((wrap64 ((wrap64 ((Int.tmod (wrap64 ((Int.tmod (wrap64 ((wrap64 (a0 - (wrap64 (t165 * 1000000000000000)))) * (wrap64 (Int.tdiv x8_4 1000)))) 1000000000000000) * 1000)) 1000000000000000) + (Int.tmod (wrap64 ((wrap64 (a0 - (wrap64 (t165 * 1000000000000000)))) * (Int.tmod x8_4 1000))) 1000000000000000))) + (wrap64 ((wrap64 (t168 * (wrap64 (a1 - (wrap64 (t164 * 86400000)))))) + (wrap64 (Int.tdiv (wrap64 ((wrap64 (a0 - (wrap64 (t168 * 86400000)))) * (wrap64 (a1 - (wrap64 (t164 * 86400000)))))) 86400000)))))) - (wrap64 (t169 * 1000000000000000)))))) = some r := H
    have A10 := Aside0.mk A100
    clear A100
    replace H := Option.bind_eq_some_iff.mp H
    obtain ⟨t169, A110, H⟩ := H
    replace H : (some (wrap64 ((wrap64 ((wrap64 ((Int.tmod (wrap64 ((Int.tmod (wrap64 ((wrap64 (a0 - (wrap64 (t165 * 1000000000000000)))) * (wrap64 (Int.tdiv x8_4 1000)))) 1000000000000000) * 1000)) 1000000000000000) + (Int.tmod (wrap64 ((wrap64 (a0 - (wrap64 (t165 * 1000000000000000)))) * (Int.tmod x8_4 1000))) 1000000000000000))) + (wrap64 ((wrap64 (t168 * (wrap64 (a1 - (wrap64 (t164 * 86400000)))))) + (wrap64 (Int.tdiv (wrap64 ((wrap64 (a0 - (wrap64 (t168 * 86400000)))) * (wrap64 (a1 - (wrap64 (t164 * 86400000)))))) 86400000)))))) - (wrap64 (t169 * 1000000000000000))))) = some r := H
    have A11 := Aside0.mk A110
    clear A110
    obtain rfl := Option.some.inj H
    simp only [Option.some.injEq, Prod.mk.injEq] at H
    obtain ⟨rfl⟩ := H
    go_wp2_with (first | ((with_reducible refine gate_callee (f := 57) rfl ?_); refine goesL_ (some 45) rfl rfl Try.func57 (by kernel_rfl) rfl #[.int .i64 a0, .int .i64 86400000] rfl (by (try simp only [List.map_toArray, List.map_cons, List.map_nil]); first | done | rfl | (simp only [List.length_drop, List.length_take]; rfl)) ?_; (with_reducible refine (interval_Floor.calls a0 86400000 t168 _ A10.out).mono ?_); rintro e w' ⟨rfl, ⟨nd, rfl⟩⟩; refine ⟨_, rfl, ?_⟩) | ((with_reducible refine gate_callee (f := 57) rfl ?_); refine goesL_ (some 61) rfl rfl Try.func57 (by kernel_rfl) rfl #[.int .i64 (wrap64 ((wrap64 ((Int.tmod (wrap64 ((Int.tmod (wrap64 ((wrap64 (a0 - (wrap64 (t165 * 1000000000000000)))) * (wrap64 (Int.tdiv x8_4 1000)))) 1000000000000000) * 1000)) 1000000000000000) + (Int.tmod (wrap64 ((wrap64 (a0 - (wrap64 (t165 * 1000000000000000)))) * (Int.tmod x8_4 1000))) 1000000000000000))) + (wrap64 ((wrap64 (t168 * (wrap64 (a1 - (wrap64 (t164 * 86400000)))))) + (wrap64 (Int.tdiv (wrap64 ((wrap64 (a0 - (wrap64 (t168 * 86400000)))) * (wrap64 (a1 - (wrap64 (t164 * 86400000)))))) 86400000)))))), .int .i64 1000000000000000] rfl (by (try simp only [List.map_toArray, List.map_cons, List.map_nil]); first | done | rfl | (simp only [List.length_drop, List.length_take]; rfl)) ?_; (with_reducible refine (interval_Floor.calls (wrap64 ((wrap64 ((Int.tmod (wrap64 ((Int.tmod (wrap64 ((wrap64 (a0 - (wrap64 (t165 * 1000000000000000)))) * (wrap64 (Int.tdiv x8_4 1000)))) 1000000000000000) * 1000)) 1000000000000000) + (Int.tmod (wrap64 ((wrap64 (a0 - (wrap64 (t165 * 1000000000000000)))) * (Int.tmod x8_4 1000))) 1000000000000000))) + (wrap64 ((wrap64 (t168 * (wrap64 (a1 - (wrap64 (t164 * 86400000)))))) + (wrap64 (Int.tdiv (wrap64 ((wrap64 (a0 - (wrap64 (t168 * 86400000)))) * (wrap64 (a1 - (wrap64 (t164 * 86400000)))))) 86400000)))))) 1000000000000000 t169 _ A11.out).mono ?_); rintro e w' ⟨rfl, ⟨nd, rfl⟩⟩; refine ⟨_, rfl, ?_⟩))
    go_ret
    exact ⟨by first | rfl | (simp; done) | (simp [*]; done), by repeat (first | exact Drawn0.refl _ | apply Drawn0.step)⟩
end Go.Proofs.Ytmahlfjnejbcnaa.PAll
end
section
namespace Go.Proofs.Ytmahlfjnejbcnaa.PAll
open Go.RowKit YtmahlfjnejbcnaaW.PrintWords YtmahlfjnejbcnaaW.PrintLast YtmahlfjnejbcnaaW.PrintMore More2 Sq
attribute [local go_sem] max2_int min2_int max_two min_two max_three min_three max_four min_four tdiv2e18_ tdiv1e18_ cellSS_  -- for this text's walks alone
def interval_out.f (a0 : Int) : Option (Bool) := if a0 < (-1000000000000000000) then (some true) else (some (decide (a0 > 1000000000000000000)))
theorem interval_out.calls (a0 : Int) (r : Bool) (w : World) (h : interval_out.f a0 = some r) :
  Calls Try.prog 85 #[.int .i64 a0] w fun e w' => e = .returned (.bool r) ∧ Drawn0 w w' := by
 have H : (if a0 < (-1000000000000000000) then (some true) else (some (decide (a0 > 1000000000000000000)))) = some r := h
 clear h
 by_cases c2 : a0 < (-1000000000000000000)
 ·rw [if_pos c2] at H
  have c2b0 : decide (a0 < (-1000000000000000000)) = true := decide_eq_true c2
  clear c2
  obtain rfl := Option.some.inj H
  simp only [Option.some.injEq, Prod.mk.injEq] at H
  obtain ⟨rfl⟩ := H
  go_enter Try.func85, Try.ntmps85
  go_wp2
  go_ret
  exact ⟨by first | rfl | (simp; done) | (simp [*]; done), by repeat (first | exact Drawn0.refl _ | apply Drawn0.step)⟩
 ·rw [if_neg c2] at H
  have c2b0 : decide (a0 < (-1000000000000000000)) = false := decide_eq_false c2
  clear c2
  obtain rfl := Option.some.inj H
  simp only [Option.some.injEq, Prod.mk.injEq] at H
  obtain ⟨rfl⟩ := H
  go_enter Try.func85, Try.ntmps85
  go_wp2
  go_ret
  exact ⟨by first | rfl | (simp; done) | (simp [*]; done), by repeat (first | exact Drawn0.refl _ | apply Drawn0.step)⟩
end Go.Proofs.Ytmahlfjnejbcnaa.PAll
end
section
namespace Go.Proofs.Ytmahlfjnejbcnaa.PAll
open Go.RowKit YtmahlfjnejbcnaaW.PrintWords YtmahlfjnejbcnaaW.PrintLast YtmahlfjnejbcnaaW.PrintMore More2 Sq
attribute [local go_sem] max2_int min2_int max_two min_two max_three min_three max_four min_four tdiv2e18_ tdiv1e18_ cellSS_  -- for this text's walks alone
def interval_Check.j0 : Nat → Bool → Int → Int → Option (Int)
 | 0, _, _, _ => none
 | k + 1, x10, x119000, x119001 => if x10 = true then (some 3) else (if x119000 > x119001 then (some 9) else (some 0))
def interval_Check.f (k : Nat) (a0_0 : Int) (a0_1 : Int) : Option (Int) := (interval_out.f a0_0).bind fun t119 => (if t119 = true then (interval_Check.j0 k true a0_0 a0_1) else ((interval_out.f a0_1).bind fun t120 => (interval_Check.j0 k t120 a0_0 a0_1)))
theorem interval_Check.mono_l : ∀ k, (∀ y0 y1 y2, LeO (interval_Check.j0 k y0 y1 y2) (interval_Check.j0 (k + 1) y0 y1 y2))
 | 0 => fun _ _ _ r h => by simp [interval_Check.j0] at h
 | k + 1 => by
  have ih0 := interval_Check.mono_l k
  ·intro y0 y1 y2
   unfold interval_Check.j0
   repeat' first
   | (with_reducible exact ih0 _ _ _)
   | (with_reducible exact LeO.refl _)
   | (with_reducible exact LeO.none _)
   | (with_reducible refine LeO.ite ?_ ?_)
   | (with_reducible refine LeO.bind ?_ (fun _ => ?_))
   | exact ih0 _ _ _
   | exact LeO.none _
   | refine LeO.ite ?_ ?_
   | refine LeO.bind ?_ (fun _ => ?_)
theorem interval_Check.mono : ∀ a0 a1 k, LeO (interval_Check.f k a0 a1) (interval_Check.f (k + 1) a0 a1) := by
 intro a0 a1 k
 have ih0 := interval_Check.mono_l k
 unfold interval_Check.f
 repeat' first
   | (with_reducible exact ih0 _ _ _)
   | (with_reducible exact LeO.refl _)
   | (with_reducible exact LeO.none _)
   | (with_reducible refine LeO.ite ?_ ?_)
   | (with_reducible refine LeO.bind ?_ (fun _ => ?_))
   | exact ih0 _ _ _
   | exact LeO.none _
   | refine LeO.ite ?_ ?_
   | refine LeO.bind ?_ (fun _ => ?_)
theorem interval_Check.calls (k : Nat) (a0_0 : Int) (a0_1 : Int) (r : Int) (w : World) (h : interval_Check.f k a0_0 a0_1 = some r) :
  Calls Try.prog 65 #[.agg #[.int .i64 a0_0, .int .i64 a0_1]] w fun e w' => e = .returned (.int .i64 r) ∧ Below w.heap.size w w' := by
 have hu24 := Try.underlying24
 have HB := Aside0.mk (Below.refl w.heap.size w)
 have H : ((interval_out.f a0_0).bind fun t119 => (if t119 = true then (interval_Check.j0 k true a0_0 a0_1) else ((interval_out.f a0_1).bind fun t120 => (interval_Check.j0 k t120 a0_0 a0_1)))) = some r := h
 clear h
 have HC2 := Aside0.mk H
 clear H
 go_enter Try.func65, Try.ntmps65
 go_upto_region 1 with (first | ((with_reducible refine gate_dst (N := 1) rfl ?_); refine box_event ?hg (N := 1) ?hd (cs := #[.int .i64 a0_0, .int .i64 a0_1]) (t := 24) ?hr ?_; (case hd => rfl); (case hg => rfl); (case hr => first | (go_simp; done) | (go_simp; rfl)); intro gb118 hg w3 hbox hb; have BK118 := Aside0.mk (hbox); have GW118 := ge_ hg HB; have GE118 := ge_ hg HB; replace HB := bs_ HB hb; clear hb hbox hg))
 (try simp only [Act.put, List.setIfInBounds_toArray, List.set_cons_zero, List.set_cons_succ])
 go_cut [10] (fun v10 wc => ∃ (kq : Nat) (x10_1 : Bool), v10 = .bool x10_1 ∧ Aside0 (interval_Check.j0 kq x10_1 a0_0 a0_1 = some r) ∧ Aside0 (kq ≤ k) ∧ Aside0 (wc.heap[gb118]? = some (.cells #[.int .i64 a0_0, .int .i64 a0_1] 24 (0, 0))) ∧ Aside0 (Below w.heap.size w wc))
 case first =>
  have H := HC2.out
  clear HC2
  replace H := Option.bind_eq_some_iff.mp H
  obtain ⟨t119, A40, H⟩ := H
  replace H : (if t119 = true then (interval_Check.j0 k true a0_0 a0_1) else ((interval_out.f a0_1).bind fun t120 => (interval_Check.j0 k t120 a0_0 a0_1))) = some r := H
  have A4 := Aside0.mk A40
  clear A40
  by_cases c5 : t119 = true
  ·subst c5
   have H1 : (interval_Check.j0 k true a0_0 a0_1) = some r := by rw [if_pos rfl] at H; exact H
   clear H
   have H := H1
   clear H1
   have H' := Aside0.mk H
   clear H
   have hcz6_0 : w3.cell? ⟨gb118, 0, none⟩ = some (.int .i64 a0_0) := (blk_cell BK118.out 0).trans rfl
   have hcz6_1 : w3.cell? ⟨gb118, 1, none⟩ = some (.int .i64 a0_1) := (blk_cell BK118.out 1).trans rfl
   have hfz6_0 := blk_frozen BK118.out 0
   have hfz6_1 := blk_frozen BK118.out 1
   go_wp2_with (first | ((with_reducible refine gate_callee (f := 85) rfl ?_); refine goesL_ (some 5) rfl rfl Try.func85 (by kernel_rfl) rfl #[.int .i64 a0_0] rfl (by (try simp only [List.map_toArray, List.map_cons, List.map_nil]); first | done | rfl | (simp only [List.length_drop, List.length_take]; rfl)) ?_; (with_reducible refine (interval_out.calls a0_0 true _ A4.out).mono ?_); rintro e w' ⟨rfl, ⟨nd, rfl⟩⟩; refine ⟨_, rfl, ?_⟩))
   go_meet
   case rel => exact ⟨_, (true), (by first | rfl | (simp; done) | (simp [*]; done)), H', ⟨by first | omega | exact Nat.le_refl _⟩, ⟨kk_ BK118⟩, (be_ HB)⟩
  ·replace c5 := Bool.eq_false_iff.mpr c5
   subst c5
   have H1 : ((interval_out.f a0_1).bind fun t120 => (interval_Check.j0 k t120 a0_0 a0_1)) = some r := by rw [if_neg (show ¬ (false = true) by decide)] at H; exact H
   clear H
   have H := H1
   clear H1
   replace H := Option.bind_eq_some_iff.mp H
   obtain ⟨t120, A70, H⟩ := H
   replace H : (interval_Check.j0 k t120 a0_0 a0_1) = some r := H
   have A7 := Aside0.mk A70
   clear A70
   have H' := Aside0.mk H
   clear H
   have hcz8_0 : w3.cell? ⟨gb118, 0, none⟩ = some (.int .i64 a0_0) := (blk_cell BK118.out 0).trans rfl
   have hcz8_1 : w3.cell? ⟨gb118, 1, none⟩ = some (.int .i64 a0_1) := (blk_cell BK118.out 1).trans rfl
   have hfz8_0 := blk_frozen BK118.out 0
   have hfz8_1 := blk_frozen BK118.out 1
   go_wp2_with (first | ((with_reducible refine gate_callee (f := 85) rfl ?_); refine goesL_ (some 5) rfl rfl Try.func85 (by kernel_rfl) rfl #[.int .i64 a0_0] rfl (by (try simp only [List.map_toArray, List.map_cons, List.map_nil]); first | done | rfl | (simp only [List.length_drop, List.length_take]; rfl)) ?_; (with_reducible refine (interval_out.calls a0_0 false _ A4.out).mono ?_); rintro e w' ⟨rfl, ⟨nd, rfl⟩⟩; refine ⟨_, rfl, ?_⟩) | (go_at_call 85; (with_reducible refine (interval_out.calls a0_1 t120 _ A7.out).mono ?_); rintro e w' ⟨rfl, ⟨nd, rfl⟩⟩))
   go_meet
   case rel => exact ⟨_, (t120), (by first | rfl | (simp; done) | (simp [*]; done)), H', ⟨by first | omega | exact Nat.le_refl _⟩, ⟨kk_ BK118⟩, (be_ HB)⟩
 case rest =>
  clear HC2
  try clear p2
  try clear c5
  try clear c6
  try clear c8
  try clear hcz6_0
  try clear hcz6_1
  try clear hcz8_0
  try clear hcz8_1
  try clear hfz6_0
  try clear hfz6_1
  try clear hfz8_0
  try clear hfz8_1
  obtain ⟨kq, x10_1, rfl, HA, HJ1, BK118, HB⟩ := hcut
  cases kq with
  | zero => exact absurd HA.out (by simp [interval_Check.j0])
  | succ kj1 =>
   have H := HA.out
   clear HA
   simp only [interval_Check.j0] at H
   by_cases c9 : x10_1 = true
   ·subst c9
    have H1 : (some 3) = some r := by rw [if_pos rfl] at H; exact H
    clear H
    have H := H1
    clear H1
    obtain rfl := Option.some.inj H
    simp only [Option.some.injEq, Prod.mk.injEq] at H
    obtain ⟨rfl⟩ := H
    go_wp2
    go_ret
    exact ⟨by first | rfl | (simp [errW_none, errW_some] <;> rfl) | (simp [*, errW_none, errW_some] <;> rfl), (be_ HB).out⟩
   ·replace c9 := Bool.eq_false_iff.mpr c9
    subst c9
    have H1 : (if a0_0 > a0_1 then (some 9) else (some 0)) = some r := by rw [if_neg (show ¬ (false = true) by decide)] at H; exact H
    clear H
    have H := H1
    clear H1
    by_cases c10 : a0_0 > a0_1
    ·rw [if_pos c10] at H
     have c10b0 : decide (a0_1 < a0_0) = true := decide_eq_true c10
     clear c10
     obtain rfl := Option.some.inj H
     simp only [Option.some.injEq, Prod.mk.injEq] at H
     obtain ⟨rfl⟩ := H
     have hcz11_0 : wc.cell? ⟨gb118, 0, none⟩ = some (.int .i64 a0_0) := (blk_cell BK118.out 0).trans rfl
     have hcz11_1 : wc.cell? ⟨gb118, 1, none⟩ = some (.int .i64 a0_1) := (blk_cell BK118.out 1).trans rfl
     have hfz11_0 := blk_frozen BK118.out 0
     have hfz11_1 := blk_frozen BK118.out 1
     go_wp2
     go_ret
     exact ⟨by first | rfl | (simp [errW_none, errW_some] <;> rfl) | (simp [*, errW_none, errW_some] <;> rfl), (be_ HB).out⟩
    ·rw [if_neg c10] at H
     have c10b0 : decide (a0_1 < a0_0) = false := decide_eq_false c10
     clear c10
     obtain rfl := Option.some.inj H
     simp only [Option.some.injEq, Prod.mk.injEq] at H
     obtain ⟨rfl⟩ := H
     have hcz12_0 : wc.cell? ⟨gb118, 0, none⟩ = some (.int .i64 a0_0) := (blk_cell BK118.out 0).trans rfl
     have hcz12_1 : wc.cell? ⟨gb118, 1, none⟩ = some (.int .i64 a0_1) := (blk_cell BK118.out 1).trans rfl
     have hfz12_0 := blk_frozen BK118.out 0
     have hfz12_1 := blk_frozen BK118.out 1
     go_wp2
     go_ret
     exact ⟨by first | rfl | (simp [errW_none, errW_some] <;> rfl) | (simp [*, errW_none, errW_some] <;> rfl), (be_ HB).out⟩
end Go.Proofs.Ytmahlfjnejbcnaa.PAll
end
section
namespace Go.Proofs.Ytmahlfjnejbcnaa.PAll
open Go.RowKit YtmahlfjnejbcnaaW.PrintWords YtmahlfjnejbcnaaW.PrintLast YtmahlfjnejbcnaaW.PrintMore More2 Sq
attribute [local go_sem] max2_int min2_int max_two min_two max_three min_three max_four min_four tdiv2e18_ tdiv1e18_ cellSS_  -- for this text's walks alone
def trig_Reduced.f (a0 : Int) : Option (Int) := (interval_Floor.f a0 1000000000).bind fun t121 => (some (wrap64 (a0 - (wrap64 (t121 * 1000000000)))))
theorem trig_Reduced.calls (a0 : Int) (r : Int) (w : World) (h : trig_Reduced.f a0 = some r) :
  Calls Try.prog 75 #[.int .i64 a0] w fun e w' => e = .returned (.int .i64 r) ∧ Drawn0 w w' := by
 have H : ((interval_Floor.f a0 1000000000).bind fun t121 => (some (wrap64 (a0 - (wrap64 (t121 * 1000000000)))))) = some r := h
 clear h
 replace H := Option.bind_eq_some_iff.mp H
 obtain ⟨t121, A20, H⟩ := H
 replace H : (some (wrap64 (a0 - (wrap64 (t121 * 1000000000))))) = some r := H
 have A2 := Aside0.mk A20
 clear A20
 obtain rfl := Option.some.inj H
 simp only [Option.some.injEq, Prod.mk.injEq] at H
 obtain ⟨rfl⟩ := H
 go_enter Try.func75, Try.ntmps75
 go_wp2_with (first | ((with_reducible refine gate_callee (f := 57) rfl ?_); refine goesL_ (some 5) rfl rfl Try.func57 (by kernel_rfl) rfl #[.int .i64 a0, .int .i64 1000000000] rfl (by (try simp only [List.map_toArray, List.map_cons, List.map_nil]); first | done | rfl | (simp only [List.length_drop, List.length_take]; rfl)) ?_; (with_reducible refine (interval_Floor.calls a0 1000000000 t121 _ A2.out).mono ?_); rintro e w' ⟨rfl, ⟨nd, rfl⟩⟩; refine ⟨_, rfl, ?_⟩))
 go_ret
 exact ⟨by first | rfl | (simp; done) | (simp [*]; done), by repeat (first | exact Drawn0.refl _ | apply Drawn0.step)⟩
end Go.Proofs.Ytmahlfjnejbcnaa.PAll
end
section
namespace Go.Proofs.Ytmahlfjnejbcnaa.PAll
open Go.RowKit YtmahlfjnejbcnaaW.PrintWords YtmahlfjnejbcnaaW.PrintLast YtmahlfjnejbcnaaW.PrintMore More2 Sq
attribute [local go_sem] max2_int min2_int max_two min_two max_three min_three max_four min_four tdiv2e18_ tdiv1e18_ cellSS_  -- for this text's walks alone
def trig_out.f (a0 : Int) : Option (Bool) := if a0 < (-1000000000000000000) then (some true) else (some (decide (a0 > 1000000000000000000)))
theorem trig_out.calls (a0 : Int) (r : Bool) (w : World) (h : trig_out.f a0 = some r) :
  Calls Try.prog 92 #[.int .i64 a0] w fun e w' => e = .returned (.bool r) ∧ Drawn0 w w' := by
 have H : (if a0 < (-1000000000000000000) then (some true) else (some (decide (a0 > 1000000000000000000)))) = some r := h
 clear h
 by_cases c2 : a0 < (-1000000000000000000)
 ·rw [if_pos c2] at H
  have c2b0 : decide (a0 < (-1000000000000000000)) = true := decide_eq_true c2
  clear c2
  obtain rfl := Option.some.inj H
  simp only [Option.some.injEq, Prod.mk.injEq] at H
  obtain ⟨rfl⟩ := H
  go_enter Try.func92, Try.ntmps92
  go_wp2
  go_ret
  exact ⟨by first | rfl | (simp; done) | (simp [*]; done), by repeat (first | exact Drawn0.refl _ | apply Drawn0.step)⟩
 ·rw [if_neg c2] at H
  have c2b0 : decide (a0 < (-1000000000000000000)) = false := decide_eq_false c2
  clear c2
  obtain rfl := Option.some.inj H
  simp only [Option.some.injEq, Prod.mk.injEq] at H
  obtain ⟨rfl⟩ := H
  go_enter Try.func92, Try.ntmps92
  go_wp2
  go_ret
  exact ⟨by first | rfl | (simp; done) | (simp [*]; done), by repeat (first | exact Drawn0.refl _ | apply Drawn0.step)⟩
end Go.Proofs.Ytmahlfjnejbcnaa.PAll
end
section
namespace Go.Proofs.Ytmahlfjnejbcnaa.PAll
open Go.RowKit YtmahlfjnejbcnaaW.PrintWords YtmahlfjnejbcnaaW.PrintLast YtmahlfjnejbcnaaW.PrintMore More2 Sq
attribute [local go_sem] max2_int min2_int max_two min_two max_three min_three max_four min_four tdiv2e18_ tdiv1e18_ cellSS_  -- for this text's walks alone
def trig_mul.f (a0 : Int) (a1 : Int) : Option (Int) := some (wrap64 ((wrap64 ((a0 / 1073741824) * (a1 / 1073741824))) + ((wrap64 ((wrap64 ((wrap64 ((a0 / 1073741824) * (Go.bits .and .i64 a1 1073741823))) + (wrap64 ((Go.bits .and .i64 a0 1073741823) * (a1 / 1073741824))))) + ((wrap64 ((Go.bits .and .i64 a0 1073741823) * (Go.bits .and .i64 a1 1073741823))) / 1073741824))) / 1073741824)))
theorem trig_mul.calls (a0 : Int) (a1 : Int) (r : Int) (w : World) (h : trig_mul.f a0 a1 = some r) :
  Calls Try.prog 100 #[.int .i64 a0, .int .i64 a1] w fun e w' => e = .returned (.int .i64 r) ∧ Drawn0 w w' := by
 have H : (some (wrap64 ((wrap64 ((a0 / 1073741824) * (a1 / 1073741824))) + ((wrap64 ((wrap64 ((wrap64 ((a0 / 1073741824) * (Go.bits .and .i64 a1 1073741823))) + (wrap64 ((Go.bits .and .i64 a0 1073741823) * (a1 / 1073741824))))) + ((wrap64 ((Go.bits .and .i64 a0 1073741823) * (Go.bits .and .i64 a1 1073741823))) / 1073741824))) / 1073741824)))) = some r := h
 clear h
 obtain rfl := Option.some.inj H
 simp only [Option.some.injEq, Prod.mk.injEq] at H
 obtain ⟨rfl⟩ := H
 go_enter Try.func100, Try.ntmps100
 go_wp2
 go_ret
 exact ⟨by first | rfl | (simp; done) | (simp [*]; done), by repeat (first | exact Drawn0.refl _ | apply Drawn0.step)⟩
end Go.Proofs.Ytmahlfjnejbcnaa.PAll
end
