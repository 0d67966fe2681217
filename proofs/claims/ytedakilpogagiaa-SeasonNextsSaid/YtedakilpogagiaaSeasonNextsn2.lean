/- Written by a program of this session: what one law needs. -/
import Derived.Test.YtedakilpogagiaaProg
import Derived.Test.YtedakilpogagiaaSeasonNextsn1
set_option maxHeartbeats 8000000
set_option maxRecDepth 100000
set_option linter.unusedSimpArgs false
set_option linter.unusedVariables false
section
namespace Go.Proofs.Ytedakilpogagiaa.PAll
open Go.RowKit YtedakilpogagiaaW.PrintWords YtedakilpogagiaaW.PrintLast YtedakilpogagiaaW.PrintMore More2
attribute [local go_sem] max2_int min2_int max_two min_two max_three min_three max_four min_four tdiv2e18_ tdiv1e18_ cellSS_  -- for this text's walks alone
def errW : Option Int → Value
 | none => .nilIface
 | some c => .iface 0 (.int .i64 c)
theorem errW_none : errW none = .nilIface := rfl
theorem errW_some (c : Int) : errW (some c) = .iface 0 (.int .i64 c) := rfl
structure S94 where
 f0 : Int
 f1 : Int
 f2 : Int
def z94 : S94 := ⟨(0 : Int), (0 : Int), (0 : Int)⟩
def k94 : Kd S94 := Kd.iso (Kd.pair (Kd.int .i64) (Kd.pair (Kd.int .i64) (Kd.int .i64))) (fun x : S94 => (x.f0, x.f1, x.f2))
theorem k94_open {w : World} {x : S94} {cs : List Value} (h : k94.K w x cs) : cs = [.int .i64 x.f0, .int .i64 x.f1, .int .i64 x.f2] := by
 obtain ⟨_, _, rfl, rfl, ⟨_, _, rfl, rfl, rfl⟩⟩ := h
 exact rfl
theorem k94_mkM (w : World) (base : Nat) (ok : Nat → Prop) (x : S94)  : k94.M w base ok x [.int .i64 x.f0, .int .i64 x.f1, .int .i64 x.f2] := ⟨[.int .i64 x.f0], [.int .i64 x.f1, .int .i64 x.f2], rfl, rfl, ⟨[.int .i64 x.f1], [.int .i64 x.f2], rfl, rfl, rfl⟩⟩
def rd_T94 (xs : List S94) (i : Int) : S94 := xs.getD i.toNat z94
theorem at_T94 {w : World} {A : Option Addr} {n : Nat} {xs : List S94} (h : Kd.C k94 w A n xs) (i : Int) (h0 : 0 ≤ i) (h1 : i < n) : ∃ ad , A = some ad ∧ w.cell? (ad.add (i.toNat * 3)) = some (.int .i64 (rd_T94 xs i).f0) ∧ w.cell? ⟨(ad.add (i.toNat * 3)).block, (ad.add (i.toNat * 3)).off + 1, none⟩ = some (.int .i64 (rd_T94 xs i).f1) ∧ w.cell? ⟨(ad.add (i.toNat * 3)).block, (ad.add (i.toNat * 3)).off + 2, none⟩ = some (.int .i64 (rd_T94 xs i).f2) := by
 obtain ⟨ad, c, e, _, hK, hc0⟩ := Kd.C_get h z94 i h0 h1
 have hc : ∀ j u, c[j]? = some u → w.cell? (ad.add (i.toNat * 3 + j)) = some u := hc0
 obtain rfl := k94_open hK
 exact ⟨ad, e, hc 0 _ rfl, by rw [← add_field _ _ 1 (by omega)]; exact hc 1 _ rfl, by rw [← add_field _ _ 2 (by omega)]; exact hc 2 _ rfl⟩
end Go.Proofs.Ytedakilpogagiaa.PAll
end
section
namespace Go.Proofs.Ytedakilpogagiaa.PAll
open Go.RowKit YtedakilpogagiaaW.PrintWords YtedakilpogagiaaW.PrintLast YtedakilpogagiaaW.PrintMore More2
attribute [local go_sem] max2_int min2_int max_two min_two max_three min_three max_four min_four tdiv2e18_ tdiv1e18_ cellSS_  -- for this text's walks alone
theorem eqA23 (d : Nat) (w : World) (x0 y0 : Int) (x1 y1 : Int) :
  (Op.equalIn (d + 2) 23 (.agg #[.int .i64 x0, .int .i64 x1]) (.agg #[.int .i64 y0, .int .i64 y1])).run Try.prog w = .ok (x0 == y0 && (x1 == y1)) w := by
 refine eqA_of Try.underlying23 (by kernel_rfl) ?_
 refine eqf_cons (by rfl) (by go_simp; rfl) (by go_simp; rfl) (by go_simp) ?_
 exact eqf_last (by rfl) (by go_simp; rfl) (by go_simp; rfl) (by go_simp)
end Go.Proofs.Ytedakilpogagiaa.PAll
end
section
namespace Go.Proofs.Ytedakilpogagiaa.PAll
open Go.RowKit YtedakilpogagiaaW.PrintWords YtedakilpogagiaaW.PrintLast YtedakilpogagiaaW.PrintMore More2
attribute [local go_sem] max2_int min2_int max_two min_two max_three min_three max_four min_four tdiv2e18_ tdiv1e18_ cellSS_  -- for this text's walks alone
attribute [local go_sem high] eqA23
def ephemerislaw2_none.f (a0_0 : Int) (a0_1 : Int) (a1 : Int) (a2 : Int) : Option (Bool) := if a1 = a2 then (some (a0_0 == 0 && (a0_1 == 0))) else (some false)
theorem ephemerislaw2_none.calls (a0_0 : Int) (a0_1 : Int) (a1 : Int) (a2 : Int) (r : Bool) (w : World) (h : ephemerislaw2_none.f a0_0 a0_1 a1 a2 = some r) :
  Calls Try.prog 18 #[.agg #[.int .i64 a0_0, .int .i64 a0_1], .int .i64 a1, .int .i64 a2] w fun e w' => e = .returned (.bool r) ∧ Below w.heap.size w w' := by
 have hu23 := Try.underlying23
 have HB := Aside0.mk (Below.refl w.heap.size w)
 have H : (if a1 = a2 then (some (a0_0 == 0 && (a0_1 == 0))) else (some false)) = some r := h
 clear h
 by_cases c4 : a1 = a2
 ·rw [if_pos c4] at H
  have c4b0 : (a1 == a2) = true := beq_iff_eq.mpr c4
  have c4b1 : (a1 != a2) = false := bne_eq_false_iff_eq.mpr c4
  clear c4
  obtain rfl := Option.some.inj H
  simp only [Option.some.injEq, Prod.mk.injEq] at H
  obtain ⟨rfl⟩ := H
  go_enter Try.func18, Try.ntmps18
  go_wp2_with (first | ((with_reducible refine gate_dst (N := 3) rfl ?_); refine box_event ?hg (N := 3) ?hd (cs := #[.int .i64 a0_0, .int .i64 a0_1]) (t := 23) ?hr ?_; (case hd => rfl); (case hg => rfl); (case hr => first | (go_simp; done) | (go_simp; rfl)); intro gb101 hg w5 hbox hb; have n0_ := Aside0.mk (below_step (by repeat (first | (with_reducible first | exact HB.out | apply below_alloc | apply pw_below_drewN | apply below_drew1) | exact HB.out)) hb); have n1_ := Aside0.mk (hbox); have n2_ := Aside0.mk ((by rw [hg]; exact (below_size (by repeat (first | (with_reducible first | exact HB.out | apply below_alloc | apply pw_below_drewN | apply below_drew1) | exact HB.out))) : w.heap.size ≤ gb101)); have n3_ := Aside0.mk ((by rw [hg]; exact (below_size (by repeat (first | (with_reducible first | exact HB.out | apply below_alloc | apply pw_below_drewN | apply below_drew1) | exact HB.out))) : w.heap.size ≤ gb101)); clear HB; have HB := n0_; have BK101 := n1_; have GW101 := n2_; have GE101 := n3_; clear n0_ n1_ n2_ n3_; clear hb hbox hg; have hcz6_0 : w5.cell? ⟨gb101, 0, none⟩ = some (.int .i64 a0_0) := (blk_cell BK101.out 0).trans rfl; have hcz6_1 : w5.cell? ⟨gb101, 1, none⟩ = some (.int .i64 a0_1) := (blk_cell BK101.out 1).trans rfl; have hfz6_0 := blk_frozen BK101.out 0; have hfz6_1 := blk_frozen BK101.out 1))
  go_ret
  exact ⟨by first | rfl | (simp [errW_none, errW_some] <;> rfl) | (simp [*, errW_none, errW_some] <;> rfl), by repeat (first | (with_reducible first | exact HB.out | apply below_alloc | apply pw_below_drewN | apply below_drew1 | refine below_set ?_ GE101.out) | exact HB.out)⟩
 ·rw [if_neg c4] at H
  have c4b0 : (a1 == a2) = false := beq_eq_false_iff_ne.mpr c4
  have c4b1 : (a1 != a2) = true := bne_iff_ne.mpr c4
  obtain rfl := Option.some.inj H
  simp only [Option.some.injEq, Prod.mk.injEq] at H
  obtain ⟨rfl⟩ := H
  go_enter Try.func18, Try.ntmps18
  go_wp2_with (first | ((with_reducible refine gate_dst (N := 3) rfl ?_); refine box_event ?hg (N := 3) ?hd (cs := #[.int .i64 a0_0, .int .i64 a0_1]) (t := 23) ?hr ?_; (case hd => rfl); (case hg => rfl); (case hr => first | (go_simp; done) | (go_simp; rfl)); intro gb101 hg w7 hbox hb; have n0_ := Aside0.mk (below_step (by repeat (first | (with_reducible first | exact HB.out | apply below_alloc | apply pw_below_drewN | apply below_drew1) | exact HB.out)) hb); have n1_ := Aside0.mk (hbox); have n2_ := Aside0.mk ((by rw [hg]; exact (below_size (by repeat (first | (with_reducible first | exact HB.out | apply below_alloc | apply pw_below_drewN | apply below_drew1) | exact HB.out))) : w.heap.size ≤ gb101)); have n3_ := Aside0.mk ((by rw [hg]; exact (below_size (by repeat (first | (with_reducible first | exact HB.out | apply below_alloc | apply pw_below_drewN | apply below_drew1) | exact HB.out))) : w.heap.size ≤ gb101)); clear HB; have HB := n0_; have BK101 := n1_; have GW101 := n2_; have GE101 := n3_; clear n0_ n1_ n2_ n3_; clear hb hbox hg))
  go_ret
  exact ⟨by first | rfl | (simp [errW_none, errW_some] <;> rfl) | (simp [*, errW_none, errW_some] <;> rfl), by repeat (first | (with_reducible first | exact HB.out | apply below_alloc | apply pw_below_drewN | apply below_drew1 | refine below_set ?_ GE101.out) | exact HB.out)⟩
end Go.Proofs.Ytedakilpogagiaa.PAll
end
section
namespace Go.Proofs.Ytedakilpogagiaa.PAll
open Go.RowKit YtedakilpogagiaaW.PrintWords YtedakilpogagiaaW.PrintLast YtedakilpogagiaaW.PrintMore More2
attribute [local go_sem] max2_int min2_int max_two min_two max_three min_three max_four min_four tdiv2e18_ tdiv1e18_ cellSS_  -- for this text's walks alone
def ephemerislaw2_at.f (a0 : Int) (a1 : Int) : Option (Int) := if a1 = 0 then (none) else (some (Int.tmod (wrap64 ((Int.tmod a0 a1) + a1)) a1))
theorem ephemerislaw2_at.calls (a0 : Int) (a1 : Int) (r : Int) (w : World) (h : ephemerislaw2_at.f a0 a1 = some r) :
  Calls Try.prog 26 #[.int .i64 a0, .int .i64 a1] w fun e w' => e = .returned (.int .i64 r) ∧ Drawn0 w w' := by
 have H : (if a1 = 0 then (none) else (some (Int.tmod (wrap64 ((Int.tmod a0 a1) + a1)) a1))) = some r := h
 clear h
 by_cases c3 : a1 = 0
 ·rw [if_pos c3] at H
  exact absurd H (by simp)
 ·rw [if_neg c3] at H
  have c3b0 : (a1 == 0) = false := beq_eq_false_iff_ne.mpr c3
  have c3b1 : (a1 != 0) = true := bne_iff_ne.mpr c3
  obtain rfl := Option.some.inj H
  simp only [Option.some.injEq, Prod.mk.injEq] at H
  obtain ⟨rfl⟩ := H
  go_enter Try.func26, Try.ntmps26
  go_wp2
  go_ret
  exact ⟨by first | rfl | (simp; done) | (simp [*]; done), by repeat (first | exact Drawn0.refl _ | apply Drawn0.step)⟩
end Go.Proofs.Ytedakilpogagiaa.PAll
end
section
namespace Go.Proofs.Ytedakilpogagiaa.PAll
open Go.RowKit YtedakilpogagiaaW.PrintWords YtedakilpogagiaaW.PrintLast YtedakilpogagiaaW.PrintMore More2
attribute [local go_sem] max2_int min2_int max_two min_two max_three min_three max_four min_four tdiv2e18_ tdiv1e18_ cellSS_  -- for this text's walks alone
def ephemerisref2_Mod.f (a0 : Int) (a1 : Int) : Option (Int) := if a1 = 0 then (none) else (if (Int.tmod a0 a1) < 0 then (some (wrap64 ((Int.tmod a0 a1) + a1))) else (some (Int.tmod a0 a1)))
theorem ephemerisref2_Mod.calls (a0 : Int) (a1 : Int) (r : Int) (w : World) (h : ephemerisref2_Mod.f a0 a1 = some r) :
  Calls Try.prog 20 #[.int .i64 a0, .int .i64 a1] w fun e w' => e = .returned (.int .i64 r) ∧ Drawn0 w w' := by
 have H : (if a1 = 0 then (none) else (if (Int.tmod a0 a1) < 0 then (some (wrap64 ((Int.tmod a0 a1) + a1))) else (some (Int.tmod a0 a1)))) = some r := h
 clear h
 by_cases c3 : a1 = 0
 ·rw [if_pos c3] at H
  exact absurd H (by simp)
 ·rw [if_neg c3] at H
  have c3b0 : (a1 == 0) = false := beq_eq_false_iff_ne.mpr c3
  have c3b1 : (a1 != 0) = true := bne_iff_ne.mpr c3
  by_cases c4 : (Int.tmod a0 a1) < 0
  ·rw [if_pos c4] at H
   have c4b0 : decide ((Int.tmod a0 a1) < 0) = true := decide_eq_true c4
   clear c4
   obtain rfl := Option.some.inj H
   simp only [Option.some.injEq, Prod.mk.injEq] at H
   obtain ⟨rfl⟩ := H
   go_enter Try.func20, Try.ntmps20
   go_wp2
   go_ret
   exact ⟨by first | rfl | (simp; done) | (simp [*]; done), by repeat (first | exact Drawn0.refl _ | apply Drawn0.step)⟩
  ·rw [if_neg c4] at H
   have c4b0 : decide ((Int.tmod a0 a1) < 0) = false := decide_eq_false c4
   clear c4
   obtain rfl := Option.some.inj H
   simp only [Option.some.injEq, Prod.mk.injEq] at H
   obtain ⟨rfl⟩ := H
   go_enter Try.func20, Try.ntmps20
   go_wp2
   go_ret
   exact ⟨by first | rfl | (simp; done) | (simp [*]; done), by repeat (first | exact Drawn0.refl _ | apply Drawn0.step)⟩
end Go.Proofs.Ytedakilpogagiaa.PAll
end
section
namespace Go.Proofs.Ytedakilpogagiaa.PAll
open Go.RowKit YtedakilpogagiaaW.PrintWords YtedakilpogagiaaW.PrintLast YtedakilpogagiaaW.PrintMore More2
attribute [local go_sem] max2_int min2_int max_two min_two max_three min_three max_four min_four tdiv2e18_ tdiv1e18_ cellSS_  -- for this text's walks alone
def ephemerislaw2_ahead.f (a0 : Int) (a1 : Int) : Option (Int) := (ephemerisref2_Mod.f (wrap64 ((wrap64 (a0 - a1)) + 524288000000000)) 1048576000000000).bind fun t102 => (some (wrap64 (t102 - 524288000000000)))
theorem ephemerislaw2_ahead.calls (a0 : Int) (a1 : Int) (r : Int) (w : World) (h : ephemerislaw2_ahead.f a0 a1 = some r) :
  Calls Try.prog 49 #[.int .i64 a0, .int .i64 a1] w fun e w' => e = .returned (.int .i64 r) ∧ Drawn0 w w' := by
 have H : ((ephemerisref2_Mod.f (wrap64 ((wrap64 (a0 - a1)) + 524288000000000)) 1048576000000000).bind fun t102 => (some (wrap64 (t102 - 524288000000000)))) = some r := h
 clear h
 replace H := Option.bind_eq_some_iff.mp H
 obtain ⟨t102, A30, H⟩ := H
 replace H : (some (wrap64 (t102 - 524288000000000))) = some r := H
 have A3 := Aside0.mk A30
 clear A30
 obtain rfl := Option.some.inj H
 simp only [Option.some.injEq, Prod.mk.injEq] at H
 obtain ⟨rfl⟩ := H
 go_enter Try.func49, Try.ntmps49
 go_wp2_with (first | ((with_reducible refine gate_callee (f := 20) rfl ?_); refine goesL_ (some 9) rfl rfl Try.func20 (by kernel_rfl) rfl #[.int .i64 (wrap64 ((wrap64 (a0 - a1)) + 524288000000000)), .int .i64 1048576000000000] rfl (by (try simp only [List.map_toArray, List.map_cons, List.map_nil]); first | done | rfl | (simp only [List.length_drop, List.length_take]; rfl)) ?_; (with_reducible refine (ephemerisref2_Mod.calls (wrap64 ((wrap64 (a0 - a1)) + 524288000000000)) 1048576000000000 t102 _ A3.out).mono ?_); rintro e w' ⟨rfl, ⟨nd, rfl⟩⟩; refine ⟨_, rfl, ?_⟩))
 go_ret
 exact ⟨by first | rfl | (simp; done) | (simp [*]; done), by repeat (first | exact Drawn0.refl _ | apply Drawn0.step)⟩
end Go.Proofs.Ytedakilpogagiaa.PAll
end
section
namespace Go.Proofs.Ytedakilpogagiaa.PAll
open Go.RowKit YtedakilpogagiaaW.PrintWords YtedakilpogagiaaW.PrintLast YtedakilpogagiaaW.PrintMore More2
attribute [local go_sem] max2_int min2_int max_two min_two max_three min_three max_four min_four tdiv2e18_ tdiv1e18_ cellSS_  -- for this text's walks alone
mutual
def ephemerisref2_Arg.j0 : Nat → Int → Int → Bool → Option (Int)
 | 0, _, _, _ => none
 | k + 1, x0, x1, x5 => if x1 < 0 then (ephemerisref2_Arg.j1 k x0 (wrap64 (-x1)) x5) else (ephemerisref2_Arg.j1 k x0 x1 x5)
def ephemerisref2_Arg.j1 : Nat → Int → Int → Bool → Option (Int)
 | 0, _, _, _ => none
 | k + 1, x0, x1, x5 => ephemerisref2_Arg.l0 k x0 x1 x5 0 0 50
def ephemerisref2_Arg.l0 : Nat → Int → Int → Bool → Int → Int → Int → Option (Int)
 | 0, _, _, _, _, _, _ => none
 | k + 1, x0, x1, x5, x6, x7, x8 => if x8 ≥ 0 then (if 0 ≤ x8 then (if (Go.bits .and .i64 (shr .i64 x1 x8) 1) = 1 then (ephemerisref2_Arg.l0 k x0 x1 x5 (Int.tmod (wrap64 ((wrap64 (2 * x6)) + (wrap64 (Int.tdiv (wrap64 ((wrap64 (2 * x7)) + x0)) 86400000)))) 1000000000000000) (Int.tmod (wrap64 ((wrap64 (2 * x7)) + x0)) 86400000) (wrap64 (x8 - 1))) else (ephemerisref2_Arg.l0 k x0 x1 x5 (Int.tmod (wrap64 ((wrap64 (2 * x6)) + (wrap64 (Int.tdiv (wrap64 (2 * x7)) 86400000)))) 1000000000000000) (Int.tmod (wrap64 (2 * x7)) 86400000) (wrap64 (x8 - 1)))) else (none)) else (if x5 = true then (if x7 > 0 then ((ephemerisref2_Mod.f (wrap64 ((wrap64 (-x6)) - 1)) 1000000000000000).bind fun t111 => (some t111)) else ((ephemerisref2_Mod.f (wrap64 (-x6)) 1000000000000000).bind fun t112 => (some t112))) else ((ephemerisref2_Mod.f x6 1000000000000000).bind fun t113 => (some t113)))
end
def ephemerisref2_Arg.f (k : Nat) (a0 : Int) (a1 : Int) : Option (Int) := if a0 < 0 then (ephemerisref2_Arg.j0 k (wrap64 (-a0)) a1 ((decide (a0 < 0)) != (decide (a1 < 0)))) else (ephemerisref2_Arg.j0 k a0 a1 ((decide (a0 < 0)) != (decide (a1 < 0))))
theorem ephemerisref2_Arg.calls (k : Nat) (a0 : Int) (a1 : Int) (r : Int) (w : World) (h : ephemerisref2_Arg.f k a0 a1 = some r) :
  Calls Try.prog 115 #[.int .i64 a0, .int .i64 a1] w fun e w' => e = .returned (.int .i64 r) ∧ Drawn0 w w' := by
 have H : (if a0 < 0 then (ephemerisref2_Arg.j0 k (wrap64 (-a0)) a1 ((decide (a0 < 0)) != (decide (a1 < 0)))) else (ephemerisref2_Arg.j0 k a0 a1 ((decide (a0 < 0)) != (decide (a1 < 0))))) = some r := h
 clear h
 obtain ⟨mn_, hMN_⟩ : ∃ b_, b_ = ((decide (a0 < 0)) != (decide (a1 < 0))) := ⟨_, rfl⟩
 rw [← hMN_] at H
 have HC3 := Aside0.mk H
 clear H
 go_enter Try.func115, Try.ntmps115
 go_upto_if 15 with (fail)
 rw [show (!(decide (a0 < 0) == decide (a1 < 0))) = mn_ from hMN_.symm]
 clear hMN_
 go_cut [0] (fun v0 wc => ∃ (kq : Nat) (x0_2 : Int), v0 = .int .i64 x0_2 ∧ Aside0 (ephemerisref2_Arg.j0 kq x0_2 a1 mn_ = some r) ∧ Aside0 (kq ≤ k) ∧ Drawn0 w wc)
 case first =>
  have H := HC3.out
  clear HC3
  by_cases c4 : a0 < 0
  ·rw [if_pos c4] at H
   have c4b0 : decide (a0 < 0) = true := decide_eq_true c4
   clear c4
   (first | rw [c4b0] | (simp only [i64_w, i32_w]; rw [c4b0]) | skip)
   have H' := Aside0.mk H
   clear H
   go_wp2
   go_meet
   case rel => exact ⟨_, (wrap64 (-a0)), (by first | rfl | (simp; done) | (simp [*]; done)), H', ⟨by first | omega | exact Nat.le_refl _⟩, by repeat (first | exact Drawn0.refl _ | apply Drawn0.step)⟩
  ·rw [if_neg c4] at H
   have c4b0 : decide (a0 < 0) = false := decide_eq_false c4
   clear c4
   (first | rw [c4b0] | (simp only [i64_w, i32_w]; rw [c4b0]) | skip)
   have H' := Aside0.mk H
   clear H
   go_wp2
   go_meet
   case rel => exact ⟨_, (a0), (by first | rfl | (simp; done) | (simp [*]; done)), H', ⟨by first | omega | exact Nat.le_refl _⟩, by repeat (first | exact Drawn0.refl _ | apply Drawn0.step)⟩
 case rest =>
  clear HC3
  try clear c1
  try clear p2
  try clear c4
  try clear c4b0
  obtain ⟨kq, x0_2, rfl, HA, HJ2, ⟨mc2, rfl⟩⟩ := hcut
  cases kq with
  | zero => exact absurd HA.out (by simp [ephemerisref2_Arg.j0])
  | succ kj2 =>
   have H := HA.out
   clear HA
   simp only [ephemerisref2_Arg.j0] at H
   have HC5 := Aside0.mk H
   clear H
   go_upto_if 19 with (fail)
   go_cut [1] (fun v1 wc => ∃ (kq : Nat) (x1_4 : Int), v1 = .int .i64 x1_4 ∧ Aside0 (ephemerisref2_Arg.j1 kq x0_2 x1_4 mn_ = some r) ∧ Aside0 (kq ≤ kj2) ∧ Drawn0 w wc)
   case first =>
    have H := HC5.out
    clear HC5
    by_cases c6 : a1 < 0
    ·rw [if_pos c6] at H
     have c6b0 : decide (a1 < 0) = true := decide_eq_true c6
     clear c6
     (first | rw [c6b0] | (simp only [i64_w, i32_w]; rw [c6b0]) | skip)
     have H' := Aside0.mk H
     clear H
     go_wp2
     go_meet
     case rel => exact ⟨_, (wrap64 (-a1)), (by first | rfl | (simp; done) | (simp [*]; done)), H', ⟨by have := HJ2.out; first | omega | exact Nat.le_refl _⟩, by repeat (first | exact Drawn0.refl _ | apply Drawn0.step)⟩
    ·rw [if_neg c6] at H
     have c6b0 : decide (a1 < 0) = false := decide_eq_false c6
     clear c6
     (first | rw [c6b0] | (simp only [i64_w, i32_w]; rw [c6b0]) | skip)
     have H' := Aside0.mk H
     clear H
     go_wp2
     go_meet
     case rel => exact ⟨_, (a1), (by first | rfl | (simp; done) | (simp [*]; done)), H', ⟨by have := HJ2.out; first | omega | exact Nat.le_refl _⟩, by repeat (first | exact Drawn0.refl _ | apply Drawn0.step)⟩
   case rest =>
    clear HC5
    try clear c1
    try clear c2
    try clear p2
    try clear c4
    try clear c4b0
    try clear c6
    try clear c6b0
    try clear p6
    try clear p2
    obtain ⟨kq, x1_4, rfl, HA, HJ4, ⟨mc4, rfl⟩⟩ := hcut
    cases kq with
    | zero => exact absurd HA.out (by simp [ephemerisref2_Arg.j1])
    | succ kj4 =>
     have H := HA.out
     clear HA
     simp only [ephemerisref2_Arg.j1] at H
     have H' := Aside0.mk H
     clear H
     go_wp2
     go_loopg [6, 7, 8] kj4 (fun kq v6 v7 v8 w' => ∃ (x6_3 : Int) (x7_3 : Int) (x8_3 : Int), v6 = .int .i64 x6_3 ∧ v7 = .int .i64 x7_3 ∧ v8 = .int .i64 x8_3 ∧ Aside0 (ephemerisref2_Arg.l0 kq x0_2 x1_4 mn_ x6_3 x7_3 x8_3 = some r) ∧ Aside0 (kq ≤ kj4) ∧ Drawn0 w w')
     case atStart => exact ⟨(0), (0), (50), (by first | rfl | (simp; done) | (simp [*]; done)), (by first | rfl | (simp; done) | (simp [*]; done)), (by first | rfl | (simp; done) | (simp [*]; done)), H', ⟨Nat.le_refl _⟩, by repeat (first | exact Drawn0.refl _ | apply Drawn0.step)⟩
     case round =>
      clear H'
      try clear c1
      try clear c2
      try clear p2
      try clear c4
      try clear c4b0
      try clear c6
      try clear c6b0
      try clear p6
      try clear p2
      try clear p6
      obtain ⟨x6_3, x7_3, x8_3, rfl, rfl, rfl, HA, HK3, ⟨m3, rfl⟩⟩ := hrel
      cases gk with
      | zero => exact absurd HA.out (by simp [ephemerisref2_Arg.l0])
      | succ k3 =>
       have H := HA.out
       clear HA
       simp only [ephemerisref2_Arg.l0] at H
       by_cases c7 : x8_3 ≥ 0
       ·rw [if_pos c7] at H
        have c7b0 : decide (0 ≤ x8_3) = true := decide_eq_true c7
        clear c7
        by_cases c8 : 0 ≤ x8_3
        ·rw [if_pos c8] at H
         have c8b0 := eq_true c8
         have c8b1 : decide (0 ≤ x8_3) = true := decide_eq_true c8
         clear c8
         obtain ⟨ji9, hji9⟩ : ∃ j_ : Int, (shr .i64 x1_4 x8_3) = j_ := ⟨_, rfl⟩
         replace H : (if (Go.bits .and .i64 (ji9) 1) = 1 then (ephemerisref2_Arg.l0 k3 x0_2 x1_4 mn_ (Int.tmod (wrap64 ((wrap64 (2 * x6_3)) + (wrap64 (Int.tdiv (wrap64 ((wrap64 (2 * x7_3)) + x0_2)) 86400000)))) 1000000000000000) (Int.tmod (wrap64 ((wrap64 (2 * x7_3)) + x0_2)) 86400000) (wrap64 (x8_3 - 1))) else (ephemerisref2_Arg.l0 k3 x0_2 x1_4 mn_ (Int.tmod (wrap64 ((wrap64 (2 * x6_3)) + (wrap64 (Int.tdiv (wrap64 (2 * x7_3)) 86400000)))) 1000000000000000) (Int.tmod (wrap64 (2 * x7_3)) 86400000) (wrap64 (x8_3 - 1)))) = some r := by first | (rw [hji9] at H; exact H) | (simp only [hji9] at H ⊢; exact H)
         have hji9_ : (x1_4 / 2 ^ min x8_3.toNat 64) = ji9 := hji9
         have hji9z : x8_3 ≤ 64 → (x1_4 / 2 ^ x8_3.toNat) = ji9 := shr_small hji9
         by_cases c10 : (Go.bits .and .i64 (ji9) 1) = 1
         ·rw [if_pos c10] at H
          have c10b0 : ((Go.bits .and .i64 (ji9) 1) == 1) = true := beq_iff_eq.mpr c10
          have c10b1 : ((Go.bits .and .i64 (ji9) 1) != 1) = false := bne_eq_false_iff_eq.mpr c10
          clear c10
          have H' := Aside0.mk H
          clear H
          go_wp2
          go_roundg k3
          case measure => have := HJ2.out; have := HJ4.out; have := HK3.out; omega
          case rel => exact ⟨(Int.tmod (wrap64 ((wrap64 (2 * x6_3)) + (wrap64 (Int.tdiv (wrap64 ((wrap64 (2 * x7_3)) + x0_2)) 86400000)))) 1000000000000000), (Int.tmod (wrap64 ((wrap64 (2 * x7_3)) + x0_2)) 86400000), (wrap64 (x8_3 - 1)), (by first | rfl | (simp; done) | (simp [*]; done)), (by first | rfl | (simp; done) | (simp [*]; done)), (by first | rfl | (simp; done) | (simp [*]; done)), H', ⟨by have := HJ2.out; have := HJ4.out; have := HK3.out; omega⟩, by repeat (first | exact Drawn0.refl _ | apply Drawn0.step)⟩
         ·rw [if_neg c10] at H
          have c10b0 : ((Go.bits .and .i64 (ji9) 1) == 1) = false := beq_eq_false_iff_ne.mpr c10
          have c10b1 : ((Go.bits .and .i64 (ji9) 1) != 1) = true := bne_iff_ne.mpr c10
          have H' := Aside0.mk H
          clear H
          go_wp2
          go_roundg k3
          case measure => have := HJ2.out; have := HJ4.out; have := HK3.out; omega
          case rel => exact ⟨(Int.tmod (wrap64 ((wrap64 (2 * x6_3)) + (wrap64 (Int.tdiv (wrap64 (2 * x7_3)) 86400000)))) 1000000000000000), (Int.tmod (wrap64 (2 * x7_3)) 86400000), (wrap64 (x8_3 - 1)), (by first | rfl | (simp; done) | (simp [*]; done)), (by first | rfl | (simp; done) | (simp [*]; done)), (by first | rfl | (simp; done) | (simp [*]; done)), H', ⟨by have := HJ2.out; have := HJ4.out; have := HK3.out; omega⟩, by repeat (first | exact Drawn0.refl _ | apply Drawn0.step)⟩
        ·rw [if_neg c8] at H
         exact absurd H (by simp)
       ·rw [if_neg c7] at H
        have c7b0 : decide (0 ≤ x8_3) = false := decide_eq_false c7
        clear c7
        by_cases c11 : mn_ = true
        ·rw [if_pos c11] at H
         have c11b0 : mn_ = true := c11
         subst c11b0
         (try (have c11b1 : decide ((decide (a0 < 0)) = (decide (a1 < 0))) = false := by simpa using c11))
         (try (have c11b2 : ((decide (a0 < 0)) == (decide (a1 < 0))) = false := by simpa using c11))
         (try (have c11b3 : ¬ ((decide (a0 < 0)) = (decide (a1 < 0))) := by simpa using c11))
         clear c11
         by_cases c12 : x7_3 > 0
         ·rw [if_pos c12] at H
          have c12b0 : decide (0 < x7_3) = true := decide_eq_true c12
          clear c12
          replace H := Option.bind_eq_some_iff.mp H
          obtain ⟨t111, A130, H⟩ := H
          replace H : (some t111) = some r := H
          have A13 := Aside0.mk A130
          clear A130
          obtain rfl := Option.some.inj H
          simp only [Option.some.injEq, Prod.mk.injEq] at H
          obtain ⟨rfl⟩ := H
          go_wp2_with (first | ((with_reducible refine gate_callee (f := 20) rfl ?_); refine goesL_ (some 53) rfl rfl Try.func20 (by kernel_rfl) rfl #[.int .i64 (wrap64 ((wrap64 (-x6_3)) - 1)), .int .i64 1000000000000000] rfl (by (try simp only [List.map_toArray, List.map_cons, List.map_nil]); first | done | rfl | (simp only [List.length_drop, List.length_take]; rfl)) ?_; (with_reducible refine (ephemerisref2_Mod.calls (wrap64 ((wrap64 (-x6_3)) - 1)) 1000000000000000 t111 _ A13.out).mono ?_); rintro e w' ⟨rfl, ⟨nd, rfl⟩⟩; refine ⟨_, rfl, ?_⟩))
          go_ret
          exact ⟨by first | rfl | (simp; done) | (simp [*]; done), by repeat (first | exact Drawn0.refl _ | apply Drawn0.step)⟩
         ·rw [if_neg c12] at H
          have c12b0 : decide (0 < x7_3) = false := decide_eq_false c12
          clear c12
          replace H := Option.bind_eq_some_iff.mp H
          obtain ⟨t112, A140, H⟩ := H
          replace H : (some t112) = some r := H
          have A14 := Aside0.mk A140
          clear A140
          obtain rfl := Option.some.inj H
          simp only [Option.some.injEq, Prod.mk.injEq] at H
          obtain ⟨rfl⟩ := H
          go_wp2_with (first | ((with_reducible refine gate_callee (f := 20) rfl ?_); refine goesL_ (some 53) rfl rfl Try.func20 (by kernel_rfl) rfl #[.int .i64 (wrap64 (-x6_3)), .int .i64 1000000000000000] rfl (by (try simp only [List.map_toArray, List.map_cons, List.map_nil]); first | done | rfl | (simp only [List.length_drop, List.length_take]; rfl)) ?_; (with_reducible refine (ephemerisref2_Mod.calls (wrap64 (-x6_3)) 1000000000000000 t112 _ A14.out).mono ?_); rintro e w' ⟨rfl, ⟨nd, rfl⟩⟩; refine ⟨_, rfl, ?_⟩))
          go_ret
          exact ⟨by first | rfl | (simp; done) | (simp [*]; done), by repeat (first | exact Drawn0.refl _ | apply Drawn0.step)⟩
        ·rw [if_neg c11] at H
         have c11b0 : mn_ = false := by simpa using c11
         subst c11b0
         (try (have c11b1 : decide ((decide (a0 < 0)) = (decide (a1 < 0))) = true := by simpa using c11))
         (try (have c11b2 : ((decide (a0 < 0)) == (decide (a1 < 0))) = true := by simpa using c11))
         clear c11
         replace H := Option.bind_eq_some_iff.mp H
         obtain ⟨t113, A150, H⟩ := H
         replace H : (some t113) = some r := H
         have A15 := Aside0.mk A150
         clear A150
         obtain rfl := Option.some.inj H
         simp only [Option.some.injEq, Prod.mk.injEq] at H
         obtain ⟨rfl⟩ := H
         go_wp2_with (first | ((with_reducible refine gate_callee (f := 20) rfl ?_); refine goesL_ (some 53) rfl rfl Try.func20 (by kernel_rfl) rfl #[.int .i64 x6_3, .int .i64 1000000000000000] rfl (by (try simp only [List.map_toArray, List.map_cons, List.map_nil]); first | done | rfl | (simp only [List.length_drop, List.length_take]; rfl)) ?_; (with_reducible refine (ephemerisref2_Mod.calls x6_3 1000000000000000 t113 _ A15.out).mono ?_); rintro e w' ⟨rfl, ⟨nd, rfl⟩⟩; refine ⟨_, rfl, ?_⟩))
         go_ret
         exact ⟨by first | rfl | (simp; done) | (simp [*]; done), by repeat (first | exact Drawn0.refl _ | apply Drawn0.step)⟩
end Go.Proofs.Ytedakilpogagiaa.PAll
end
section
namespace Go.Proofs.Ytedakilpogagiaa.PAll
open Go.RowKit YtedakilpogagiaaW.PrintWords YtedakilpogagiaaW.PrintLast YtedakilpogagiaaW.PrintMore More2
attribute [local go_sem] max2_int min2_int max_two min_two max_three min_three max_four min_four tdiv2e18_ tdiv1e18_ cellSS_  -- for this text's walks alone
def ephemerisref2_Mul.f (a0 : Int) (a1 : Int) : Option (Int) := if a0 < 0 then (if a1 < 0 then (some (wrap64 ((-(-1)) * (wrap64 ((wrap64 (((wrap64 (-a0)) / 1073741824) * ((wrap64 (-a1)) / 1073741824))) + ((wrap64 ((wrap64 ((wrap64 (((wrap64 (-a0)) / 1073741824) * (Go.bits .and .i64 (wrap64 (-a1)) 1073741823))) + (wrap64 ((Go.bits .and .i64 (wrap64 (-a0)) 1073741823) * ((wrap64 (-a1)) / 1073741824))))) + ((wrap64 ((Go.bits .and .i64 (wrap64 (-a0)) 1073741823) * (Go.bits .and .i64 (wrap64 (-a1)) 1073741823))) / 1073741824))) / 1073741824)))))) else (some (wrap64 ((-1) * (wrap64 ((wrap64 (((wrap64 (-a0)) / 1073741824) * (a1 / 1073741824))) + ((wrap64 ((wrap64 ((wrap64 (((wrap64 (-a0)) / 1073741824) * (Go.bits .and .i64 a1 1073741823))) + (wrap64 ((Go.bits .and .i64 (wrap64 (-a0)) 1073741823) * (a1 / 1073741824))))) + ((wrap64 ((Go.bits .and .i64 (wrap64 (-a0)) 1073741823) * (Go.bits .and .i64 a1 1073741823))) / 1073741824))) / 1073741824))))))) else (if a1 < 0 then (some (wrap64 ((-1) * (wrap64 ((wrap64 ((a0 / 1073741824) * ((wrap64 (-a1)) / 1073741824))) + ((wrap64 ((wrap64 ((wrap64 ((a0 / 1073741824) * (Go.bits .and .i64 (wrap64 (-a1)) 1073741823))) + (wrap64 ((Go.bits .and .i64 a0 1073741823) * ((wrap64 (-a1)) / 1073741824))))) + ((wrap64 ((Go.bits .and .i64 a0 1073741823) * (Go.bits .and .i64 (wrap64 (-a1)) 1073741823))) / 1073741824))) / 1073741824)))))) else (some (wrap64 (1 * (wrap64 ((wrap64 ((a0 / 1073741824) * (a1 / 1073741824))) + ((wrap64 ((wrap64 ((wrap64 ((a0 / 1073741824) * (Go.bits .and .i64 a1 1073741823))) + (wrap64 ((Go.bits .and .i64 a0 1073741823) * (a1 / 1073741824))))) + ((wrap64 ((Go.bits .and .i64 a0 1073741823) * (Go.bits .and .i64 a1 1073741823))) / 1073741824))) / 1073741824)))))))
theorem ephemerisref2_Mul.calls (a0 : Int) (a1 : Int) (r : Int) (w : World) (h : ephemerisref2_Mul.f a0 a1 = some r) :
  Calls Try.prog 42 #[.int .i64 a0, .int .i64 a1] w fun e w' => e = .returned (.int .i64 r) ∧ Drawn0 w w' := by
 have H : (if a0 < 0 then (if a1 < 0 then (some (wrap64 ((-(-1)) * (wrap64 ((wrap64 (((wrap64 (-a0)) / 1073741824) * ((wrap64 (-a1)) / 1073741824))) + ((wrap64 ((wrap64 ((wrap64 (((wrap64 (-a0)) / 1073741824) * (Go.bits .and .i64 (wrap64 (-a1)) 1073741823))) + (wrap64 ((Go.bits .and .i64 (wrap64 (-a0)) 1073741823) * ((wrap64 (-a1)) / 1073741824))))) + ((wrap64 ((Go.bits .and .i64 (wrap64 (-a0)) 1073741823) * (Go.bits .and .i64 (wrap64 (-a1)) 1073741823))) / 1073741824))) / 1073741824)))))) else (some (wrap64 ((-1) * (wrap64 ((wrap64 (((wrap64 (-a0)) / 1073741824) * (a1 / 1073741824))) + ((wrap64 ((wrap64 ((wrap64 (((wrap64 (-a0)) / 1073741824) * (Go.bits .and .i64 a1 1073741823))) + (wrap64 ((Go.bits .and .i64 (wrap64 (-a0)) 1073741823) * (a1 / 1073741824))))) + ((wrap64 ((Go.bits .and .i64 (wrap64 (-a0)) 1073741823) * (Go.bits .and .i64 a1 1073741823))) / 1073741824))) / 1073741824))))))) else (if a1 < 0 then (some (wrap64 ((-1) * (wrap64 ((wrap64 ((a0 / 1073741824) * ((wrap64 (-a1)) / 1073741824))) + ((wrap64 ((wrap64 ((wrap64 ((a0 / 1073741824) * (Go.bits .and .i64 (wrap64 (-a1)) 1073741823))) + (wrap64 ((Go.bits .and .i64 a0 1073741823) * ((wrap64 (-a1)) / 1073741824))))) + ((wrap64 ((Go.bits .and .i64 a0 1073741823) * (Go.bits .and .i64 (wrap64 (-a1)) 1073741823))) / 1073741824))) / 1073741824)))))) else (some (wrap64 (1 * (wrap64 ((wrap64 ((a0 / 1073741824) * (a1 / 1073741824))) + ((wrap64 ((wrap64 ((wrap64 ((a0 / 1073741824) * (Go.bits .and .i64 a1 1073741823))) + (wrap64 ((Go.bits .and .i64 a0 1073741823) * (a1 / 1073741824))))) + ((wrap64 ((Go.bits .and .i64 a0 1073741823) * (Go.bits .and .i64 a1 1073741823))) / 1073741824))) / 1073741824)))))))) = some r := h
 clear h
 by_cases c3 : a0 < 0
 ·rw [if_pos c3] at H
  have c3b0 : decide (a0 < 0) = true := decide_eq_true c3
  clear c3
  by_cases c4 : a1 < 0
  ·rw [if_pos c4] at H
   have c4b0 : decide (a1 < 0) = true := decide_eq_true c4
   clear c4
   obtain rfl := Option.some.inj H
   simp only [Option.some.injEq, Prod.mk.injEq] at H
   obtain ⟨rfl⟩ := H
   go_enter Try.func42, Try.ntmps42
   go_wp2
   go_ret
   exact ⟨by first | rfl | (simp; done) | (simp [*]; done), by repeat (first | exact Drawn0.refl _ | apply Drawn0.step)⟩
  ·rw [if_neg c4] at H
   have c4b0 : decide (a1 < 0) = false := decide_eq_false c4
   clear c4
   obtain rfl := Option.some.inj H
   simp only [Option.some.injEq, Prod.mk.injEq] at H
   obtain ⟨rfl⟩ := H
   go_enter Try.func42, Try.ntmps42
   go_wp2
   go_ret
   exact ⟨by first | rfl | (simp; done) | (simp [*]; done), by repeat (first | exact Drawn0.refl _ | apply Drawn0.step)⟩
 ·rw [if_neg c3] at H
  have c3b0 : decide (a0 < 0) = false := decide_eq_false c3
  clear c3
  by_cases c5 : a1 < 0
  ·rw [if_pos c5] at H
   have c5b0 : decide (a1 < 0) = true := decide_eq_true c5
   clear c5
   obtain rfl := Option.some.inj H
   simp only [Option.some.injEq, Prod.mk.injEq] at H
   obtain ⟨rfl⟩ := H
   go_enter Try.func42, Try.ntmps42
   go_wp2
   go_ret
   exact ⟨by first | rfl | (simp; done) | (simp [*]; done), by repeat (first | exact Drawn0.refl _ | apply Drawn0.step)⟩
  ·rw [if_neg c5] at H
   have c5b0 : decide (a1 < 0) = false := decide_eq_false c5
   clear c5
   obtain rfl := Option.some.inj H
   simp only [Option.some.injEq, Prod.mk.injEq] at H
   obtain ⟨rfl⟩ := H
   go_enter Try.func42, Try.ntmps42
   go_wp2
   go_ret
   exact ⟨by first | rfl | (simp; done) | (simp [*]; done), by repeat (first | exact Drawn0.refl _ | apply Drawn0.step)⟩
end Go.Proofs.Ytedakilpogagiaa.PAll
end
section
namespace Go.Proofs.Ytedakilpogagiaa.PAll
open Go.RowKit YtedakilpogagiaaW.PrintWords YtedakilpogagiaaW.PrintLast YtedakilpogagiaaW.PrintMore More2
attribute [local go_sem] max2_int min2_int max_two min_two max_three min_three max_four min_four tdiv2e18_ tdiv1e18_ cellSS_  -- for this text's walks alone
def ephemerisref2_SinCos.l0 : Nat → Int → Int → Int → Option (Int × Int)
 | 0, _, _, _ => none
 | k + 1, x6, x7, x41 => if x41 < 12 then ((ephemerisref2_Mul.f x6 (wrap64 (1152921504606846976 - x7))).bind fun t109 => ((ephemerisref2_Mul.f x6 x6).bind fun t110 => (ephemerisref2_SinCos.l0 k (wrap64 (2 * t109)) (wrap64 (2 * t110)) (wrap64 (x41 + 1))))) else (some (x6, wrap64 (1152921504606846976 - x7)))
def ephemerisref2_SinCos.f (k : Nat) (a0 : Int) : Option (Int × Int) := (ephemerisref2_Mod.f a0 1000000000000000).bind fun t103 => ((ephemerisref2_Mul.f ((wrap64 ((wrap64 (t103 * 7244)) + (wrap64 (Int.tdiv (wrap64 ((wrap64 (Int.tdiv t103 1000000)) * 19458077)) 1000)))) / 4096) ((wrap64 ((wrap64 (t103 * 7244)) + (wrap64 (Int.tdiv (wrap64 ((wrap64 (Int.tdiv t103 1000000)) * 19458077)) 1000)))) / 4096)).bind fun t104 => ((ephemerisref2_Mul.f ((wrap64 ((wrap64 (t103 * 7244)) + (wrap64 (Int.tdiv (wrap64 ((wrap64 (Int.tdiv t103 1000000)) * 19458077)) 1000)))) / 4096) t104).bind fun t105 => ((ephemerisref2_Mul.f ((wrap64 ((wrap64 (t103 * 7244)) + (wrap64 (Int.tdiv (wrap64 ((wrap64 (Int.tdiv t103 1000000)) * 19458077)) 1000)))) / 4096) t104).bind fun t106 => ((ephemerisref2_Mul.f t106 t104).bind fun t107 => ((ephemerisref2_Mul.f t104 t104).bind fun t108 => (ephemerisref2_SinCos.l0 k (wrap64 ((wrap64 (((wrap64 ((wrap64 (t103 * 7244)) + (wrap64 (Int.tdiv (wrap64 ((wrap64 (Int.tdiv t103 1000000)) * 19458077)) 1000)))) / 4096) - (wrap64 (Int.tdiv t105 6)))) + (wrap64 (Int.tdiv t107 120)))) (wrap64 ((wrap64 (Int.tdiv t104 2)) - (wrap64 (Int.tdiv t108 24)))) 0))))))
theorem ephemerisref2_SinCos.calls (k : Nat) (a0 : Int) (r1 : Int) (r2 : Int) (w : World) (h : ephemerisref2_SinCos.f k a0 = some (r1, r2)) :
  Calls Try.prog 40 #[.int .i64 a0] w fun e w' => e = .returned (.tuple #[.int .i64 r1, .int .i64 r2]) ∧ Drawn0 w w' := by
 have H : ((ephemerisref2_Mod.f a0 1000000000000000).bind fun t103 => ((ephemerisref2_Mul.f ((wrap64 ((wrap64 (t103 * 7244)) + (wrap64 (Int.tdiv (wrap64 ((wrap64 (Int.tdiv t103 1000000)) * 19458077)) 1000)))) / 4096) ((wrap64 ((wrap64 (t103 * 7244)) + (wrap64 (Int.tdiv (wrap64 ((wrap64 (Int.tdiv t103 1000000)) * 19458077)) 1000)))) / 4096)).bind fun t104 => ((ephemerisref2_Mul.f ((wrap64 ((wrap64 (t103 * 7244)) + (wrap64 (Int.tdiv (wrap64 ((wrap64 (Int.tdiv t103 1000000)) * 19458077)) 1000)))) / 4096) t104).bind fun t105 => ((ephemerisref2_Mul.f ((wrap64 ((wrap64 (t103 * 7244)) + (wrap64 (Int.tdiv (wrap64 ((wrap64 (Int.tdiv t103 1000000)) * 19458077)) 1000)))) / 4096) t104).bind fun t106 => ((ephemerisref2_Mul.f t106 t104).bind fun t107 => ((ephemerisref2_Mul.f t104 t104).bind fun t108 => (ephemerisref2_SinCos.l0 k (wrap64 ((wrap64 (((wrap64 ((wrap64 (t103 * 7244)) + (wrap64 (Int.tdiv (wrap64 ((wrap64 (Int.tdiv t103 1000000)) * 19458077)) 1000)))) / 4096) - (wrap64 (Int.tdiv t105 6)))) + (wrap64 (Int.tdiv t107 120)))) (wrap64 ((wrap64 (Int.tdiv t104 2)) - (wrap64 (Int.tdiv t108 24)))) 0))))))) = some (r1, r2) := h
 clear h
 replace H := Option.bind_eq_some_iff.mp H
 obtain ⟨t103, A20, H⟩ := H
 replace H : ((ephemerisref2_Mul.f ((wrap64 ((wrap64 (t103 * 7244)) + (wrap64 (Int.tdiv (wrap64 ((wrap64 (Int.tdiv t103 1000000)) * 19458077)) 1000)))) / 4096) ((wrap64 ((wrap64 (t103 * 7244)) + (wrap64 (Int.tdiv (wrap64 ((wrap64 (Int.tdiv t103 1000000)) * 19458077)) 1000)))) / 4096)).bind fun t104 => ((ephemerisref2_Mul.f ((wrap64 ((wrap64 (t103 * 7244)) + (wrap64 (Int.tdiv (wrap64 ((wrap64 (Int.tdiv t103 1000000)) * 19458077)) 1000)))) / 4096) t104).bind fun t105 => ((ephemerisref2_Mul.f ((wrap64 ((wrap64 (t103 * 7244)) + (wrap64 (Int.tdiv (wrap64 ((wrap64 (Int.tdiv t103 1000000)) * 19458077)) 1000)))) / 4096) t104).bind fun t106 => ((ephemerisref2_Mul.f t106 t104).bind fun t107 => ((ephemerisref2_Mul.f t104 t104).bind fun t108 => (ephemerisref2_SinCos.l0 k (wrap64 ((wrap64 (((wrap64 ((wrap64 (t103 * 7244)) + (wrap64 (Int.tdiv (wrap64 ((wrap64 (Int.tdiv t103 1000000)) * 19458077)) 1000)))) / 4096) - (wrap64 (Int.tdiv t105 6)))) + (wrap64 (Int.tdiv t107 120)))) (wrap64 ((wrap64 (Int.tdiv t104 2)) - (wrap64 (Int.tdiv t108 24)))) 0)))))) = some (r1, r2) := H
 have A2 := Aside0.mk A20
 clear A20
 replace H := Option.bind_eq_some_iff.mp H
 obtain ⟨t104, A30, H⟩ := H
 replace H : ((ephemerisref2_Mul.f ((wrap64 ((wrap64 (t103 * 7244)) + (wrap64 (Int.tdiv (wrap64 ((wrap64 (Int.tdiv t103 1000000)) * 19458077)) 1000)))) / 4096) t104).bind fun t105 => ((ephemerisref2_Mul.f ((wrap64 ((wrap64 (t103 * 7244)) + (wrap64 (Int.tdiv (wrap64 ((wrap64 (Int.tdiv t103 1000000)) * 19458077)) 1000)))) / 4096) t104).bind fun t106 => ((ephemerisref2_Mul.f t106 t104).bind fun t107 => ((ephemerisref2_Mul.f t104 t104).bind fun t108 => (ephemerisref2_SinCos.l0 k (wrap64 ((wrap64 (((wrap64 ((wrap64 (t103 * 7244)) + (wrap64 (Int.tdiv (wrap64 ((wrap64 (Int.tdiv t103 1000000)) * 19458077)) 1000)))) / 4096) - (wrap64 (Int.tdiv t105 6)))) + (wrap64 (Int.tdiv t107 120)))) (wrap64 ((wrap64 (Int.tdiv t104 2)) - (wrap64 (Int.tdiv t108 24)))) 0))))) = some (r1, r2) := H
 have A3 := Aside0.mk A30
 clear A30
 replace H := Option.bind_eq_some_iff.mp H
 obtain ⟨t105, A40, H⟩ := H
 replace H : ((ephemerisref2_Mul.f ((wrap64 ((wrap64 (t103 * 7244)) + (wrap64 (Int.tdiv (wrap64 ((wrap64 (Int.tdiv t103 1000000)) * 19458077)) 1000)))) / 4096) t104).bind fun t106 => ((ephemerisref2_Mul.f t106 t104).bind fun t107 => ((ephemerisref2_Mul.f t104 t104).bind fun t108 => (ephemerisref2_SinCos.l0 k (wrap64 ((wrap64 (((wrap64 ((wrap64 (t103 * 7244)) + (wrap64 (Int.tdiv (wrap64 ((wrap64 (Int.tdiv t103 1000000)) * 19458077)) 1000)))) / 4096) - (wrap64 (Int.tdiv t105 6)))) + (wrap64 (Int.tdiv t107 120)))) (wrap64 ((wrap64 (Int.tdiv t104 2)) - (wrap64 (Int.tdiv t108 24)))) 0)))) = some (r1, r2) := H
 have A4 := Aside0.mk A40
 clear A40
 replace H := Option.bind_eq_some_iff.mp H
 obtain ⟨t106, A50, H⟩ := H
 replace H : ((ephemerisref2_Mul.f t106 t104).bind fun t107 => ((ephemerisref2_Mul.f t104 t104).bind fun t108 => (ephemerisref2_SinCos.l0 k (wrap64 ((wrap64 (((wrap64 ((wrap64 (t103 * 7244)) + (wrap64 (Int.tdiv (wrap64 ((wrap64 (Int.tdiv t103 1000000)) * 19458077)) 1000)))) / 4096) - (wrap64 (Int.tdiv t105 6)))) + (wrap64 (Int.tdiv t107 120)))) (wrap64 ((wrap64 (Int.tdiv t104 2)) - (wrap64 (Int.tdiv t108 24)))) 0))) = some (r1, r2) := H
 have A5 := Aside0.mk A50
 clear A50
 replace H := Option.bind_eq_some_iff.mp H
 obtain ⟨t107, A60, H⟩ := H
 replace H : ((ephemerisref2_Mul.f t104 t104).bind fun t108 => (ephemerisref2_SinCos.l0 k (wrap64 ((wrap64 (((wrap64 ((wrap64 (t103 * 7244)) + (wrap64 (Int.tdiv (wrap64 ((wrap64 (Int.tdiv t103 1000000)) * 19458077)) 1000)))) / 4096) - (wrap64 (Int.tdiv t105 6)))) + (wrap64 (Int.tdiv t107 120)))) (wrap64 ((wrap64 (Int.tdiv t104 2)) - (wrap64 (Int.tdiv t108 24)))) 0)) = some (r1, r2) := H
 have A6 := Aside0.mk A60
 clear A60
 replace H := Option.bind_eq_some_iff.mp H
 obtain ⟨t108, A70, H⟩ := H
 replace H : (ephemerisref2_SinCos.l0 k (wrap64 ((wrap64 (((wrap64 ((wrap64 (t103 * 7244)) + (wrap64 (Int.tdiv (wrap64 ((wrap64 (Int.tdiv t103 1000000)) * 19458077)) 1000)))) / 4096) - (wrap64 (Int.tdiv t105 6)))) + (wrap64 (Int.tdiv t107 120)))) (wrap64 ((wrap64 (Int.tdiv t104 2)) - (wrap64 (Int.tdiv t108 24)))) 0) = some (r1, r2) := H
 have A7 := Aside0.mk A70
 clear A70
 have H' := Aside0.mk H
 clear H
 go_enter Try.func40, Try.ntmps40
 go_wp2_with (first | ((with_reducible refine gate_callee (f := 20) rfl ?_); refine goesL_ (some 9) rfl rfl Try.func20 (by kernel_rfl) rfl #[.int .i64 a0, .int .i64 1000000000000000] rfl (by (try simp only [List.map_toArray, List.map_cons, List.map_nil]); first | done | rfl | (simp only [List.length_drop, List.length_take]; rfl)) ?_; (with_reducible refine (ephemerisref2_Mod.calls a0 1000000000000000 t103 _ A2.out).mono ?_); rintro e w' ⟨rfl, ⟨nd, rfl⟩⟩; refine ⟨_, rfl, ?_⟩) | ((with_reducible refine gate_callee (f := 42) rfl ?_); refine goesL_ (some 20) rfl rfl Try.func42 (by kernel_rfl) rfl #[.int .i64 ((wrap64 ((wrap64 (t103 * 7244)) + (wrap64 (Int.tdiv (wrap64 ((wrap64 (Int.tdiv t103 1000000)) * 19458077)) 1000)))) / 4096), .int .i64 ((wrap64 ((wrap64 (t103 * 7244)) + (wrap64 (Int.tdiv (wrap64 ((wrap64 (Int.tdiv t103 1000000)) * 19458077)) 1000)))) / 4096)] rfl (by (try simp only [List.map_toArray, List.map_cons, List.map_nil]); first | done | rfl | (simp only [List.length_drop, List.length_take]; rfl)) ?_; (with_reducible refine (ephemerisref2_Mul.calls ((wrap64 ((wrap64 (t103 * 7244)) + (wrap64 (Int.tdiv (wrap64 ((wrap64 (Int.tdiv t103 1000000)) * 19458077)) 1000)))) / 4096) ((wrap64 ((wrap64 (t103 * 7244)) + (wrap64 (Int.tdiv (wrap64 ((wrap64 (Int.tdiv t103 1000000)) * 19458077)) 1000)))) / 4096) t104 _ A3.out).mono ?_); rintro e w' ⟨rfl, ⟨nd, rfl⟩⟩; refine ⟨_, rfl, ?_⟩) | ((with_reducible refine gate_callee (f := 42) rfl ?_); refine goesL_ (some 24) rfl rfl Try.func42 (by kernel_rfl) rfl #[.int .i64 ((wrap64 ((wrap64 (t103 * 7244)) + (wrap64 (Int.tdiv (wrap64 ((wrap64 (Int.tdiv t103 1000000)) * 19458077)) 1000)))) / 4096), .int .i64 t104] rfl (by (try simp only [List.map_toArray, List.map_cons, List.map_nil]); first | done | rfl | (simp only [List.length_drop, List.length_take]; rfl)) ?_; (with_reducible refine (ephemerisref2_Mul.calls ((wrap64 ((wrap64 (t103 * 7244)) + (wrap64 (Int.tdiv (wrap64 ((wrap64 (Int.tdiv t103 1000000)) * 19458077)) 1000)))) / 4096) t104 t105 _ A4.out).mono ?_); rintro e w' ⟨rfl, ⟨nd, rfl⟩⟩; refine ⟨_, rfl, ?_⟩) | ((with_reducible refine gate_callee (f := 42) rfl ?_); refine goesL_ (some 29) rfl rfl Try.func42 (by kernel_rfl) rfl #[.int .i64 ((wrap64 ((wrap64 (t103 * 7244)) + (wrap64 (Int.tdiv (wrap64 ((wrap64 (Int.tdiv t103 1000000)) * 19458077)) 1000)))) / 4096), .int .i64 t104] rfl (by (try simp only [List.map_toArray, List.map_cons, List.map_nil]); first | done | rfl | (simp only [List.length_drop, List.length_take]; rfl)) ?_; (with_reducible refine (ephemerisref2_Mul.calls ((wrap64 ((wrap64 (t103 * 7244)) + (wrap64 (Int.tdiv (wrap64 ((wrap64 (Int.tdiv t103 1000000)) * 19458077)) 1000)))) / 4096) t104 t106 _ A5.out).mono ?_); rintro e w' ⟨rfl, ⟨nd, rfl⟩⟩; refine ⟨_, rfl, ?_⟩) | ((with_reducible refine gate_callee (f := 42) rfl ?_); refine goesL_ (some 31) rfl rfl Try.func42 (by kernel_rfl) rfl #[.int .i64 t106, .int .i64 t104] rfl (by (try simp only [List.map_toArray, List.map_cons, List.map_nil]); first | done | rfl | (simp only [List.length_drop, List.length_take]; rfl)) ?_; (with_reducible refine (ephemerisref2_Mul.calls t106 t104 t107 _ A6.out).mono ?_); rintro e w' ⟨rfl, ⟨nd, rfl⟩⟩; refine ⟨_, rfl, ?_⟩) | ((with_reducible refine gate_callee (f := 42) rfl ?_); refine goesL_ (some 38) rfl rfl Try.func42 (by kernel_rfl) rfl #[.int .i64 t104, .int .i64 t104] rfl (by (try simp only [List.map_toArray, List.map_cons, List.map_nil]); first | done | rfl | (simp only [List.length_drop, List.length_take]; rfl)) ?_; (with_reducible refine (ephemerisref2_Mul.calls t104 t104 t108 _ A7.out).mono ?_); rintro e w' ⟨rfl, ⟨nd, rfl⟩⟩; refine ⟨_, rfl, ?_⟩))
 go_loopg [6, 7, 41] k (fun kq v6 v7 v41 w' => ∃ (x6_1 : Int) (x7_1 : Int) (x41_1 : Int), v6 = .int .i64 x6_1 ∧ v7 = .int .i64 x7_1 ∧ v41 = .int .i64 x41_1 ∧ Aside0 (ephemerisref2_SinCos.l0 kq x6_1 x7_1 x41_1 = some (r1, r2)) ∧ Aside0 (kq ≤ k) ∧ Drawn0 w w')
 case atStart => exact ⟨(wrap64 ((wrap64 (((wrap64 ((wrap64 (t103 * 7244)) + (wrap64 (Int.tdiv (wrap64 ((wrap64 (Int.tdiv t103 1000000)) * 19458077)) 1000)))) / 4096) - (wrap64 (Int.tdiv t105 6)))) + (wrap64 (Int.tdiv t107 120)))), (wrap64 ((wrap64 (Int.tdiv t104 2)) - (wrap64 (Int.tdiv t108 24)))), (0), (by first | rfl | (simp; done) | (simp [*]; done)), (by first | rfl | (simp; done) | (simp [*]; done)), (by first | rfl | (simp; done) | (simp [*]; done)), H', ⟨Nat.le_refl _⟩, by repeat (first | exact Drawn0.refl _ | apply Drawn0.step)⟩
 case round =>
  clear H'
  try clear c2
  try clear p2
  try clear c4
  try clear p6
  obtain ⟨x6_1, x7_1, x41_1, rfl, rfl, rfl, HA, HK1, ⟨m1, rfl⟩⟩ := hrel
  cases gk with
  | zero => exact absurd HA.out (by simp [ephemerisref2_SinCos.l0])
  | succ k1 =>
   have H := HA.out
   clear HA
   simp only [ephemerisref2_SinCos.l0] at H
   by_cases c8 : x41_1 < 12
   ·rw [if_pos c8] at H
    have c8b0 : decide (x41_1 < 12) = true := decide_eq_true c8
    clear c8
    replace H := Option.bind_eq_some_iff.mp H
    obtain ⟨t109, A90, H⟩ := H
    replace H : ((ephemerisref2_Mul.f x6_1 x6_1).bind fun t110 => (ephemerisref2_SinCos.l0 k1 (wrap64 (2 * t109)) (wrap64 (2 * t110)) (wrap64 (x41_1 + 1)))) = some (r1, r2) := H
    have A9 := Aside0.mk A90
    clear A90
    replace H := Option.bind_eq_some_iff.mp H
    obtain ⟨t110, A100, H⟩ := H
    replace H : (ephemerisref2_SinCos.l0 k1 (wrap64 (2 * t109)) (wrap64 (2 * t110)) (wrap64 (x41_1 + 1))) = some (r1, r2) := H
    have A10 := Aside0.mk A100
    clear A100
    have H' := Aside0.mk H
    clear H
    go_wp2_with (first | ((with_reducible refine gate_callee (f := 42) rfl ?_); refine goesL_ (some 46) rfl rfl Try.func42 (by kernel_rfl) rfl #[.int .i64 x6_1, .int .i64 (wrap64 (1152921504606846976 - x7_1))] rfl (by (try simp only [List.map_toArray, List.map_cons, List.map_nil]); first | done | rfl | (simp only [List.length_drop, List.length_take]; rfl)) ?_; (with_reducible refine (ephemerisref2_Mul.calls x6_1 (wrap64 (1152921504606846976 - x7_1)) t109 _ A9.out).mono ?_); rintro e w' ⟨rfl, ⟨nd, rfl⟩⟩; refine ⟨_, rfl, ?_⟩) | ((with_reducible refine gate_callee (f := 42) rfl ?_); refine goesL_ (some 50) rfl rfl Try.func42 (by kernel_rfl) rfl #[.int .i64 x6_1, .int .i64 x6_1] rfl (by (try simp only [List.map_toArray, List.map_cons, List.map_nil]); first | done | rfl | (simp only [List.length_drop, List.length_take]; rfl)) ?_; (with_reducible refine (ephemerisref2_Mul.calls x6_1 x6_1 t110 _ A10.out).mono ?_); rintro e w' ⟨rfl, ⟨nd, rfl⟩⟩; refine ⟨_, rfl, ?_⟩))
    go_roundg k1
    case measure => have := HK1.out; omega
    case rel => exact ⟨(wrap64 (2 * t109)), (wrap64 (2 * t110)), (wrap64 (x41_1 + 1)), (by first | rfl | (simp; done) | (simp [*]; done)), (by first | rfl | (simp; done) | (simp [*]; done)), (by first | rfl | (simp; done) | (simp [*]; done)), H', ⟨by have := HK1.out; omega⟩, by repeat (first | exact Drawn0.refl _ | apply Drawn0.step)⟩
   ·rw [if_neg c8] at H
    have c8b0 : decide (x41_1 < 12) = false := decide_eq_false c8
    clear c8
    simp only [Option.some.injEq, Prod.mk.injEq] at H
    obtain ⟨rfl, rfl⟩ := H
    go_wp2
    go_ret2
    exact ⟨by first | rfl | (simp; done) | (simp [*]; done), by repeat (first | exact Drawn0.refl _ | apply Drawn0.step)⟩
end Go.Proofs.Ytedakilpogagiaa.PAll
end
section
namespace Go.Proofs.Ytedakilpogagiaa.PAll
open Go.RowKit YtedakilpogagiaaW.PrintWords YtedakilpogagiaaW.PrintLast YtedakilpogagiaaW.PrintMore More2
attribute [local go_sem] max2_int min2_int max_two min_two max_three min_three max_four min_four tdiv2e18_ tdiv1e18_ cellSS_  -- for this text's walks alone
def ephemerisref2_Part.f (a0 : Int) (a1 : Int) : Option (Int) := if a1 < 0 then (some (wrap64 ((-1) * ((wrap64 ((wrap64 (a0 * ((wrap64 (-a1)) / 1073741824))) + ((wrap64 (a0 * (Go.bits .and .i64 (wrap64 (-a1)) 1073741823))) / 1073741824))) / 1024)))) else (some (wrap64 (1 * ((wrap64 ((wrap64 (a0 * (a1 / 1073741824))) + ((wrap64 (a0 * (Go.bits .and .i64 a1 1073741823))) / 1073741824))) / 1024))))
theorem ephemerisref2_Part.calls (a0 : Int) (a1 : Int) (r : Int) (w : World) (h : ephemerisref2_Part.f a0 a1 = some r) :
  Calls Try.prog 80 #[.int .i64 a0, .int .i64 a1] w fun e w' => e = .returned (.int .i64 r) ∧ Drawn0 w w' := by
 have H : (if a1 < 0 then (some (wrap64 ((-1) * ((wrap64 ((wrap64 (a0 * ((wrap64 (-a1)) / 1073741824))) + ((wrap64 (a0 * (Go.bits .and .i64 (wrap64 (-a1)) 1073741823))) / 1073741824))) / 1024)))) else (some (wrap64 (1 * ((wrap64 ((wrap64 (a0 * (a1 / 1073741824))) + ((wrap64 (a0 * (Go.bits .and .i64 a1 1073741823))) / 1073741824))) / 1024))))) = some r := h
 clear h
 by_cases c3 : a1 < 0
 ·rw [if_pos c3] at H
  have c3b0 : decide (a1 < 0) = true := decide_eq_true c3
  clear c3
  obtain rfl := Option.some.inj H
  simp only [Option.some.injEq, Prod.mk.injEq] at H
  obtain ⟨rfl⟩ := H
  go_enter Try.func80, Try.ntmps80
  go_wp2
  go_ret
  exact ⟨by first | rfl | (simp; done) | (simp [*]; done), by repeat (first | exact Drawn0.refl _ | apply Drawn0.step)⟩
 ·rw [if_neg c3] at H
  have c3b0 : decide (a1 < 0) = false := decide_eq_false c3
  clear c3
  obtain rfl := Option.some.inj H
  simp only [Option.some.injEq, Prod.mk.injEq] at H
  obtain ⟨rfl⟩ := H
  go_enter Try.func80, Try.ntmps80
  go_wp2
  go_ret
  exact ⟨by first | rfl | (simp; done) | (simp [*]; done), by repeat (first | exact Drawn0.refl _ | apply Drawn0.step)⟩
end Go.Proofs.Ytedakilpogagiaa.PAll
end
