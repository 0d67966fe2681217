/- Written by a program of this session: what one law needs. -/
import Derived.Test.YtedakilpogagiaaDialShadowsn13
set_option maxHeartbeats 8000000
set_option maxRecDepth 100000
set_option linter.unusedSimpArgs false
set_option linter.unusedVariables false
section
namespace Go.Proofs.Ytedakilpogagiaa.PAll
open Go Go.RowKit YtedakilpogagiaaW.PrintWords Sx
def ephemerisref2_Equator.f (k : Nat) (a0 : Int) (a1 : Int) : Option (Int × Int × Int) :=
  ob (ephemerisref2_argument.f a0) fun t1 =>
  ob (ephemerisref2_SinCos.f k t1) fun t2 =>
  ob (ephemerisref2_argument.f a1) fun t3 =>
  ob (ephemerisref2_SinCos.f k t3) fun t4 =>
  ob (ephemerisref2_SinCos.f k 65109000000000) fun t5 =>
  ob (ephemerisref2_Mul.f t4.snd t2.snd) fun t6 =>
  ob (ephemerisref2_Mul.f t4.snd t2.fst) fun t7 =>
  ob (ephemerisref2_Mul.f t7 t5.snd) fun t8 =>
  ob (ephemerisref2_Mul.f t4.fst t5.fst) fun t9 =>
  ob (ephemerisref2_Mul.f t4.snd t2.fst) fun t10 =>
  ob (ephemerisref2_Mul.f t10 t5.fst) fun t11 =>
  ob (ephemerisref2_Mul.f t4.fst t5.snd) fun t12 =>
  some (t6, IntKind.i64.wrap (t8 - t9), IntKind.i64.wrap (t11 + t12))
def ephemerisref2_Equator.OQ {R : Type} (k : Nat) : OraQ R := fun g args K => match g with
  | 40 => (match args with | [.int .i64 a0] => (ephemerisref2_SinCos.f k a0).bind fun q => K (.tuple ⟨[.int .i64 q.1, .int .i64 q.2]⟩) | _ => none)
  | 42 => (match args with | [.int .i64 a0, .int .i64 a1] => (ephemerisref2_Mul.f a0 a1).bind fun q => K (.int .i64 q) | _ => none)
  | 72 => (match args with | [.int .i64 a0] => (ephemerisref2_argument.f a0).bind fun q => K (.int .i64 q) | _ => none)
  | _ => none
theorem ephemerisref2_Equator.OQ_ok (k : Nat) (Φ : World → Prop) (base : Nat) {R : Type} : OraQOk Try.prog (fun _ => undef) Φ base (ephemerisref2_Equator.OQ (R := R) k) := by
  intro g args K r h
  unfold ephemerisref2_Equator.OQ at h
  split at h
  · split at h
    · obtain ⟨q, hq, h⟩ := Option.bind_eq_some_iff.mp h
      exact ⟨_, h, callQ_of rfl rfl fun w => (ephemerisref2_SinCos.calls k _ _ _ w hq).mono fun e w' he => ⟨he.1, he.2.below⟩⟩
    · cases h
  · split at h
    · obtain ⟨q, hq, h⟩ := Option.bind_eq_some_iff.mp h
      exact ⟨_, h, callQ_of rfl rfl fun w => (ephemerisref2_Mul.calls _ _ _ w hq).mono fun e w' he => ⟨he.1, he.2.below⟩⟩
    · cases h
  · split at h
    · obtain ⟨q, hq, h⟩ := Option.bind_eq_some_iff.mp h
      exact ⟨_, h, callQ_of rfl rfl fun w => (ephemerisref2_argument.calls _ _ w hq).mono fun e w' he => ⟨he.1, he.2.below⟩⟩
    · cases h
  · cases h
def ephemerisref2_Equator.F (v : Value) (_ : Mem) : Option (Int × Int × Int) := match v with | .agg ⟨[.int .i64 r1, .int .i64 r2, .int .i64 r3]⟩ => some (r1, r2, r3) | _ => none
theorem ephemerisref2_Equator.run (k : Nat) (a0 : Int) (a1 : Int) : runM Try.prog (liftQ (ephemerisref2_Equator.OQ k)) (drawQ Try.prog (ephemerisref2_Equator.OQ k)) (fun _ => none) (atEnd Try.prog Try.f19 ephemerisref2_Equator.F) 5000 [.code (Try.f19.body.getD .skip)] ([.int .i64 a0, .int .i64 a1] ++ List.replicate (Try.f19.ntmps - ([.int .i64 a0, .int .i64 a1] : List Value).length) undef) [] = ephemerisref2_Equator.f k a0 a1 := by kernel_rfl
theorem ephemerisref2_Equator.calls (k : Nat) (a0 : Int) (a1 : Int) (r1 : Int) (r2 : Int) (r3 : Int) (w : World) (h : ephemerisref2_Equator.f k a0 a1 = some (r1, r2, r3)) :
    Calls Try.prog 19 #[.int .i64 a0, .int .i64 a1] w fun e w' => e = .returned (.agg #[.int .i64 r1, .int .i64 r2, .int .i64 r3]) ∧ Below w.heap.size w w' := by
  refine calls_closed (OQ := ephemerisref2_Equator.OQ k) (LF := fun _ => none) (F := ephemerisref2_Equator.F) (r := (r1, r2, r3)) (Checked.mixed Try.checked) (fun Φ base _ => ephemerisref2_Equator.OQ_ok k Φ base) (LS := fun _ => True) (fun Φ base _ c _ live len f e => by cases e) Try.func19 rfl (fun _ _ => trivial) rfl (fun u m hu => ?_) rfl (((ephemerisref2_Equator.run k a0 a1).trans h)) w
  unfold ephemerisref2_Equator.F at hu
  split at hu
  · cases hu; rfl
  · cases hu
end Go.Proofs.Ytedakilpogagiaa.PAll
end
section
namespace Go.Proofs.Ytedakilpogagiaa.PAll
open Go.RowKit YtedakilpogagiaaW.PrintWords YtedakilpogagiaaW.PrintLast YtedakilpogagiaaW.PrintMore More2 Sq
attribute [local go_sem] max2_int min2_int max_two min_two max_three min_three max_four min_four tdiv2e18_ tdiv1e18_ cellSS_  -- for this text's walks alone
mutual
def ephemerisref2_Arg.j0 : Nat → Int → Int → Bool → Option (Int)
 | 0, _, _, _ => none
 | k + 1, x0, x1, x5 => if x1 < 0 then (ephemerisref2_Arg.j1 k x0 (wrap64 (-x1)) x5) else (ephemerisref2_Arg.j1 k x0 x1 x5)
def ephemerisref2_Arg.j1 : Nat → Int → Int → Bool → Option (Int)
 | 0, _, _, _ => none
 | k + 1, x0, x1, x5 => ephemerisref2_Arg.l0 k x0 x1 x5 0 0 50
def ephemerisref2_Arg.l0 : Nat → Int → Int → Bool → Int → Int → Int → Option (Int)
 | 0, _, _, _, _, _, _ => none
 | k + 1, x0, x1, x5, x6, x7, x8 => if x8 ≥ 0 then (if 0 ≤ x8 then (if (Go.bits .and .i64 (shr .i64 x1 x8) 1) = 1 then (ephemerisref2_Arg.l0 k x0 x1 x5 (Int.tmod (wrap64 ((wrap64 (2 * x6)) + (wrap64 (Int.tdiv (wrap64 ((wrap64 (2 * x7)) + x0)) 86400000)))) 1000000000000000) (Int.tmod (wrap64 ((wrap64 (2 * x7)) + x0)) 86400000) (wrap64 (x8 - 1))) else (ephemerisref2_Arg.l0 k x0 x1 x5 (Int.tmod (wrap64 ((wrap64 (2 * x6)) + (wrap64 (Int.tdiv (wrap64 (2 * x7)) 86400000)))) 1000000000000000) (Int.tmod (wrap64 (2 * x7)) 86400000) (wrap64 (x8 - 1)))) else (none)) else (if x5 = true then (if x7 > 0 then ((ephemerisref2_Mod.f (wrap64 ((wrap64 (-x6)) - 1)) 1000000000000000).bind fun t365 => (some t365)) else ((ephemerisref2_Mod.f (wrap64 (-x6)) 1000000000000000).bind fun t366 => (some t366))) else ((ephemerisref2_Mod.f x6 1000000000000000).bind fun t367 => (some t367)))
end
def ephemerisref2_Arg.f (k : Nat) (a0 : Int) (a1 : Int) : Option (Int) := if a0 < 0 then (ephemerisref2_Arg.j0 k (wrap64 (-a0)) a1 ((decide (a0 < 0)) != (decide (a1 < 0)))) else (ephemerisref2_Arg.j0 k a0 a1 ((decide (a0 < 0)) != (decide (a1 < 0))))
theorem ephemerisref2_Arg.calls (k : Nat) (a0 : Int) (a1 : Int) (r : Int) (w : World) (h : ephemerisref2_Arg.f k a0 a1 = some r) :
  Calls Try.prog 115 #[.int .i64 a0, .int .i64 a1] w fun e w' => e = .returned (.int .i64 r) ∧ Drawn0 w w' := by
 have H : (if a0 < 0 then (ephemerisref2_Arg.j0 k (wrap64 (-a0)) a1 ((decide (a0 < 0)) != (decide (a1 < 0)))) else (ephemerisref2_Arg.j0 k a0 a1 ((decide (a0 < 0)) != (decide (a1 < 0))))) = some r := h
 clear h
 obtain ⟨mn_, hMN_⟩ : ∃ b_, b_ = ((decide (a0 < 0)) != (decide (a1 < 0))) := ⟨_, rfl⟩
 rw [← hMN_] at H
 have HC3 := Aside0.mk H
 clear H
 go_enter Try.func115, Try.ntmps115
 go_upto_if 15 with (fail)
 rw [show (!(decide (a0 < 0) == decide (a1 < 0))) = mn_ from hMN_.symm]
 clear hMN_
 go_cut [0] (fun v0 wc => ∃ (kq : Nat) (x0_2 : Int), v0 = .int .i64 x0_2 ∧ Aside0 (ephemerisref2_Arg.j0 kq x0_2 a1 mn_ = some r) ∧ Aside0 (kq ≤ k) ∧ Drawn0 w wc)
 case first =>
  have H := HC3.out
  clear HC3
  by_cases c4 : a0 < 0
  ·rw [if_pos c4] at H
   have c4b0 : decide (a0 < 0) = true := decide_eq_true c4
   clear c4
   (first | rw [c4b0] | (simp only [i64_w, i32_w]; rw [c4b0]) | skip)
   have H' := Aside0.mk H
   clear H
   go_wp2
   go_meet
   case rel => exact ⟨_, (wrap64 (-a0)), (by first | rfl | (simp; done) | (simp [*]; done)), H', ⟨by first | omega | exact Nat.le_refl _⟩, by repeat (first | exact Drawn0.refl _ | apply Drawn0.step)⟩
  ·rw [if_neg c4] at H
   have c4b0 : decide (a0 < 0) = false := decide_eq_false c4
   clear c4
   (first | rw [c4b0] | (simp only [i64_w, i32_w]; rw [c4b0]) | skip)
   have H' := Aside0.mk H
   clear H
   go_wp2
   go_meet
   case rel => exact ⟨_, (a0), (by first | rfl | (simp; done) | (simp [*]; done)), H', ⟨by first | omega | exact Nat.le_refl _⟩, by repeat (first | exact Drawn0.refl _ | apply Drawn0.step)⟩
 case rest =>
  clear HC3
  try clear c1
  try clear p2
  try clear c4
  try clear c4b0
  obtain ⟨kq, x0_2, rfl, HA, HJ2, ⟨mc2, rfl⟩⟩ := hcut
  cases kq with
  | zero => exact absurd HA.out (by simp [ephemerisref2_Arg.j0])
  | succ kj2 =>
   have H := HA.out
   clear HA
   simp only [ephemerisref2_Arg.j0] at H
   have HC5 := Aside0.mk H
   clear H
   go_upto_if 19 with (fail)
   go_cut [1] (fun v1 wc => ∃ (kq : Nat) (x1_4 : Int), v1 = .int .i64 x1_4 ∧ Aside0 (ephemerisref2_Arg.j1 kq x0_2 x1_4 mn_ = some r) ∧ Aside0 (kq ≤ kj2) ∧ Drawn0 w wc)
   case first =>
    have H := HC5.out
    clear HC5
    by_cases c6 : a1 < 0
    ·rw [if_pos c6] at H
     have c6b0 : decide (a1 < 0) = true := decide_eq_true c6
     clear c6
     (first | rw [c6b0] | (simp only [i64_w, i32_w]; rw [c6b0]) | skip)
     have H' := Aside0.mk H
     clear H
     go_wp2
     go_meet
     case rel => exact ⟨_, (wrap64 (-a1)), (by first | rfl | (simp; done) | (simp [*]; done)), H', ⟨by have := HJ2.out; first | omega | exact Nat.le_refl _⟩, by repeat (first | exact Drawn0.refl _ | apply Drawn0.step)⟩
    ·rw [if_neg c6] at H
     have c6b0 : decide (a1 < 0) = false := decide_eq_false c6
     clear c6
     (first | rw [c6b0] | (simp only [i64_w, i32_w]; rw [c6b0]) | skip)
     have H' := Aside0.mk H
     clear H
     go_wp2
     go_meet
     case rel => exact ⟨_, (a1), (by first | rfl | (simp; done) | (simp [*]; done)), H', ⟨by have := HJ2.out; first | omega | exact Nat.le_refl _⟩, by repeat (first | exact Drawn0.refl _ | apply Drawn0.step)⟩
   case rest =>
    clear HC5
    try clear c1
    try clear c2
    try clear p2
    try clear c4
    try clear c4b0
    try clear c6
    try clear c6b0
    try clear p6
    try clear p2
    obtain ⟨kq, x1_4, rfl, HA, HJ4, ⟨mc4, rfl⟩⟩ := hcut
    cases kq with
    | zero => exact absurd HA.out (by simp [ephemerisref2_Arg.j1])
    | succ kj4 =>
     have H := HA.out
     clear HA
     simp only [ephemerisref2_Arg.j1] at H
     have H' := Aside0.mk H
     clear H
     go_wp2
     go_loopg [6, 7, 8] kj4 (fun kq v6 v7 v8 w' => ∃ (x6_3 : Int) (x7_3 : Int) (x8_3 : Int), v6 = .int .i64 x6_3 ∧ v7 = .int .i64 x7_3 ∧ v8 = .int .i64 x8_3 ∧ Aside0 (ephemerisref2_Arg.l0 kq x0_2 x1_4 mn_ x6_3 x7_3 x8_3 = some r) ∧ Aside0 (kq ≤ kj4) ∧ Drawn0 w w')
     case atStart => exact ⟨(0), (0), (50), (by first | rfl | (simp; done) | (simp [*]; done)), (by first | rfl | (simp; done) | (simp [*]; done)), (by first | rfl | (simp; done) | (simp [*]; done)), H', ⟨Nat.le_refl _⟩, by repeat (first | exact Drawn0.refl _ | apply Drawn0.step)⟩
     case round =>
      clear H'
      try clear c1
      try clear c2
      try clear p2
      try clear c4
      try clear c4b0
      try clear c6
      try clear c6b0
      try clear p6
      try clear p2
      try clear p6
      obtain ⟨x6_3, x7_3, x8_3, rfl, rfl, rfl, HA, HK3, ⟨m3, rfl⟩⟩ := hrel
      cases gk with
      | zero => exact absurd HA.out (by simp [ephemerisref2_Arg.l0])
      | succ k3 =>
       have H := HA.out
       clear HA
       simp only [ephemerisref2_Arg.l0] at H
       by_cases c7 : x8_3 ≥ 0
       ·rw [if_pos c7] at H
        have c7b0 : decide (0 ≤ x8_3) = true := decide_eq_true c7
        clear c7
        by_cases c8 : 0 ≤ x8_3
        ·rw [if_pos c8] at H
         have c8b0 := eq_true c8
         have c8b1 : decide (0 ≤ x8_3) = true := decide_eq_true c8
         clear c8
         obtain ⟨ji9, hji9⟩ : ∃ j_ : Int, (shr .i64 x1_4 x8_3) = j_ := ⟨_, rfl⟩
         replace H : (if (Go.bits .and .i64 (ji9) 1) = 1 then (ephemerisref2_Arg.l0 k3 x0_2 x1_4 mn_ (Int.tmod (wrap64 ((wrap64 (2 * x6_3)) + (wrap64 (Int.tdiv (wrap64 ((wrap64 (2 * x7_3)) + x0_2)) 86400000)))) 1000000000000000) (Int.tmod (wrap64 ((wrap64 (2 * x7_3)) + x0_2)) 86400000) (wrap64 (x8_3 - 1))) else (ephemerisref2_Arg.l0 k3 x0_2 x1_4 mn_ (Int.tmod (wrap64 ((wrap64 (2 * x6_3)) + (wrap64 (Int.tdiv (wrap64 (2 * x7_3)) 86400000)))) 1000000000000000) (Int.tmod (wrap64 (2 * x7_3)) 86400000) (wrap64 (x8_3 - 1)))) = some r := by first | (rw [hji9] at H; exact H) | (simp only [hji9] at H ⊢; exact H)
         have hji9_ : (x1_4 / 2 ^ min x8_3.toNat 64) = ji9 := hji9
         have hji9z : x8_3 ≤ 64 → (x1_4 / 2 ^ x8_3.toNat) = ji9 := shr_small hji9
         by_cases c10 : (Go.bits .and .i64 (ji9) 1) = 1
         ·rw [if_pos c10] at H
          have c10b0 : ((Go.bits .and .i64 (ji9) 1) == 1) = true := beq_iff_eq.mpr c10
          have c10b1 : ((Go.bits .and .i64 (ji9) 1) != 1) = false := bne_eq_false_iff_eq.mpr c10
          clear c10
          have H' := Aside0.mk H
          clear H
          go_wp2
          go_roundg k3
          case measure => have := HJ2.out; have := HJ4.out; have := HK3.out; omega
          case rel => exact ⟨(Int.tmod (wrap64 ((wrap64 (2 * x6_3)) + (wrap64 (Int.tdiv (wrap64 ((wrap64 (2 * x7_3)) + x0_2)) 86400000)))) 1000000000000000), (Int.tmod (wrap64 ((wrap64 (2 * x7_3)) + x0_2)) 86400000), (wrap64 (x8_3 - 1)), (by first | rfl | (simp; done) | (simp [*]; done)), (by first | rfl | (simp; done) | (simp [*]; done)), (by first | rfl | (simp; done) | (simp [*]; done)), H', ⟨by have := HJ2.out; have := HJ4.out; have := HK3.out; omega⟩, by repeat (first | exact Drawn0.refl _ | apply Drawn0.step)⟩
         ·rw [if_neg c10] at H
          have c10b0 : ((Go.bits .and .i64 (ji9) 1) == 1) = false := beq_eq_false_iff_ne.mpr c10
          have c10b1 : ((Go.bits .and .i64 (ji9) 1) != 1) = true := bne_iff_ne.mpr c10
          have H' := Aside0.mk H
          clear H
          go_wp2
          go_roundg k3
          case measure => have := HJ2.out; have := HJ4.out; have := HK3.out; omega
          case rel => exact ⟨(Int.tmod (wrap64 ((wrap64 (2 * x6_3)) + (wrap64 (Int.tdiv (wrap64 (2 * x7_3)) 86400000)))) 1000000000000000), (Int.tmod (wrap64 (2 * x7_3)) 86400000), (wrap64 (x8_3 - 1)), (by first | rfl | (simp; done) | (simp [*]; done)), (by first | rfl | (simp; done) | (simp [*]; done)), (by first | rfl | (simp; done) | (simp [*]; done)), H', ⟨by have := HJ2.out; have := HJ4.out; have := HK3.out; omega⟩, by repeat (first | exact Drawn0.refl _ | apply Drawn0.step)⟩
        ·rw [if_neg c8] at H
         exact absurd H (by simp)
       ·rw [if_neg c7] at H
        have c7b0 : decide (0 ≤ x8_3) = false := decide_eq_false c7
        clear c7
        by_cases c11 : mn_ = true
        ·rw [if_pos c11] at H
         have c11b0 : mn_ = true := c11
         subst c11b0
         (try (have c11b1 : decide ((decide (a0 < 0)) = (decide (a1 < 0))) = false := by simpa using c11))
         (try (have c11b2 : ((decide (a0 < 0)) == (decide (a1 < 0))) = false := by simpa using c11))
         (try (have c11b3 : ¬ ((decide (a0 < 0)) = (decide (a1 < 0))) := by simpa using c11))
         clear c11
         by_cases c12 : x7_3 > 0
         ·rw [if_pos c12] at H
          have c12b0 : decide (0 < x7_3) = true := decide_eq_true c12
          clear c12
          replace H := Option.bind_eq_some_iff.mp H
          obtain ⟨t365, A130, H⟩ := H
          replace H : (some t365) = some r := H
          have A13 := Aside0.mk A130
          clear A130
          obtain rfl := Option.some.inj H
          simp only [Option.some.injEq, Prod.mk.injEq] at H
          obtain ⟨rfl⟩ := H
          go_wp2_with (first | ((with_reducible refine gate_callee (f := 20) rfl ?_); refine goesL_ (some 53) rfl rfl Try.func20 (by kernel_rfl) rfl #[.int .i64 (wrap64 ((wrap64 (-x6_3)) - 1)), .int .i64 1000000000000000] rfl (by (try simp only [List.map_toArray, List.map_cons, List.map_nil]); first | done | rfl | (simp only [List.length_drop, List.length_take]; rfl)) ?_; (with_reducible refine (ephemerisref2_Mod.calls (wrap64 ((wrap64 (-x6_3)) - 1)) 1000000000000000 t365 _ A13.out).mono ?_); rintro e w' ⟨rfl, ⟨nd, rfl⟩⟩; refine ⟨_, rfl, ?_⟩))
          go_ret
          exact ⟨by first | rfl | (simp; done) | (simp [*]; done), by repeat (first | exact Drawn0.refl _ | apply Drawn0.step)⟩
         ·rw [if_neg c12] at H
          have c12b0 : decide (0 < x7_3) = false := decide_eq_false c12
          clear c12
          replace H := Option.bind_eq_some_iff.mp H
          obtain ⟨t366, A140, H⟩ := H
          replace H : (some t366) = some r := H
          have A14 := Aside0.mk A140
          clear A140
          obtain rfl := Option.some.inj H
          simp only [Option.some.injEq, Prod.mk.injEq] at H
          obtain ⟨rfl⟩ := H
          go_wp2_with (first | ((with_reducible refine gate_callee (f := 20) rfl ?_); refine goesL_ (some 53) rfl rfl Try.func20 (by kernel_rfl) rfl #[.int .i64 (wrap64 (-x6_3)), .int .i64 1000000000000000] rfl (by (try simp only [List.map_toArray, List.map_cons, List.map_nil]); first | done | rfl | (simp only [List.length_drop, List.length_take]; rfl)) ?_; (with_reducible refine (ephemerisref2_Mod.calls (wrap64 (-x6_3)) 1000000000000000 t366 _ A14.out).mono ?_); rintro e w' ⟨rfl, ⟨nd, rfl⟩⟩; refine ⟨_, rfl, ?_⟩))
          go_ret
          exact ⟨by first | rfl | (simp; done) | (simp [*]; done), by repeat (first | exact Drawn0.refl _ | apply Drawn0.step)⟩
        ·rw [if_neg c11] at H
         have c11b0 : mn_ = false := by simpa using c11
         subst c11b0
         (try (have c11b1 : decide ((decide (a0 < 0)) = (decide (a1 < 0))) = true := by simpa using c11))
         (try (have c11b2 : ((decide (a0 < 0)) == (decide (a1 < 0))) = true := by simpa using c11))
         clear c11
         replace H := Option.bind_eq_some_iff.mp H
         obtain ⟨t367, A150, H⟩ := H
         replace H : (some t367) = some r := H
         have A15 := Aside0.mk A150
         clear A150
         obtain rfl := Option.some.inj H
         simp only [Option.some.injEq, Prod.mk.injEq] at H
         obtain ⟨rfl⟩ := H
         go_wp2_with (first | ((with_reducible refine gate_callee (f := 20) rfl ?_); refine goesL_ (some 53) rfl rfl Try.func20 (by kernel_rfl) rfl #[.int .i64 x6_3, .int .i64 1000000000000000] rfl (by (try simp only [List.map_toArray, List.map_cons, List.map_nil]); first | done | rfl | (simp only [List.length_drop, List.length_take]; rfl)) ?_; (with_reducible refine (ephemerisref2_Mod.calls x6_3 1000000000000000 t367 _ A15.out).mono ?_); rintro e w' ⟨rfl, ⟨nd, rfl⟩⟩; refine ⟨_, rfl, ?_⟩))
         go_ret
         exact ⟨by first | rfl | (simp; done) | (simp [*]; done), by repeat (first | exact Drawn0.refl _ | apply Drawn0.step)⟩
end Go.Proofs.Ytedakilpogagiaa.PAll
end
section
namespace Go.Proofs.Ytedakilpogagiaa.PAll
open Go.RowKit YtedakilpogagiaaW.PrintWords YtedakilpogagiaaW.PrintLast YtedakilpogagiaaW.PrintMore More2 Sq
attribute [local go_sem] max2_int min2_int max_two min_two max_three min_three max_four min_four tdiv2e18_ tdiv1e18_ cellSS_  -- for this text's walks alone
def ephemerisref2_Part.f (a0 : Int) (a1 : Int) : Option (Int) := if a1 < 0 then (some (wrap64 ((-1) * ((wrap64 ((wrap64 (a0 * ((wrap64 (-a1)) / 1073741824))) + ((wrap64 (a0 * (Go.bits .and .i64 (wrap64 (-a1)) 1073741823))) / 1073741824))) / 1024)))) else (some (wrap64 (1 * ((wrap64 ((wrap64 (a0 * (a1 / 1073741824))) + ((wrap64 (a0 * (Go.bits .and .i64 a1 1073741823))) / 1073741824))) / 1024))))
theorem ephemerisref2_Part.calls (a0 : Int) (a1 : Int) (r : Int) (w : World) (h : ephemerisref2_Part.f a0 a1 = some r) :
  Calls Try.prog 80 #[.int .i64 a0, .int .i64 a1] w fun e w' => e = .returned (.int .i64 r) ∧ Drawn0 w w' := by
 have H : (if a1 < 0 then (some (wrap64 ((-1) * ((wrap64 ((wrap64 (a0 * ((wrap64 (-a1)) / 1073741824))) + ((wrap64 (a0 * (Go.bits .and .i64 (wrap64 (-a1)) 1073741823))) / 1073741824))) / 1024)))) else (some (wrap64 (1 * ((wrap64 ((wrap64 (a0 * (a1 / 1073741824))) + ((wrap64 (a0 * (Go.bits .and .i64 a1 1073741823))) / 1073741824))) / 1024))))) = some r := h
 clear h
 by_cases c3 : a1 < 0
 ·rw [if_pos c3] at H
  have c3b0 : decide (a1 < 0) = true := decide_eq_true c3
  clear c3
  obtain rfl := Option.some.inj H
  simp only [Option.some.injEq, Prod.mk.injEq] at H
  obtain ⟨rfl⟩ := H
  go_enter Try.func80, Try.ntmps80
  go_wp2
  go_ret
  exact ⟨by first | rfl | (simp; done) | (simp [*]; done), by repeat (first | exact Drawn0.refl _ | apply Drawn0.step)⟩
 ·rw [if_neg c3] at H
  have c3b0 : decide (a1 < 0) = false := decide_eq_false c3
  clear c3
  obtain rfl := Option.some.inj H
  simp only [Option.some.injEq, Prod.mk.injEq] at H
  obtain ⟨rfl⟩ := H
  go_enter Try.func80, Try.ntmps80
  go_wp2
  go_ret
  exact ⟨by first | rfl | (simp; done) | (simp [*]; done), by repeat (first | exact Drawn0.refl _ | apply Drawn0.step)⟩
end Go.Proofs.Ytedakilpogagiaa.PAll
end
section
namespace Go.Proofs.Ytedakilpogagiaa.PAll
open Go.RowKit YtedakilpogagiaaW.PrintWords YtedakilpogagiaaW.PrintLast YtedakilpogagiaaW.PrintMore More2 Sq
attribute [local go_sem] max2_int min2_int max_two min_two max_three min_three max_four min_four tdiv2e18_ tdiv1e18_ cellSS_  -- for this text's walks alone
def ephemerisref2_Sum.l0 : Nat → Int → Int → List (S94) → Int → Int → Option (Int)
 | 0, _, _, _, _, _ => none
 | k + 1, x1, x5, x14, x15, x16 => if x16 < x15 then (if 0 ≤ x16 then (if x16 < (x14.length : Int) then ((ephemerisref2_Arg.f k ((rd_T94 x14 x16).f2) x1).bind fun t371 => ((ephemerisref2_SinCos.f k (wrap64 (t371 + (wrap64 (((rd_T94 x14 x16).f1) * 1000000))))).bind fun bt372 => ((ephemerisref2_Part.f ((rd_T94 x14 x16).f0) bt372.1).bind fun t374 => (ephemerisref2_Sum.l0 k x1 (wrap64 (x5 + t374)) x14 x15 (wrap64 (x16 + 1)))))) else (none)) else (none)) else (some x5)
def ephemerisref2_Sum.f (k : Nat) (a0_0 : Int) (a0_1 : Int) (l0_2 : List (S94)) (a0_3 : Int) (a1 : Int) : Option (Int) := ephemerisref2_Sum.l0 k a1 (wrap64 (a0_0 * 1048576)) l0_2 (l0_2.length : Int) 0
theorem ephemerisref2_Sum.calls (k : Nat) (a0_0 : Int) (a0_1 : Int) (A0_2 : Option Addr) (c0_2 : Nat) (l0_2 : List (S94)) (a0_3 : Int) (a1 : Int) (r : Int) (w : World) (hr0_2 : Kd.C k94 w A0_2 l0_2.length l0_2) (hc0_2 : l0_2.length ≤ c0_2) (h : ephemerisref2_Sum.f k a0_0 a0_1 l0_2 a0_3 a1 = some r) :
  Calls Try.prog 110 #[.agg #[.int .i64 a0_0, .int .i64 a0_1, .slice A0_2 l0_2.length c0_2, .int .i64 a0_3], .int .i64 a1] w fun e w' => e = .returned (.int .i64 r) ∧ Below w.heap.size w w' := by
 have hu82 := Try.underlying82
 have hu94 := Try.underlying94
 have HR0_2 := Aside0.mk hr0_2
 have HC0_2 := Aside0.mk hc0_2
 clear hr0_2 hc0_2
 have HB := Aside0.mk (Below.refl w.heap.size w)
 have H : (ephemerisref2_Sum.l0 k a1 (wrap64 (a0_0 * 1048576)) l0_2 (l0_2.length : Int) 0) = some r := h
 clear h
 have H' := Aside0.mk H
 clear H
 go_enter Try.func110, Try.ntmps110
 go_wp2_with (first | ((with_reducible refine gate_dst (N := 2) rfl ?_); refine box_event ?hg (N := 2) ?hd (cs := #[.int .i64 a0_0, .int .i64 a0_1, .slice A0_2 l0_2.length c0_2, .int .i64 a0_3]) (t := 82) ?hr ?_; (case hd => rfl); (case hg => rfl); (case hr => first | (go_simp; done) | (go_simp; rfl)); intro gb368 hg w3 hbox hb; have BK368 := Aside0.mk (hbox); have GW368 := ge_ hg HB; have GE368 := ge_ hg HB; replace HB := bs_ HB hb; clear hb hbox hg; have hcz4_0 : w3.cell? ⟨gb368, 0, none⟩ = some (.int .i64 a0_0) := (blk_cell BK368.out 0).trans rfl; have hcz4_1 : w3.cell? ⟨gb368, 1, none⟩ = some (.int .i64 a0_1) := (blk_cell BK368.out 1).trans rfl; have hcz4_2 : w3.cell? ⟨gb368, 2, none⟩ = some (.slice A0_2 l0_2.length c0_2) := (blk_cell BK368.out 2).trans rfl; have hcz4_3 : w3.cell? ⟨gb368, 3, none⟩ = some (.int .i64 a0_3) := (blk_cell BK368.out 3).trans rfl; have hfz4_0 := blk_frozen BK368.out 0; have hfz4_1 := blk_frozen BK368.out 1; have hfz4_2 := blk_frozen BK368.out 2; have hfz4_3 := blk_frozen BK368.out 3))
 repeat (go_quiet (first | ((with_reducible refine gate_dst (N := 2) rfl ?_); refine box_event ?hg (N := 2) ?hd (cs := #[.int .i64 a0_0, .int .i64 a0_1, .slice A0_2 l0_2.length c0_2, .int .i64 a0_3]) (t := 82) ?hr ?_; (case hd => rfl); (case hg => rfl); (case hr => first | (go_simp; done) | (go_simp; rfl)); intro gb368 hg w3 hbox hb; have BK368 := Aside0.mk (hbox); have GW368 := ge_ hg HB; have GE368 := ge_ hg HB; replace HB := bs_ HB hb; clear hb hbox hg; have hcz4_0 : w3.cell? ⟨gb368, 0, none⟩ = some (.int .i64 a0_0) := (blk_cell BK368.out 0).trans rfl; have hcz4_1 : w3.cell? ⟨gb368, 1, none⟩ = some (.int .i64 a0_1) := (blk_cell BK368.out 1).trans rfl; have hcz4_2 : w3.cell? ⟨gb368, 2, none⟩ = some (.slice A0_2 l0_2.length c0_2) := (blk_cell BK368.out 2).trans rfl; have hcz4_3 : w3.cell? ⟨gb368, 3, none⟩ = some (.int .i64 a0_3) := (blk_cell BK368.out 3).trans rfl; have hfz4_0 := blk_frozen BK368.out 0; have hfz4_1 := blk_frozen BK368.out 1; have hfz4_2 := blk_frozen BK368.out 2; have hfz4_3 := blk_frozen BK368.out 3)); try go_wp2_with (first | ((with_reducible refine gate_dst (N := 2) rfl ?_); refine box_event ?hg (N := 2) ?hd (cs := #[.int .i64 a0_0, .int .i64 a0_1, .slice A0_2 l0_2.length c0_2, .int .i64 a0_3]) (t := 82) ?hr ?_; (case hd => rfl); (case hg => rfl); (case hr => first | (go_simp; done) | (go_simp; rfl)); intro gb368 hg w3 hbox hb; have BK368 := Aside0.mk (hbox); have GW368 := ge_ hg HB; have GE368 := ge_ hg HB; replace HB := bs_ HB hb; clear hb hbox hg; have hcz4_0 : w3.cell? ⟨gb368, 0, none⟩ = some (.int .i64 a0_0) := (blk_cell BK368.out 0).trans rfl; have hcz4_1 : w3.cell? ⟨gb368, 1, none⟩ = some (.int .i64 a0_1) := (blk_cell BK368.out 1).trans rfl; have hcz4_2 : w3.cell? ⟨gb368, 2, none⟩ = some (.slice A0_2 l0_2.length c0_2) := (blk_cell BK368.out 2).trans rfl; have hcz4_3 : w3.cell? ⟨gb368, 3, none⟩ = some (.int .i64 a0_3) := (blk_cell BK368.out 3).trans rfl; have hfz4_0 := blk_frozen BK368.out 0; have hfz4_1 := blk_frozen BK368.out 1; have hfz4_2 := blk_frozen BK368.out 2; have hfz4_3 := blk_frozen BK368.out 3)))
 go_loopg [5, 16] k (fun kq v5 v16 w' => ∃ (x5_1 : Int) (x16_1 : Int), v5 = .int .i64 x5_1 ∧ v16 = .int .i64 x16_1 ∧ Aside0 (ephemerisref2_Sum.l0 kq a1 x5_1 l0_2 (l0_2.length : Int) x16_1 = some r) ∧ Aside0 (kq ≤ k) ∧ Aside0 (w'.heap[gb368]? = some (.cells #[.int .i64 a0_0, .int .i64 a0_1, (.slice A0_2 l0_2.length c0_2), .int .i64 a0_3] 82 (0, 0))) ∧ Aside0 (Below w.heap.size w w'))
 case atStart => exact ⟨(wrap64 (a0_0 * 1048576)), (0), (by first | rfl | (simp; done) | (simp [*]; done)), (by first | rfl | (simp; done) | (simp [*]; done)), H', ⟨Nat.le_refl _⟩, ⟨kk_ BK368⟩, (be_ HB)⟩
 case round =>
  clear H'
  try clear c1
  try clear p2
  try clear hcz4_0
  try clear hcz4_1
  try clear hcz4_2
  try clear hcz4_3
  try clear hfz4_0
  try clear hfz4_1
  try clear hfz4_2
  try clear hfz4_3
  obtain ⟨x5_1, x16_1, rfl, rfl, HA, HK1, BK368, HB⟩ := hrel
  cases gk with
  | zero => exact absurd HA.out (by simp [ephemerisref2_Sum.l0])
  | succ k1 =>
   have H := HA.out
   clear HA
   simp only [ephemerisref2_Sum.l0] at H
   by_cases c5 : x16_1 < (l0_2.length : Int)
   ·rw [if_pos c5] at H
    have c5b0 : decide (x16_1 < (l0_2.length : Int)) = true := decide_eq_true c5
    clear c5
    by_cases c6 : 0 ≤ x16_1
    ·rw [if_pos c6] at H
     have c6b0 : decide (0 ≤ x16_1) = true := decide_eq_true c6
     clear c6
     by_cases c7 : x16_1 < (l0_2.length : Int)
     ·rw [if_pos c7] at H
      have c7b0 : decide (x16_1 < (l0_2.length : Int)) = true := decide_eq_true c7
      clear c7
      replace H := Option.bind_eq_some_iff.mp H
      obtain ⟨t371, A80, H⟩ := H
      replace H : ((ephemerisref2_SinCos.f k1 (wrap64 (t371 + (wrap64 (((rd_T94 l0_2 x16_1).f1) * 1000000))))).bind fun bt372 => ((ephemerisref2_Part.f ((rd_T94 l0_2 x16_1).f0) bt372.1).bind fun t374 => (ephemerisref2_Sum.l0 k1 a1 (wrap64 (x5_1 + t374)) l0_2 (l0_2.length : Int) (wrap64 (x16_1 + 1))))) = some r := H
      have A8 := Aside0.mk A80
      clear A80
      replace H := Option.bind_eq_some_iff.mp H
      obtain ⟨⟨t372, t373⟩, A90, H⟩ := H
      replace H : ((ephemerisref2_Part.f ((rd_T94 l0_2 x16_1).f0) t372).bind fun t374 => (ephemerisref2_Sum.l0 k1 a1 (wrap64 (x5_1 + t374)) l0_2 (l0_2.length : Int) (wrap64 (x16_1 + 1)))) = some r := H
      have A9 := Aside0.mk A90
      clear A90
      replace H := Option.bind_eq_some_iff.mp H
      obtain ⟨t374, A100, H⟩ := H
      replace H : (ephemerisref2_Sum.l0 k1 a1 (wrap64 (x5_1 + t374)) l0_2 (l0_2.length : Int) (wrap64 (x16_1 + 1))) = some r := H
      have A10 := Aside0.mk A100
      clear A100
      have H' := Aside0.mk H
      clear H
      have p369 : 0 ≤ (x16_1 : Int) := of_decide_eq_true (by first | (with_reducible assumption) | assumption)
      have q369 : x16_1 < (l0_2.length : Int) := of_decide_eq_true (by first | (with_reducible assumption) | assumption)
      obtain ⟨ad369, e369, hx369_0, hx369_1, hx369_2⟩ := at_T94 HR0_2.out x16_1 p369 q369
      cases e369
      replace hx369_0 := (HB.out.cell (World.block_lt_of_cell? w _ hx369_0)).trans hx369_0
      replace hx369_1 := (HB.out.cell (World.block_lt_of_cell? w _ hx369_1)).trans hx369_1
      replace hx369_2 := (HB.out.cell (World.block_lt_of_cell? w _ hx369_2)).trans hx369_2
      replace p369 := eq_true p369
      replace q369 := eq_true q369
      go_wp2_with (first | ((with_reducible refine gate_dst (N := 7) rfl ?_); refine box_event ?hg (N := 7) ?hd (cs := #[.int .i64 0, .int .i64 0, .int .i64 0]) (t := 94) ?hr ?_; (case hd => rfl); (case hg => rfl); (case hr => first | (go_simp; done) | (go_simp; rfl)); intro gb370 hg w11 hbox hb; have BK370 := Aside0.mk (hbox); have GW370 := ge_ hg HB; have GE370 := ge_ hg HB; have NB368_370 := nl_ hg BK368; have NB370_368 := ng_ hg BK368; replace BK368 := kb_ BK368 hb; replace HB := bs_ HB hb; clear hb hbox hg; have hnb12 := NB370_368.out; have hnc12 := NB368_370.out; have hcz13_0 : w11.cell? ⟨gb370, 0, none⟩ = some (.int .i64 0) := (blk_cell BK370.out 0).trans rfl; have hcz13_1 : w11.cell? ⟨gb370, 1, none⟩ = some (.int .i64 0) := (blk_cell BK370.out 1).trans rfl; have hcz13_2 : w11.cell? ⟨gb370, 2, none⟩ = some (.int .i64 0) := (blk_cell BK370.out 2).trans rfl; have hfz13_0 := blk_frozen BK370.out 0; have hfz13_1 := blk_frozen BK370.out 1; have hfz13_2 := blk_frozen BK370.out 2) | (go_at_call 115; (with_reducible refine (ephemerisref2_Arg.calls k1 ((rd_T94 l0_2 x16_1).f2) a1 t371 _ A8.out).mono ?_); rintro e w' ⟨rfl, ⟨nd, rfl⟩⟩; (try first | exact ⟨rfl, _, World.drewN_drewN _ _ _⟩ | exact ⟨rfl, _, Eq.trans (World.drewN_drewN _ _ _) (congrArg (World.drewN _) (Nat.add_assoc _ _ _))⟩)) | (go_at_call 40; (with_reducible refine (ephemerisref2_SinCos.calls k1 (wrap64 (t371 + (wrap64 (((rd_T94 l0_2 x16_1).f1) * 1000000)))) t372 t373 _ A9.out).mono ?_); rintro e w' ⟨rfl, ⟨nd, rfl⟩⟩; (try first | exact ⟨rfl, _, World.drewN_drewN _ _ _⟩ | exact ⟨rfl, _, Eq.trans (World.drewN_drewN _ _ _) (congrArg (World.drewN _) (Nat.add_assoc _ _ _))⟩)) | (go_at_call 80; (with_reducible refine (ephemerisref2_Part.calls ((rd_T94 l0_2 x16_1).f0) t372 t374 _ A10.out).mono ?_); rintro e w' ⟨rfl, ⟨nd, rfl⟩⟩; (try first | exact ⟨rfl, _, World.drewN_drewN _ _ _⟩ | exact ⟨rfl, _, Eq.trans (World.drewN_drewN _ _ _) (congrArg (World.drewN _) (Nat.add_assoc _ _ _))⟩)))
      repeat (go_quiet (first | ((with_reducible refine gate_dst (N := 7) rfl ?_); refine box_event ?hg (N := 7) ?hd (cs := #[.int .i64 0, .int .i64 0, .int .i64 0]) (t := 94) ?hr ?_; (case hd => rfl); (case hg => rfl); (case hr => first | (go_simp; done) | (go_simp; rfl)); intro gb370 hg w11 hbox hb; have BK370 := Aside0.mk (hbox); have GW370 := ge_ hg HB; have GE370 := ge_ hg HB; have NB368_370 := nl_ hg BK368; have NB370_368 := ng_ hg BK368; replace BK368 := kb_ BK368 hb; replace HB := bs_ HB hb; clear hb hbox hg; have hnb12 := NB370_368.out; have hnc12 := NB368_370.out; have hcz13_0 : w11.cell? ⟨gb370, 0, none⟩ = some (.int .i64 0) := (blk_cell BK370.out 0).trans rfl; have hcz13_1 : w11.cell? ⟨gb370, 1, none⟩ = some (.int .i64 0) := (blk_cell BK370.out 1).trans rfl; have hcz13_2 : w11.cell? ⟨gb370, 2, none⟩ = some (.int .i64 0) := (blk_cell BK370.out 2).trans rfl; have hfz13_0 := blk_frozen BK370.out 0; have hfz13_1 := blk_frozen BK370.out 1; have hfz13_2 := blk_frozen BK370.out 2) | (go_at_call 115; (with_reducible refine (ephemerisref2_Arg.calls k1 ((rd_T94 l0_2 x16_1).f2) a1 t371 _ A8.out).mono ?_); rintro e w' ⟨rfl, ⟨nd, rfl⟩⟩; (try first | exact ⟨rfl, _, World.drewN_drewN _ _ _⟩ | exact ⟨rfl, _, Eq.trans (World.drewN_drewN _ _ _) (congrArg (World.drewN _) (Nat.add_assoc _ _ _))⟩)) | (go_at_call 40; (with_reducible refine (ephemerisref2_SinCos.calls k1 (wrap64 (t371 + (wrap64 (((rd_T94 l0_2 x16_1).f1) * 1000000)))) t372 t373 _ A9.out).mono ?_); rintro e w' ⟨rfl, ⟨nd, rfl⟩⟩; (try first | exact ⟨rfl, _, World.drewN_drewN _ _ _⟩ | exact ⟨rfl, _, Eq.trans (World.drewN_drewN _ _ _) (congrArg (World.drewN _) (Nat.add_assoc _ _ _))⟩)) | (go_at_call 80; (with_reducible refine (ephemerisref2_Part.calls ((rd_T94 l0_2 x16_1).f0) t372 t374 _ A10.out).mono ?_); rintro e w' ⟨rfl, ⟨nd, rfl⟩⟩; (try first | exact ⟨rfl, _, World.drewN_drewN _ _ _⟩ | exact ⟨rfl, _, Eq.trans (World.drewN_drewN _ _ _) (congrArg (World.drewN _) (Nat.add_assoc _ _ _))⟩))); try go_wp2_with (first | ((with_reducible refine gate_dst (N := 7) rfl ?_); refine box_event ?hg (N := 7) ?hd (cs := #[.int .i64 0, .int .i64 0, .int .i64 0]) (t := 94) ?hr ?_; (case hd => rfl); (case hg => rfl); (case hr => first | (go_simp; done) | (go_simp; rfl)); intro gb370 hg w11 hbox hb; have BK370 := Aside0.mk (hbox); have GW370 := ge_ hg HB; have GE370 := ge_ hg HB; have NB368_370 := nl_ hg BK368; have NB370_368 := ng_ hg BK368; replace BK368 := kb_ BK368 hb; replace HB := bs_ HB hb; clear hb hbox hg; have hnb12 := NB370_368.out; have hnc12 := NB368_370.out; have hcz13_0 : w11.cell? ⟨gb370, 0, none⟩ = some (.int .i64 0) := (blk_cell BK370.out 0).trans rfl; have hcz13_1 : w11.cell? ⟨gb370, 1, none⟩ = some (.int .i64 0) := (blk_cell BK370.out 1).trans rfl; have hcz13_2 : w11.cell? ⟨gb370, 2, none⟩ = some (.int .i64 0) := (blk_cell BK370.out 2).trans rfl; have hfz13_0 := blk_frozen BK370.out 0; have hfz13_1 := blk_frozen BK370.out 1; have hfz13_2 := blk_frozen BK370.out 2) | (go_at_call 115; (with_reducible refine (ephemerisref2_Arg.calls k1 ((rd_T94 l0_2 x16_1).f2) a1 t371 _ A8.out).mono ?_); rintro e w' ⟨rfl, ⟨nd, rfl⟩⟩; (try first | exact ⟨rfl, _, World.drewN_drewN _ _ _⟩ | exact ⟨rfl, _, Eq.trans (World.drewN_drewN _ _ _) (congrArg (World.drewN _) (Nat.add_assoc _ _ _))⟩)) | (go_at_call 40; (with_reducible refine (ephemerisref2_SinCos.calls k1 (wrap64 (t371 + (wrap64 (((rd_T94 l0_2 x16_1).f1) * 1000000)))) t372 t373 _ A9.out).mono ?_); rintro e w' ⟨rfl, ⟨nd, rfl⟩⟩; (try first | exact ⟨rfl, _, World.drewN_drewN _ _ _⟩ | exact ⟨rfl, _, Eq.trans (World.drewN_drewN _ _ _) (congrArg (World.drewN _) (Nat.add_assoc _ _ _))⟩)) | (go_at_call 80; (with_reducible refine (ephemerisref2_Part.calls ((rd_T94 l0_2 x16_1).f0) t372 t374 _ A10.out).mono ?_); rintro e w' ⟨rfl, ⟨nd, rfl⟩⟩; (try first | exact ⟨rfl, _, World.drewN_drewN _ _ _⟩ | exact ⟨rfl, _, Eq.trans (World.drewN_drewN _ _ _) (congrArg (World.drewN _) (Nat.add_assoc _ _ _))⟩))))
      go_roundg k1
      case measure => have := HK1.out; omega
      case rel => exact ⟨(wrap64 (x5_1 + t374)), (wrap64 (x16_1 + 1)), (by first | rfl | (simp; done) | (simp [*]; done)), (by first | rfl | (simp; done) | (simp [*]; done)), H', ⟨by have := HK1.out; omega⟩, ⟨kk_ BK368⟩, (be_ HB)⟩
     ·rw [if_neg c7] at H
      exact absurd H (by simp)
    ·rw [if_neg c6] at H
     exact absurd H (by simp)
   ·rw [if_neg c5] at H
    have c5b0 : decide (x16_1 < (l0_2.length : Int)) = false := decide_eq_false c5
    clear c5
    obtain rfl := Option.some.inj H
    simp only [Option.some.injEq, Prod.mk.injEq] at H
    obtain ⟨rfl⟩ := H
    go_wp2
    repeat (go_quiet (fail); try go_wp2)
    go_ret
    exact ⟨by first | rfl | (simp [errW_none, errW_some] <;> rfl) | (simp [*, errW_none, errW_some] <;> rfl), (be_ HB).out⟩
end Go.Proofs.Ytedakilpogagiaa.PAll
end
section
namespace Go.Proofs.Ytedakilpogagiaa.PAll
open Go.RowKit YtedakilpogagiaaW.PrintWords YtedakilpogagiaaW.PrintLast YtedakilpogagiaaW.PrintMore More2 Sq
attribute [local go_sem] max2_int min2_int max_two min_two max_three min_three max_four min_four tdiv2e18_ tdiv1e18_ cellSS_  -- for this text's walks alone
def ephemerisref2_Whole.f (k : Nat) (a0_0 : Int) (a0_1 : Int) (l0_2 : List (S94)) (a0_3 : Int) (a1 : Int) : Option (Int) := (ephemerisref2_Arg.f k a0_1 a1).bind fun t376 => ((ephemerisref2_Sum.f k a0_0 a0_1 l0_2 a0_3 a1).bind fun t377 => ((ephemerisref2_Mod.f (wrap64 ((wrap64 (t377 + (wrap64 ((wrap64 (Int.tdiv t376 1000000)) * 1048576)))) + (wrap64 (Int.tdiv (wrap64 ((Int.tmod t376 1000000) * 1048576)) 1000000)))) 1048576000000000).bind fun t378 => (some t378)))
theorem ephemerisref2_Whole.calls (k : Nat) (a0_0 : Int) (a0_1 : Int) (A0_2 : Option Addr) (c0_2 : Nat) (l0_2 : List (S94)) (a0_3 : Int) (a1 : Int) (r : Int) (w : World) (hr0_2 : Kd.C k94 w A0_2 l0_2.length l0_2) (hc0_2 : l0_2.length ≤ c0_2) (h : ephemerisref2_Whole.f k a0_0 a0_1 l0_2 a0_3 a1 = some r) :
  Calls Try.prog 90 #[.agg #[.int .i64 a0_0, .int .i64 a0_1, .slice A0_2 l0_2.length c0_2, .int .i64 a0_3], .int .i64 a1] w fun e w' => e = .returned (.int .i64 r) ∧ Below w.heap.size w w' := by
 have hu82 := Try.underlying82
 have HR0_2 := Aside0.mk hr0_2
 have HC0_2 := Aside0.mk hc0_2
 clear hr0_2 hc0_2
 have HB := Aside0.mk (Below.refl w.heap.size w)
 have H : ((ephemerisref2_Arg.f k a0_1 a1).bind fun t376 => ((ephemerisref2_Sum.f k a0_0 a0_1 l0_2 a0_3 a1).bind fun t377 => ((ephemerisref2_Mod.f (wrap64 ((wrap64 (t377 + (wrap64 ((wrap64 (Int.tdiv t376 1000000)) * 1048576)))) + (wrap64 (Int.tdiv (wrap64 ((Int.tmod t376 1000000) * 1048576)) 1000000)))) 1048576000000000).bind fun t378 => (some t378)))) = some r := h
 clear h
 replace H := Option.bind_eq_some_iff.mp H
 obtain ⟨t376, A30, H⟩ := H
 replace H : ((ephemerisref2_Sum.f k a0_0 a0_1 l0_2 a0_3 a1).bind fun t377 => ((ephemerisref2_Mod.f (wrap64 ((wrap64 (t377 + (wrap64 ((wrap64 (Int.tdiv t376 1000000)) * 1048576)))) + (wrap64 (Int.tdiv (wrap64 ((Int.tmod t376 1000000) * 1048576)) 1000000)))) 1048576000000000).bind fun t378 => (some t378))) = some r := H
 have A3 := Aside0.mk A30
 clear A30
 replace H := Option.bind_eq_some_iff.mp H
 obtain ⟨t377, A40, H⟩ := H
 replace H : ((ephemerisref2_Mod.f (wrap64 ((wrap64 (t377 + (wrap64 ((wrap64 (Int.tdiv t376 1000000)) * 1048576)))) + (wrap64 (Int.tdiv (wrap64 ((Int.tmod t376 1000000) * 1048576)) 1000000)))) 1048576000000000).bind fun t378 => (some t378)) = some r := H
 have A4 := Aside0.mk A40
 clear A40
 replace H := Option.bind_eq_some_iff.mp H
 obtain ⟨t378, A50, H⟩ := H
 replace H : (some t378) = some r := H
 have A5 := Aside0.mk A50
 clear A50
 obtain rfl := Option.some.inj H
 simp only [Option.some.injEq, Prod.mk.injEq] at H
 obtain ⟨rfl⟩ := H
 go_enter Try.func90, Try.ntmps90
 go_wp2_with (first | ((with_reducible refine gate_dst (N := 2) rfl ?_); refine box_event ?hg (N := 2) ?hd (cs := #[.int .i64 a0_0, .int .i64 a0_1, .slice A0_2 l0_2.length c0_2, .int .i64 a0_3]) (t := 82) ?hr ?_; (case hd => rfl); (case hg => rfl); (case hr => first | (go_simp; done) | (go_simp; rfl)); intro gb375 hg w6 hbox hb; have BK375 := Aside0.mk (hbox); have GW375 := ge_ hg HB; have GE375 := ge_ hg HB; replace HB := bs_ HB hb; clear hb hbox hg; have hcz7_0 : w6.cell? ⟨gb375, 0, none⟩ = some (.int .i64 a0_0) := (blk_cell BK375.out 0).trans rfl; have hcz7_1 : w6.cell? ⟨gb375, 1, none⟩ = some (.int .i64 a0_1) := (blk_cell BK375.out 1).trans rfl; have hcz7_2 : w6.cell? ⟨gb375, 2, none⟩ = some (.slice A0_2 l0_2.length c0_2) := (blk_cell BK375.out 2).trans rfl; have hcz7_3 : w6.cell? ⟨gb375, 3, none⟩ = some (.int .i64 a0_3) := (blk_cell BK375.out 3).trans rfl; have hfz7_0 := blk_frozen BK375.out 0; have hfz7_1 := blk_frozen BK375.out 1; have hfz7_2 := blk_frozen BK375.out 2; have hfz7_3 := blk_frozen BK375.out 3) | ((with_reducible refine gate_callee (f := 115) rfl ?_); refine goesL_ (some 9) rfl rfl Try.func115 (by kernel_rfl) rfl #[.int .i64 a0_1, .int .i64 a1] rfl (by (try simp only [List.map_toArray, List.map_cons, List.map_nil]); first | done | rfl | (simp only [List.length_drop, List.length_take]; rfl)) ?_; (with_reducible refine (ephemerisref2_Arg.calls k a0_1 a1 t376 _ A3.out).mono ?_); rintro e w' ⟨rfl, ⟨nd, rfl⟩⟩; refine ⟨_, rfl, ?_⟩) | ((with_reducible refine gate_callee (f := 110) rfl ?_); refine goesL_ (some 12) rfl rfl Try.func110 (by kernel_rfl) rfl #[.agg #[.int .i64 a0_0, .int .i64 a0_1, .slice A0_2 l0_2.length c0_2, .int .i64 a0_3], .int .i64 a1] rfl (by (try simp only [List.map_toArray, List.map_cons, List.map_nil]); first | done | rfl | (simp only [List.length_drop, List.length_take]; rfl)) ?_; (with_reducible refine (ephemerisref2_Sum.calls k a0_0 a0_1 _ _ l0_2 a0_3 a1 t377 _ ?side1 ?side2 A4.out).mono ?_); (case side1 => repeat (first | exact (Kd.C_below HR0_2.out (be_ HB).out) | (with_reducible refine Kd.C_alloc ?_ _) | (with_reducible refine Kd.C_drewN ?_ _) | (with_reducible refine Kd.C_drew ?_))); (case side2 => exact HC0_2.out); rintro e w8 ⟨rfl, hb⟩; refine ⟨_, rfl, ?_⟩; replace BK375 := kb_ BK375 hb; replace HB := bs_ HB hb; (try clear hb); (try clear hb2); (try clear hk); (try clear hi)) | ((with_reducible refine gate_callee (f := 20) rfl ?_); refine goesL_ (some 22) rfl rfl Try.func20 (by kernel_rfl) rfl #[.int .i64 (wrap64 ((wrap64 (t377 + (wrap64 ((wrap64 (Int.tdiv t376 1000000)) * 1048576)))) + (wrap64 (Int.tdiv (wrap64 ((Int.tmod t376 1000000) * 1048576)) 1000000)))), .int .i64 1048576000000000] rfl (by (try simp only [List.map_toArray, List.map_cons, List.map_nil]); first | done | rfl | (simp only [List.length_drop, List.length_take]; rfl)) ?_; (with_reducible refine (ephemerisref2_Mod.calls (wrap64 ((wrap64 (t377 + (wrap64 ((wrap64 (Int.tdiv t376 1000000)) * 1048576)))) + (wrap64 (Int.tdiv (wrap64 ((Int.tmod t376 1000000) * 1048576)) 1000000)))) 1048576000000000 t378 _ A5.out).mono ?_); rintro e w' ⟨rfl, ⟨nd, rfl⟩⟩; refine ⟨_, rfl, ?_⟩))
 go_ret
 exact ⟨by first | rfl | (simp [errW_none, errW_some] <;> rfl) | (simp [*, errW_none, errW_some] <;> rfl), (be_ HB).out⟩
end Go.Proofs.Ytedakilpogagiaa.PAll
end
section
namespace Go.Proofs.Ytedakilpogagiaa.PAll
open Go.RowKit YtedakilpogagiaaW.PrintWords YtedakilpogagiaaW.PrintLast YtedakilpogagiaaW.PrintMore More2 Sq
attribute [local go_sem] max2_int min2_int max_two min_two max_three min_three max_four min_four tdiv2e18_ tdiv1e18_ cellSS_  -- for this text's walks alone
def ephemerisref2_moonSum.f  : Option (Int × Int × (List (S94)) × Int) := some (392048814, 36601101305556, (([(⟨17468817, 99384016, 36291647083333⟩ : S94), (⟨3538964, 134030564, 31434736861111⟩ : S94), (⟨1828650, 233414580, 67726383944444⟩ : S94), (⟨593383, 198768032, 72583294166666⟩ : S94), (⟨(-514211), 84888545, 2737778555556⟩ : S94), (⟨(-317589), 297001062, 73496390222222⟩ : S94)] : List (S94))), 20000)
theorem ephemerisref2_moonSum.calls  (r1 : Int) (r2 : Int) (r3 : List (S94)) (r4 : Int) (w : World) (h : ephemerisref2_moonSum.f  = some (r1, r2, r3, r4)) :
  Calls Try.prog 91 #[] w fun e w' => ∃ v2_ : Value, e = .returned (.agg #[.int .i64 r1, .int .i64 r2, v2_, .int .i64 r4]) ∧ Kd.R k94 94 w' w.heap.size (fun _ => True) v2_ r3 ∧ Below w.heap.size w w' := by
 have hu82 := Try.underlying82
 have hu94 := Try.underlying94
 have HB := Aside0.mk (Below.refl w.heap.size w)
 have H : (some (392048814, 36601101305556, (([(⟨17468817, 99384016, 36291647083333⟩ : S94), (⟨3538964, 134030564, 31434736861111⟩ : S94), (⟨1828650, 233414580, 67726383944444⟩ : S94), (⟨593383, 198768032, 72583294166666⟩ : S94), (⟨(-514211), 84888545, 2737778555556⟩ : S94), (⟨(-317589), 297001062, 73496390222222⟩ : S94)] : List (S94))), 20000)) = some (r1, r2, r3, r4) := h
 clear h
 obtain ⟨y380, hy380⟩ : ∃ y_ : List (S94), y_ = (([(⟨17468817, 99384016, 36291647083333⟩ : S94), (⟨3538964, 134030564, 31434736861111⟩ : S94), (⟨1828650, 233414580, 67726383944444⟩ : S94), (⟨593383, 198768032, 72583294166666⟩ : S94), (⟨(-514211), 84888545, 2737778555556⟩ : S94), (⟨(-317589), 297001062, 73496390222222⟩ : S94)] : List (S94))) := ⟨_, rfl⟩
 replace H : (some (392048814, 36601101305556, y380, 20000)) = some (r1, r2, r3, r4) := by first | (rw [hy380]; with_reducible exact H) | (have H2_ := (Option.bind_some _ _).symm.trans H; rw [hy380]; with_reducible exact H2_) | (have H2_ := (Option.bind_some _ _).symm.trans H; with_reducible exact H2_) | with_reducible exact H | (rw [hy380]; exact H) | exact H
 have Ny380 := Aside0.mk hy380
 clear hy380
 simp only [Option.some.injEq, Prod.mk.injEq] at H
 obtain ⟨rfl, rfl, rfl, rfl⟩ := H
 go_enter Try.func91, Try.ntmps91
 go_wp2_with (first | ((with_reducible refine gate_dst (N := 0) rfl ?_); refine box_event ?hg (N := 0) ?hd (cs := #[.int .i64 0, .int .i64 0, .slice none 0 0, .int .i64 0]) (t := 82) ?hr ?_; (case hd => rfl); (case hg => rfl); (case hr => first | (go_simp; done) | (go_simp; rfl)); intro gb379 hg w1 hbox hb; have BK379 := Aside0.mk (hbox); have GW379 := ge_ hg HB; have GE379 := ge_ hg HB; replace HB := bs_ HB hb; clear hb hbox hg) | ((with_reducible refine gate_dst (N := 7) rfl ?_); refine Kd.R_lit k94 _ 94 ?hg (N := 7) ?hd (xs := ([(⟨17468817, 99384016, 36291647083333⟩ : S94), (⟨3538964, 134030564, 31434736861111⟩ : S94), (⟨1828650, 233414580, 67726383944444⟩ : S94), (⟨593383, 198768032, 72583294166666⟩ : S94), (⟨(-514211), 84888545, 2737778555556⟩ : S94), (⟨(-317589), 297001062, 73496390222222⟩ : S94)] : List (S94))) (inner := [.int .i64 17468817, .int .i64 99384016, .int .i64 36291647083333, .int .i64 3538964, .int .i64 134030564, .int .i64 31434736861111, .int .i64 1828650, .int .i64 233414580, .int .i64 67726383944444, .int .i64 593383, .int .i64 198768032, .int .i64 72583294166666, .int .i64 (-514211), .int .i64 84888545, .int .i64 2737778555556, .int .i64 (-317589), .int .i64 297001062, .int .i64 73496390222222]) (ok := fun _ => True) (okp := fun _ => True) ?hr ?hp (fun _ hk => hk) trivial (Below.refl _ _) (Nat.le_refl _) (by simp) ?_; (case hd => rfl); (case hg => rfl); (case hr => first | (go_simp; done) | (go_simp; rfl)); (case hp => exact (Reps.c3 (show Kd.M k94 _ _ _ (⟨17468817, 99384016, 36291647083333⟩ : S94) [.int .i64 17468817, .int .i64 99384016, .int .i64 36291647083333] from (k94_mkM _ _ _ (⟨17468817, 99384016, 36291647083333⟩ : S94) )) (Reps.c3 (show Kd.M k94 _ _ _ (⟨3538964, 134030564, 31434736861111⟩ : S94) [.int .i64 3538964, .int .i64 134030564, .int .i64 31434736861111] from (k94_mkM _ _ _ (⟨3538964, 134030564, 31434736861111⟩ : S94) )) (Reps.c3 (show Kd.M k94 _ _ _ (⟨1828650, 233414580, 67726383944444⟩ : S94) [.int .i64 1828650, .int .i64 233414580, .int .i64 67726383944444] from (k94_mkM _ _ _ (⟨1828650, 233414580, 67726383944444⟩ : S94) )) (Reps.c3 (show Kd.M k94 _ _ _ (⟨593383, 198768032, 72583294166666⟩ : S94) [.int .i64 593383, .int .i64 198768032, .int .i64 72583294166666] from (k94_mkM _ _ _ (⟨593383, 198768032, 72583294166666⟩ : S94) )) (Reps.c3 (show Kd.M k94 _ _ _ (⟨(-514211), 84888545, 2737778555556⟩ : S94) [.int .i64 (-514211), .int .i64 84888545, .int .i64 2737778555556] from (k94_mkM _ _ _ (⟨(-514211), 84888545, 2737778555556⟩ : S94) )) (Reps.c3 (show Kd.M k94 _ _ _ (⟨(-317589), 297001062, 73496390222222⟩ : S94) [.int .i64 (-317589), .int .i64 297001062, .int .i64 73496390222222] from (k94_mkM _ _ _ (⟨(-317589), 297001062, 73496390222222⟩ : S94) )) (Reps.none _ _)))))))); intro v381 w2 ho3 hb hg_ hnew_; clear hg_ hnew_; (first | rw [← Ny380.out] at ho3 | (simp only [Int.reduceToNat] at ho3; rw [← Ny380.out] at ho3)); have HO382 := Aside0.mk (Kd.R_lower ho3 (below_size (be_ HB).out)); replace BK379 := kb_ BK379 hb; replace HB := bs_ HB hb; clear hb ho3; obtain ⟨Ao4, co4, eo4⟩ := Kd.R_slice HO382.out; subst eo4; have hcz5_0 : w2.cell? ⟨gb379, 0, none⟩ = some (.int .i64 0) := (blk_cell BK379.out 0).trans rfl; have hcz5_1 : w2.cell? ⟨gb379, 1, none⟩ = some (.int .i64 0) := (blk_cell BK379.out 1).trans rfl; have hcz5_2 : w2.cell? ⟨gb379, 2, none⟩ = some (.slice none 0 0) := (blk_cell BK379.out 2).trans rfl; have hcz5_3 : w2.cell? ⟨gb379, 3, none⟩ = some (.int .i64 0) := (blk_cell BK379.out 3).trans rfl; have hfz5_0 := blk_frozen BK379.out 0; have hfz5_1 := blk_frozen BK379.out 1; have hfz5_2 := blk_frozen BK379.out 2; have hfz5_3 := blk_frozen BK379.out 3))
 refine bodyPost_ret (results_cell_row rfl _ _ gb379 82 #[.int .i64 392048814, .int .i64 36601101305556, .slice Ao4 y380.length co4, .int .i64 20000] (0, 0) _ rfl (by (with_reducible repeat (first | refine blk_drewN ?_ _ | refine blk_drew ?_ | refine blk_alloc ?_ _)); refine blk_put (cs := #[.int .i64 392048814, .int .i64 36601101305556, .slice Ao4 y380.length co4, .int .i64 0]) ?_ 3 _ rfl; (with_reducible repeat (first | refine blk_drewN ?_ _ | refine blk_drew ?_ | refine blk_alloc ?_ _)); refine blk_put (cs := #[.int .i64 392048814, .int .i64 36601101305556, .slice none 0 0, .int .i64 0]) ?_ 2 _ rfl; (with_reducible repeat (first | refine blk_drewN ?_ _ | refine blk_drew ?_ | refine blk_alloc ?_ _)); refine blk_put (cs := #[.int .i64 392048814, .int .i64 0, .slice none 0 0, .int .i64 0]) ?_ 1 _ rfl; (with_reducible repeat (first | refine blk_drewN ?_ _ | refine blk_drew ?_ | refine blk_alloc ?_ _)); refine blk_put (cs := #[.int .i64 0, .int .i64 0, .slice none 0 0, .int .i64 0]) ?_ 0 _ rfl; (with_reducible repeat (first | refine blk_drewN ?_ _ | refine blk_drew ?_ | refine blk_alloc ?_ _)); exact BK379.out) Try.underlying82 rfl (by kernel_rfl)) rfl ?_
 exact ⟨_, by first | rfl | (simp [errW_none, errW_some] <;> rfl) | (simp [*, errW_none, errW_some] <;> rfl), by (with_reducible repeat (first | apply Kd.R_alloc | apply Kd.R_drewN | apply Kd.R_drew)); exact Kd.R_mono (Kd.R_far (p := ⟨gb379, 3, none⟩) (Kd.R_far (p := ⟨gb379, 2, none⟩) (Kd.R_far (p := ⟨gb379, 1, none⟩) (Kd.R_far (p := ⟨gb379, 0, none⟩) (Kd.R_types HO382.out BK379.out (by decide)) (fun _ hk => hk.2) (.int .i64 392048814)) (fun _ hk => hk.2) (.int .i64 36601101305556)) (fun _ hk => hk.2) (.slice Ao4 y380.length co4)) (fun _ hk => hk.2) (.int .i64 20000)) (fun _ hk => trivial), (be_ HB).out⟩
end Go.Proofs.Ytedakilpogagiaa.PAll
end
section
namespace Go.Proofs.Ytedakilpogagiaa.PAll
open Go.RowKit YtedakilpogagiaaW.PrintWords YtedakilpogagiaaW.PrintLast YtedakilpogagiaaW.PrintMore More2 Sq
attribute [local go_sem] max2_int min2_int max_two min_two max_three min_three max_four min_four tdiv2e18_ tdiv1e18_ cellSS_  -- for this text's walks alone
def ephemerisref2_MoonLon.f (k : Nat) (a0 : Int) (a1 : Int) : Option (Int) := (ephemerisref2_moonSum.f).bind fun bt383 => ((ephemerisref2_Whole.f k bt383.1 bt383.2.1 bt383.2.2.1 bt383.2.2.2 a0).bind fun t389 => ((ephemerisref2_Mod.f (wrap64 (t389 + (wrap64 ((wrap64 (2500 * a1)) * 1048576)))) 1048576000000000).bind fun t390 => (some t390)))
theorem ephemerisref2_MoonLon.calls (k : Nat) (a0 : Int) (a1 : Int) (r : Int) (w : World) (h : ephemerisref2_MoonLon.f k a0 a1 = some r) :
  Calls Try.prog 50 #[.int .i64 a0, .int .i64 a1] w fun e w' => e = .returned (.int .i64 r) ∧ Below w.heap.size w w' := by
 have HB := Aside0.mk (Below.refl w.heap.size w)
 have H : ((ephemerisref2_moonSum.f).bind fun bt383 => ((ephemerisref2_Whole.f k bt383.1 bt383.2.1 bt383.2.2.1 bt383.2.2.2 a0).bind fun t389 => ((ephemerisref2_Mod.f (wrap64 (t389 + (wrap64 ((wrap64 (2500 * a1)) * 1048576)))) 1048576000000000).bind fun t390 => (some t390)))) = some r := h
 clear h
 replace H := Option.bind_eq_some_iff.mp H
 obtain ⟨⟨t383, t384, t385, t388⟩, A30, H⟩ := H
 replace H : ((ephemerisref2_Whole.f k t383 t384 t385 t388 a0).bind fun t389 => ((ephemerisref2_Mod.f (wrap64 (t389 + (wrap64 ((wrap64 (2500 * a1)) * 1048576)))) 1048576000000000).bind fun t390 => (some t390))) = some r := H
 have A3 := Aside0.mk A30
 clear A30
 replace H := Option.bind_eq_some_iff.mp H
 obtain ⟨t389, A40, H⟩ := H
 replace H : ((ephemerisref2_Mod.f (wrap64 (t389 + (wrap64 ((wrap64 (2500 * a1)) * 1048576)))) 1048576000000000).bind fun t390 => (some t390)) = some r := H
 have A4 := Aside0.mk A40
 clear A40
 replace H := Option.bind_eq_some_iff.mp H
 obtain ⟨t390, A50, H⟩ := H
 replace H : (some t390) = some r := H
 have A5 := Aside0.mk A50
 clear A50
 obtain rfl := Option.some.inj H
 simp only [Option.some.injEq, Prod.mk.injEq] at H
 obtain ⟨rfl⟩ := H
 go_enter Try.func50, Try.ntmps50
 go_wp2_with (first | ((with_reducible refine gate_callee (f := 91) rfl ?_); refine goesL_ (some 5) rfl rfl Try.func91 (by kernel_rfl) rfl #[] rfl (by (try simp only [List.map_toArray, List.map_cons, List.map_nil]); first | done | rfl | (simp only [List.length_drop, List.length_take]; rfl)) ?_; (with_reducible refine (ephemerisref2_moonSum.calls  t383 t384 t385 t388 _ A3.out).mono ?_); rintro e w6 ⟨v386, rfl, ho0, hb⟩; refine ⟨_, rfl, ?_⟩; have HO387 := Aside0.mk (Kd.R_lower ho0 (below_size (be_ HB).out)); replace HB := bs_ HB hb; (try clear hb); (try clear hb2); (try clear hk); (try clear hi); (try clear ho0); obtain ⟨Ao7, co7, eo7⟩ := Kd.R_slice HO387.out; subst eo7) | ((with_reducible refine gate_callee (f := 90) rfl ?_); refine goesL_ (some 7) rfl rfl Try.func90 (by kernel_rfl) rfl #[.agg #[.int .i64 t383, .int .i64 t384, .slice Ao7 t385.length co7, .int .i64 t388], .int .i64 a0] rfl (by (try simp only [List.map_toArray, List.map_cons, List.map_nil]); first | done | rfl | (simp only [List.length_drop, List.length_take]; rfl)) ?_; (with_reducible refine (ephemerisref2_Whole.calls k t383 t384 _ _ t385 t388 a0 t389 _ ?side1 ?side2 A4.out).mono ?_); (case side1 => repeat (first | exact (Kd.R_reads' HO387.out).2.2 | (with_reducible refine Kd.C_alloc ?_ _) | (with_reducible refine Kd.C_drewN ?_ _) | (with_reducible refine Kd.C_drew ?_))); (case side2 => exact (Kd.R_reads' HO387.out).2.1); rintro e w8 ⟨rfl, hb⟩; refine ⟨_, rfl, ?_⟩; have n0_ := Aside0.mk (Kd.R_below (by (with_reducible repeat (first | apply Kd.R_alloc | apply Kd.R_drewN | apply Kd.R_drew)); exact HO387.out) hb); have n1_ := bs_ HB hb; clear HO387; clear HB; have HO387 := n0_; have HB := n1_; clear n0_ n1_; (try clear hb); (try clear hb2); (try clear hk); (try clear hi)) | ((with_reducible refine gate_callee (f := 20) rfl ?_); refine goesL_ (some 12) rfl rfl Try.func20 (by kernel_rfl) rfl #[.int .i64 (wrap64 (t389 + (wrap64 ((wrap64 (2500 * a1)) * 1048576)))), .int .i64 1048576000000000] rfl (by (try simp only [List.map_toArray, List.map_cons, List.map_nil]); first | done | rfl | (simp only [List.length_drop, List.length_take]; rfl)) ?_; (with_reducible refine (ephemerisref2_Mod.calls (wrap64 (t389 + (wrap64 ((wrap64 (2500 * a1)) * 1048576)))) 1048576000000000 t390 _ A5.out).mono ?_); rintro e w' ⟨rfl, ⟨nd, rfl⟩⟩; refine ⟨_, rfl, ?_⟩))
 go_ret
 exact ⟨by first | rfl | (simp [errW_none, errW_some] <;> rfl) | (simp [*, errW_none, errW_some] <;> rfl), (be_ HB).out⟩
end Go.Proofs.Ytedakilpogagiaa.PAll
end
section
namespace Go.Proofs.Ytedakilpogagiaa.PAll
open Go.RowKit YtedakilpogagiaaW.PrintWords YtedakilpogagiaaW.PrintLast YtedakilpogagiaaW.PrintMore More2 Sq
attribute [local go_sem] max2_int min2_int max_two min_two max_three min_three max_four min_four tdiv2e18_ tdiv1e18_ cellSS_  -- for this text's walks alone
def ephemerisref2_sunSum.f  : Option (Int × Int × (List (S94)) × Int) := some (775342092, 2737909333333, (([(⟨5318339, 84888545, 2737778555556⟩ : S94), (⟨55536, 169777090, 5475557111112⟩ : S94)] : List (S94))), 2000)
theorem ephemerisref2_sunSum.calls  (r1 : Int) (r2 : Int) (r3 : List (S94)) (r4 : Int) (w : World) (h : ephemerisref2_sunSum.f  = some (r1, r2, r3, r4)) :
  Calls Try.prog 92 #[] w fun e w' => ∃ v2_ : Value, e = .returned (.agg #[.int .i64 r1, .int .i64 r2, v2_, .int .i64 r4]) ∧ Kd.R k94 94 w' w.heap.size (fun _ => True) v2_ r3 ∧ Below w.heap.size w w' := by
 have hu82 := Try.underlying82
 have hu94 := Try.underlying94
 have HB := Aside0.mk (Below.refl w.heap.size w)
 have H : (some (775342092, 2737909333333, (([(⟨5318339, 84888545, 2737778555556⟩ : S94), (⟨55536, 169777090, 5475557111112⟩ : S94)] : List (S94))), 2000)) = some (r1, r2, r3, r4) := h
 clear h
 obtain ⟨y392, hy392⟩ : ∃ y_ : List (S94), y_ = (([(⟨5318339, 84888545, 2737778555556⟩ : S94), (⟨55536, 169777090, 5475557111112⟩ : S94)] : List (S94))) := ⟨_, rfl⟩
 replace H : (some (775342092, 2737909333333, y392, 2000)) = some (r1, r2, r3, r4) := by first | (rw [hy392]; with_reducible exact H) | (have H2_ := (Option.bind_some _ _).symm.trans H; rw [hy392]; with_reducible exact H2_) | (have H2_ := (Option.bind_some _ _).symm.trans H; with_reducible exact H2_) | with_reducible exact H | (rw [hy392]; exact H) | exact H
 have Ny392 := Aside0.mk hy392
 clear hy392
 simp only [Option.some.injEq, Prod.mk.injEq] at H
 obtain ⟨rfl, rfl, rfl, rfl⟩ := H
 go_enter Try.func92, Try.ntmps92
 go_wp2_with (first | ((with_reducible refine gate_dst (N := 0) rfl ?_); refine box_event ?hg (N := 0) ?hd (cs := #[.int .i64 0, .int .i64 0, .slice none 0 0, .int .i64 0]) (t := 82) ?hr ?_; (case hd => rfl); (case hg => rfl); (case hr => first | (go_simp; done) | (go_simp; rfl)); intro gb391 hg w1 hbox hb; have BK391 := Aside0.mk (hbox); have GW391 := ge_ hg HB; have GE391 := ge_ hg HB; replace HB := bs_ HB hb; clear hb hbox hg) | ((with_reducible refine gate_dst (N := 3) rfl ?_); refine Kd.R_lit k94 _ 94 ?hg (N := 3) ?hd (xs := ([(⟨5318339, 84888545, 2737778555556⟩ : S94), (⟨55536, 169777090, 5475557111112⟩ : S94)] : List (S94))) (inner := [.int .i64 5318339, .int .i64 84888545, .int .i64 2737778555556, .int .i64 55536, .int .i64 169777090, .int .i64 5475557111112]) (ok := fun _ => True) (okp := fun _ => True) ?hr ?hp (fun _ hk => hk) trivial (Below.refl _ _) (Nat.le_refl _) (by simp) ?_; (case hd => rfl); (case hg => rfl); (case hr => first | (go_simp; done) | (go_simp; rfl)); (case hp => exact (Reps.c3 (show Kd.M k94 _ _ _ (⟨5318339, 84888545, 2737778555556⟩ : S94) [.int .i64 5318339, .int .i64 84888545, .int .i64 2737778555556] from (k94_mkM _ _ _ (⟨5318339, 84888545, 2737778555556⟩ : S94) )) (Reps.c3 (show Kd.M k94 _ _ _ (⟨55536, 169777090, 5475557111112⟩ : S94) [.int .i64 55536, .int .i64 169777090, .int .i64 5475557111112] from (k94_mkM _ _ _ (⟨55536, 169777090, 5475557111112⟩ : S94) )) (Reps.none _ _)))); intro v393 w2 ho3 hb hg_ hnew_; clear hg_ hnew_; (first | rw [← Ny392.out] at ho3 | (simp only [Int.reduceToNat] at ho3; rw [← Ny392.out] at ho3)); have HO394 := Aside0.mk (Kd.R_lower ho3 (below_size (be_ HB).out)); replace BK391 := kb_ BK391 hb; replace HB := bs_ HB hb; clear hb ho3; obtain ⟨Ao4, co4, eo4⟩ := Kd.R_slice HO394.out; subst eo4; have hcz5_0 : w2.cell? ⟨gb391, 0, none⟩ = some (.int .i64 0) := (blk_cell BK391.out 0).trans rfl; have hcz5_1 : w2.cell? ⟨gb391, 1, none⟩ = some (.int .i64 0) := (blk_cell BK391.out 1).trans rfl; have hcz5_2 : w2.cell? ⟨gb391, 2, none⟩ = some (.slice none 0 0) := (blk_cell BK391.out 2).trans rfl; have hcz5_3 : w2.cell? ⟨gb391, 3, none⟩ = some (.int .i64 0) := (blk_cell BK391.out 3).trans rfl; have hfz5_0 := blk_frozen BK391.out 0; have hfz5_1 := blk_frozen BK391.out 1; have hfz5_2 := blk_frozen BK391.out 2; have hfz5_3 := blk_frozen BK391.out 3))
 refine bodyPost_ret (results_cell_row rfl _ _ gb391 82 #[.int .i64 775342092, .int .i64 2737909333333, .slice Ao4 y392.length co4, .int .i64 2000] (0, 0) _ rfl (by (with_reducible repeat (first | refine blk_drewN ?_ _ | refine blk_drew ?_ | refine blk_alloc ?_ _)); refine blk_put (cs := #[.int .i64 775342092, .int .i64 2737909333333, .slice Ao4 y392.length co4, .int .i64 0]) ?_ 3 _ rfl; (with_reducible repeat (first | refine blk_drewN ?_ _ | refine blk_drew ?_ | refine blk_alloc ?_ _)); refine blk_put (cs := #[.int .i64 775342092, .int .i64 2737909333333, .slice none 0 0, .int .i64 0]) ?_ 2 _ rfl; (with_reducible repeat (first | refine blk_drewN ?_ _ | refine blk_drew ?_ | refine blk_alloc ?_ _)); refine blk_put (cs := #[.int .i64 775342092, .int .i64 0, .slice none 0 0, .int .i64 0]) ?_ 1 _ rfl; (with_reducible repeat (first | refine blk_drewN ?_ _ | refine blk_drew ?_ | refine blk_alloc ?_ _)); refine blk_put (cs := #[.int .i64 0, .int .i64 0, .slice none 0 0, .int .i64 0]) ?_ 0 _ rfl; (with_reducible repeat (first | refine blk_drewN ?_ _ | refine blk_drew ?_ | refine blk_alloc ?_ _)); exact BK391.out) Try.underlying82 rfl (by kernel_rfl)) rfl ?_
 exact ⟨_, by first | rfl | (simp [errW_none, errW_some] <;> rfl) | (simp [*, errW_none, errW_some] <;> rfl), by (with_reducible repeat (first | apply Kd.R_alloc | apply Kd.R_drewN | apply Kd.R_drew)); exact Kd.R_mono (Kd.R_far (p := ⟨gb391, 3, none⟩) (Kd.R_far (p := ⟨gb391, 2, none⟩) (Kd.R_far (p := ⟨gb391, 1, none⟩) (Kd.R_far (p := ⟨gb391, 0, none⟩) (Kd.R_types HO394.out BK391.out (by decide)) (fun _ hk => hk.2) (.int .i64 775342092)) (fun _ hk => hk.2) (.int .i64 2737909333333)) (fun _ hk => hk.2) (.slice Ao4 y392.length co4)) (fun _ hk => hk.2) (.int .i64 2000)) (fun _ hk => trivial), (be_ HB).out⟩
end Go.Proofs.Ytedakilpogagiaa.PAll
end
section
namespace Go.Proofs.Ytedakilpogagiaa.PAll
open Go.RowKit YtedakilpogagiaaW.PrintWords YtedakilpogagiaaW.PrintLast YtedakilpogagiaaW.PrintMore More2 Sq
attribute [local go_sem] max2_int min2_int max_two min_two max_three min_three max_four min_four tdiv2e18_ tdiv1e18_ cellSS_  -- for this text's walks alone
def ephemerisref2_SunLon.f (k : Nat) (a0 : Int) (a1 : Int) : Option (Int) := (ephemerisref2_sunSum.f).bind fun bt395 => ((ephemerisref2_Whole.f k bt395.1 bt395.2.1 bt395.2.2.1 bt395.2.2.2 a0).bind fun t401 => ((ephemerisref2_Mod.f (wrap64 (t401 + (wrap64 ((wrap64 (250 * a1)) * 1048576)))) 1048576000000000).bind fun t402 => (some t402)))
theorem ephemerisref2_SunLon.calls (k : Nat) (a0 : Int) (a1 : Int) (r : Int) (w : World) (h : ephemerisref2_SunLon.f k a0 a1 = some r) :
  Calls Try.prog 51 #[.int .i64 a0, .int .i64 a1] w fun e w' => e = .returned (.int .i64 r) ∧ Below w.heap.size w w' := by
 have HB := Aside0.mk (Below.refl w.heap.size w)
 have H : ((ephemerisref2_sunSum.f).bind fun bt395 => ((ephemerisref2_Whole.f k bt395.1 bt395.2.1 bt395.2.2.1 bt395.2.2.2 a0).bind fun t401 => ((ephemerisref2_Mod.f (wrap64 (t401 + (wrap64 ((wrap64 (250 * a1)) * 1048576)))) 1048576000000000).bind fun t402 => (some t402)))) = some r := h
 clear h
 replace H := Option.bind_eq_some_iff.mp H
 obtain ⟨⟨t395, t396, t397, t400⟩, A30, H⟩ := H
 replace H : ((ephemerisref2_Whole.f k t395 t396 t397 t400 a0).bind fun t401 => ((ephemerisref2_Mod.f (wrap64 (t401 + (wrap64 ((wrap64 (250 * a1)) * 1048576)))) 1048576000000000).bind fun t402 => (some t402))) = some r := H
 have A3 := Aside0.mk A30
 clear A30
 replace H := Option.bind_eq_some_iff.mp H
 obtain ⟨t401, A40, H⟩ := H
 replace H : ((ephemerisref2_Mod.f (wrap64 (t401 + (wrap64 ((wrap64 (250 * a1)) * 1048576)))) 1048576000000000).bind fun t402 => (some t402)) = some r := H
 have A4 := Aside0.mk A40
 clear A40
 replace H := Option.bind_eq_some_iff.mp H
 obtain ⟨t402, A50, H⟩ := H
 replace H : (some t402) = some r := H
 have A5 := Aside0.mk A50
 clear A50
 obtain rfl := Option.some.inj H
 simp only [Option.some.injEq, Prod.mk.injEq] at H
 obtain ⟨rfl⟩ := H
 go_enter Try.func51, Try.ntmps51
 go_wp2_with (first | ((with_reducible refine gate_callee (f := 92) rfl ?_); refine goesL_ (some 5) rfl rfl Try.func92 (by kernel_rfl) rfl #[] rfl (by (try simp only [List.map_toArray, List.map_cons, List.map_nil]); first | done | rfl | (simp only [List.length_drop, List.length_take]; rfl)) ?_; (with_reducible refine (ephemerisref2_sunSum.calls  t395 t396 t397 t400 _ A3.out).mono ?_); rintro e w6 ⟨v398, rfl, ho0, hb⟩; refine ⟨_, rfl, ?_⟩; have HO399 := Aside0.mk (Kd.R_lower ho0 (below_size (be_ HB).out)); replace HB := bs_ HB hb; (try clear hb); (try clear hb2); (try clear hk); (try clear hi); (try clear ho0); obtain ⟨Ao7, co7, eo7⟩ := Kd.R_slice HO399.out; subst eo7) | ((with_reducible refine gate_callee (f := 90) rfl ?_); refine goesL_ (some 7) rfl rfl Try.func90 (by kernel_rfl) rfl #[.agg #[.int .i64 t395, .int .i64 t396, .slice Ao7 t397.length co7, .int .i64 t400], .int .i64 a0] rfl (by (try simp only [List.map_toArray, List.map_cons, List.map_nil]); first | done | rfl | (simp only [List.length_drop, List.length_take]; rfl)) ?_; (with_reducible refine (ephemerisref2_Whole.calls k t395 t396 _ _ t397 t400 a0 t401 _ ?side1 ?side2 A4.out).mono ?_); (case side1 => repeat (first | exact (Kd.R_reads' HO399.out).2.2 | (with_reducible refine Kd.C_alloc ?_ _) | (with_reducible refine Kd.C_drewN ?_ _) | (with_reducible refine Kd.C_drew ?_))); (case side2 => exact (Kd.R_reads' HO399.out).2.1); rintro e w8 ⟨rfl, hb⟩; refine ⟨_, rfl, ?_⟩; have n0_ := Aside0.mk (Kd.R_below (by (with_reducible repeat (first | apply Kd.R_alloc | apply Kd.R_drewN | apply Kd.R_drew)); exact HO399.out) hb); have n1_ := bs_ HB hb; clear HO399; clear HB; have HO399 := n0_; have HB := n1_; clear n0_ n1_; (try clear hb); (try clear hb2); (try clear hk); (try clear hi)) | ((with_reducible refine gate_callee (f := 20) rfl ?_); refine goesL_ (some 12) rfl rfl Try.func20 (by kernel_rfl) rfl #[.int .i64 (wrap64 (t401 + (wrap64 ((wrap64 (250 * a1)) * 1048576)))), .int .i64 1048576000000000] rfl (by (try simp only [List.map_toArray, List.map_cons, List.map_nil]); first | done | rfl | (simp only [List.length_drop, List.length_take]; rfl)) ?_; (with_reducible refine (ephemerisref2_Mod.calls (wrap64 (t401 + (wrap64 ((wrap64 (250 * a1)) * 1048576)))) 1048576000000000 t402 _ A5.out).mono ?_); rintro e w' ⟨rfl, ⟨nd, rfl⟩⟩; refine ⟨_, rfl, ?_⟩))
 go_ret
 exact ⟨by first | rfl | (simp [errW_none, errW_some] <;> rfl) | (simp [*, errW_none, errW_some] <;> rfl), (be_ HB).out⟩
end Go.Proofs.Ytedakilpogagiaa.PAll
end
section
namespace Go.Proofs.Ytedakilpogagiaa.PAll
open Go.RowKit YtedakilpogagiaaW.PrintWords YtedakilpogagiaaW.PrintLast YtedakilpogagiaaW.PrintMore More2 Sq
attribute [local go_sem] max2_int min2_int max_two min_two max_three min_three max_four min_four tdiv2e18_ tdiv1e18_ cellSS_  -- for this text's walks alone
def ephemerisref2_northSum.f  : Option (Int × Int × (List (S94)) × Int) := some (0, 0, (([(⟨14244783, 648500531, 36748195111111⟩ : S94), (⟨779450, 747884547, 73039842194444⟩ : S94), (⟨771369, 450883485, (-456548027778)⟩ : S94)] : List (S94))), 20000)
theorem ephemerisref2_northSum.calls  (r1 : Int) (r2 : Int) (r3 : List (S94)) (r4 : Int) (w : World) (h : ephemerisref2_northSum.f  = some (r1, r2, r3, r4)) :
  Calls Try.prog 111 #[] w fun e w' => ∃ v2_ : Value, e = .returned (.agg #[.int .i64 r1, .int .i64 r2, v2_, .int .i64 r4]) ∧ Kd.R k94 94 w' w.heap.size (fun _ => True) v2_ r3 ∧ Below w.heap.size w w' := by
 have hu82 := Try.underlying82
 have hu94 := Try.underlying94
 have HB := Aside0.mk (Below.refl w.heap.size w)
 have H : (some (0, 0, (([(⟨14244783, 648500531, 36748195111111⟩ : S94), (⟨779450, 747884547, 73039842194444⟩ : S94), (⟨771369, 450883485, (-456548027778)⟩ : S94)] : List (S94))), 20000)) = some (r1, r2, r3, r4) := h
 clear h
 obtain ⟨y404, hy404⟩ : ∃ y_ : List (S94), y_ = (([(⟨14244783, 648500531, 36748195111111⟩ : S94), (⟨779450, 747884547, 73039842194444⟩ : S94), (⟨771369, 450883485, (-456548027778)⟩ : S94)] : List (S94))) := ⟨_, rfl⟩
 replace H : (some (0, 0, y404, 20000)) = some (r1, r2, r3, r4) := by first | (rw [hy404]; with_reducible exact H) | (have H2_ := (Option.bind_some _ _).symm.trans H; rw [hy404]; with_reducible exact H2_) | (have H2_ := (Option.bind_some _ _).symm.trans H; with_reducible exact H2_) | with_reducible exact H | (rw [hy404]; exact H) | exact H
 have Ny404 := Aside0.mk hy404
 clear hy404
 simp only [Option.some.injEq, Prod.mk.injEq] at H
 obtain ⟨rfl, rfl, rfl, rfl⟩ := H
 go_enter Try.func111, Try.ntmps111
 go_wp2_with (first | ((with_reducible refine gate_dst (N := 0) rfl ?_); refine box_event ?hg (N := 0) ?hd (cs := #[.int .i64 0, .int .i64 0, .slice none 0 0, .int .i64 0]) (t := 82) ?hr ?_; (case hd => rfl); (case hg => rfl); (case hr => first | (go_simp; done) | (go_simp; rfl)); intro gb403 hg w1 hbox hb; have BK403 := Aside0.mk (hbox); have GW403 := ge_ hg HB; have GE403 := ge_ hg HB; replace HB := bs_ HB hb; clear hb hbox hg) | ((with_reducible refine gate_dst (N := 4) rfl ?_); refine Kd.R_lit k94 _ 94 ?hg (N := 4) ?hd (xs := ([(⟨14244783, 648500531, 36748195111111⟩ : S94), (⟨779450, 747884547, 73039842194444⟩ : S94), (⟨771369, 450883485, (-456548027778)⟩ : S94)] : List (S94))) (inner := [.int .i64 14244783, .int .i64 648500531, .int .i64 36748195111111, .int .i64 779450, .int .i64 747884547, .int .i64 73039842194444, .int .i64 771369, .int .i64 450883485, .int .i64 (-456548027778)]) (ok := fun _ => True) (okp := fun _ => True) ?hr ?hp (fun _ hk => hk) trivial (Below.refl _ _) (Nat.le_refl _) (by simp) ?_; (case hd => rfl); (case hg => rfl); (case hr => first | (go_simp; done) | (go_simp; rfl)); (case hp => exact (Reps.c3 (show Kd.M k94 _ _ _ (⟨14244783, 648500531, 36748195111111⟩ : S94) [.int .i64 14244783, .int .i64 648500531, .int .i64 36748195111111] from (k94_mkM _ _ _ (⟨14244783, 648500531, 36748195111111⟩ : S94) )) (Reps.c3 (show Kd.M k94 _ _ _ (⟨779450, 747884547, 73039842194444⟩ : S94) [.int .i64 779450, .int .i64 747884547, .int .i64 73039842194444] from (k94_mkM _ _ _ (⟨779450, 747884547, 73039842194444⟩ : S94) )) (Reps.c3 (show Kd.M k94 _ _ _ (⟨771369, 450883485, (-456548027778)⟩ : S94) [.int .i64 771369, .int .i64 450883485, .int .i64 (-456548027778)] from (k94_mkM _ _ _ (⟨771369, 450883485, (-456548027778)⟩ : S94) )) (Reps.none _ _))))); intro v405 w2 ho3 hb hg_ hnew_; clear hg_ hnew_; (first | rw [← Ny404.out] at ho3 | (simp only [Int.reduceToNat] at ho3; rw [← Ny404.out] at ho3)); have HO406 := Aside0.mk (Kd.R_lower ho3 (below_size (be_ HB).out)); replace BK403 := kb_ BK403 hb; replace HB := bs_ HB hb; clear hb ho3; obtain ⟨Ao4, co4, eo4⟩ := Kd.R_slice HO406.out; subst eo4; have hcz5_0 : w2.cell? ⟨gb403, 0, none⟩ = some (.int .i64 0) := (blk_cell BK403.out 0).trans rfl; have hcz5_1 : w2.cell? ⟨gb403, 1, none⟩ = some (.int .i64 0) := (blk_cell BK403.out 1).trans rfl; have hcz5_2 : w2.cell? ⟨gb403, 2, none⟩ = some (.slice none 0 0) := (blk_cell BK403.out 2).trans rfl; have hcz5_3 : w2.cell? ⟨gb403, 3, none⟩ = some (.int .i64 0) := (blk_cell BK403.out 3).trans rfl; have hfz5_0 := blk_frozen BK403.out 0; have hfz5_1 := blk_frozen BK403.out 1; have hfz5_2 := blk_frozen BK403.out 2; have hfz5_3 := blk_frozen BK403.out 3))
 refine bodyPost_ret (results_cell_row rfl _ _ gb403 82 #[.int .i64 0, .int .i64 0, .slice Ao4 y404.length co4, .int .i64 20000] (0, 0) _ rfl (by (with_reducible repeat (first | refine blk_drewN ?_ _ | refine blk_drew ?_ | refine blk_alloc ?_ _)); refine blk_put (cs := #[.int .i64 0, .int .i64 0, .slice Ao4 y404.length co4, .int .i64 0]) ?_ 3 _ rfl; (with_reducible repeat (first | refine blk_drewN ?_ _ | refine blk_drew ?_ | refine blk_alloc ?_ _)); refine blk_put (cs := #[.int .i64 0, .int .i64 0, .slice none 0 0, .int .i64 0]) ?_ 2 _ rfl; (with_reducible repeat (first | refine blk_drewN ?_ _ | refine blk_drew ?_ | refine blk_alloc ?_ _)); refine blk_put (cs := #[.int .i64 0, .int .i64 0, .slice none 0 0, .int .i64 0]) ?_ 1 _ rfl; (with_reducible repeat (first | refine blk_drewN ?_ _ | refine blk_drew ?_ | refine blk_alloc ?_ _)); refine blk_put (cs := #[.int .i64 0, .int .i64 0, .slice none 0 0, .int .i64 0]) ?_ 0 _ rfl; (with_reducible repeat (first | refine blk_drewN ?_ _ | refine blk_drew ?_ | refine blk_alloc ?_ _)); exact BK403.out) Try.underlying82 rfl (by kernel_rfl)) rfl ?_
 exact ⟨_, by first | rfl | (simp [errW_none, errW_some] <;> rfl) | (simp [*, errW_none, errW_some] <;> rfl), by (with_reducible repeat (first | apply Kd.R_alloc | apply Kd.R_drewN | apply Kd.R_drew)); exact Kd.R_mono (Kd.R_far (p := ⟨gb403, 3, none⟩) (Kd.R_far (p := ⟨gb403, 2, none⟩) (Kd.R_far (p := ⟨gb403, 1, none⟩) (Kd.R_far (p := ⟨gb403, 0, none⟩) (Kd.R_types HO406.out BK403.out (by decide)) (fun _ hk => hk.2) (.int .i64 0)) (fun _ hk => hk.2) (.int .i64 0)) (fun _ hk => hk.2) (.slice Ao4 y404.length co4)) (fun _ hk => hk.2) (.int .i64 20000)) (fun _ hk => trivial), (be_ HB).out⟩
end Go.Proofs.Ytedakilpogagiaa.PAll
end
