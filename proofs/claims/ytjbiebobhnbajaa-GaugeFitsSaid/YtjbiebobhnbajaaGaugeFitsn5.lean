/- Written by a program of this session: what one law needs. -/
import Derived.Test.YtjbiebobhnbajaaGaugeFitsn3
import Derived.Shelf.RegionOpenPlain
section
namespace Go.Proofs.Ytjbiebobhnbajaa.PAll
open Go.RowKit Go.Proofs.YtjbiebobhnbajaaW.PrintWords Go.Proofs.YtjbiebobhnbajaaW.PrintLast Go.Proofs.YtjbiebobhnbajaaW.PrintMore Go.Proofs.Ytjbiebobhnbajaa.More2
attribute [local go_sem] max2_int min2_int max_two min_two max_three min_three max_four min_four tdiv2e18_ tdiv1e18_ cellSS_
set_option linter.unusedVariables false
set_option linter.unusedSimpArgs false
/-- det's element -/
def atv (l : List (List Int)) (c k i j : Int) : Int := if j = c then rd (rd_L1 l i) k else rd (rd_L1 l i) j
set_option maxHeartbeats 8000000 in
set_option maxRecDepth 100000 in
theorem at_calls (A0 : Option Addr) (c0 n0 : Nat) (l0 : List (List Int)) (c k i j : Int) (w : World) (gc gm gk : Nat) (hc : w.cell? ⟨gc, 0, none⟩ = some (.int .i64 c)) (hm : w.cell? ⟨gm, 0, none⟩ = some (.slice A0 n0 c0)) (hk : w.cell? ⟨gk, 0, none⟩ = some (.int .i64 k)) (hn : n0 = l0.length)
    (hr0 : Kd.C (Kd.slice 3 (Kd.int .i64)) w A0 l0.length l0) (i0 : 0 ≤ i) (i1 : i < (l0.length : Int)) (j0 : 0 ≤ j) (j1 : j < ((rd_L1 l0 i).length : Int)) (k0 : 0 ≤ k) (k1 : k < ((rd_L1 l0 i).length : Int)) :
    Calls Try.prog 68 #[.int .i64 i, .int .i64 j, .pointer (some ⟨gc, 0, none⟩), .pointer (some ⟨gm, 0, none⟩), .pointer (some ⟨gk, 0, none⟩)] w fun e w' => e = .returned (.int .i64 (atv l0 c k i j)) ∧ Drawn0 w w' := by
  subst hn
  unfold atv
  obtain ⟨ad, A1, c1, rfl, hx, hl, hi⟩ := at_L1 hr0 i i0 i1
  obtain ⟨ad2, rfl, hy⟩ := Kd.at_int hi j j0 j1
  obtain ⟨ad3, e3, hz⟩ := Kd.at_int hi k k0 k1
  obtain rfl : ad2 = ad3 := by injection e3
  clear e3 hi hr0
  replace i0 := eq_true i0
  replace i1 := eq_true i1
  replace j0 := eq_true j0
  replace j1 := eq_true j1
  replace k0 := eq_true k0
  replace k1 := eq_true k1
  by_cases h : j = c
  · have hb : (j == c) = true := beq_iff_eq.mpr h
    rw [if_pos h]
    clear h
    go_enter Try.func68, Try.ntmps68
    have mixed : Try.prog.follows Departure.mixedOrders = true := by kernel_rfl
    go_wp2_with fail
    have hc' : w.drew.cell? ⟨gc, 0, none⟩ = some (.int .i64 c) := hc
    have hm' : w.drew.cell? ⟨gm, 0, none⟩ = some (.slice (some ad) l0.length c0) := hm
    have hk' : w.drew.cell? ⟨gk, 0, none⟩ = some (.int .i64 k) := hk
    have hx' : w.drew.cell? (ad.add i.toNat) = _ := hx
    have hy' : w.drew.cell? (ad2.add j.toNat) = _ := hy
    have hz' : w.drew.cell? (ad2.add k.toNat) = _ := hz
    go_region_o
    all_goals
      go_wp2
      go_ret
      exact ⟨rfl, ⟨1, rfl⟩⟩
  · have hb : (j == c) = false := beq_eq_false_iff_ne.mpr h
    rw [if_neg h]
    clear h
    go_enter Try.func68, Try.ntmps68
    go_wp2
    go_ret
    exact ⟨rfl, Drawn0.refl _⟩
def d2 (a b c d : Int) : Int := wrap64 (wrap64 (a * d) - wrap64 (b * c))
def d3 (t : Int → Int → Int) : Int := wrap64 (wrap64 (wrap64 (t 0 0 * d2 (t 1 1) (t 1 2) (t 2 1) (t 2 2)) - wrap64 (t 0 1 * d2 (t 1 0) (t 1 2) (t 2 0) (t 2 2))) + wrap64 (t 0 2 * d2 (t 1 0) (t 1 1) (t 2 0) (t 2 1)))
def dets (l : List (List Int)) (c : Int) : Option Int := if (l.all fun r => decide (r.length = l.length + 1)) = true then (if l.length = 1 then some (atv l c 1 0 0) else if l.length = 2 then some (d2 (atv l c 2 0 0) (atv l c 2 0 1) (atv l c 2 1 0) (atv l c 2 1 1)) else if l.length = 3 then some (d3 (fun i j => atv l c 3 i j)) else none) else none
def gauge_det.f (k : Nat) (l0 : List (List Int)) (a1 : Int) : Option Int := dets l0 a1
theorem gauge_det.mono : ∀ a0 a1 k, LeO (gauge_det.f k a0 a1) (gauge_det.f (k + 1) a0 a1) := fun _ _ _ => LeO.refl _
theorem rows_len {l : List (List Int)} {m : Nat} (h : (l.all fun r => decide (r.length = m)) = true) {i : Int} (i0 : 0 ≤ i) (i1 : i < (l.length : Int)) : (rd_L1 l i).length = m := by
  have e : i.toNat < l.length := by omega
  have hm : rd_L1 l i ∈ l := by
    show l.getD i.toNat [] ∈ l
    rw [List.getD_eq_getElem?_getD, List.getElem?_eq_getElem e]
    exact List.getElem_mem e
  exact of_decide_eq_true (List.all_eq_true.1 h _ hm)
theorem drewN_add (w : World) (n m : Nat) : w.drewN (n + m) = (w.drewN n).drewN m := by
  simp [World.drewN, Nat.add_assoc]
theorem det_boxes {w W0 : World} {A0 : Option Addr} {c0 : Nat} {l0 : List (List Int)} {a1 nI : Int} (hr0 : Kd.C (Kd.slice 3 (Kd.int .i64)) w A0 l0.length l0) (hW0 : W0 = ((w.alloc (.cells #[.slice A0 l0.length c0] 29)).alloc (.cells #[.int .i64 a1] 3)).alloc (.cells #[.int .i64 nI] 3)) :
    W0.cell? ⟨w.heap.size, 0, none⟩ = some (.slice A0 l0.length c0) ∧ W0.cell? ⟨w.heap.size + 1, 0, none⟩ = some (.int .i64 a1) ∧ W0.cell? ⟨w.heap.size + 1 + 1, 0, none⟩ = some (.int .i64 nI) ∧ Kd.C (Kd.slice 3 (Kd.int .i64)) W0 A0 l0.length l0 ∧ Below w.heap.size w W0 := by
  have new : ∀ (v : World) (o : Obj), (v.alloc o).heap[v.heap.size]? = some o := fun v o => by
    show (v.heap.push o)[v.heap.size]? = some o
    exact Array.getElem?_push_size
  have size : ∀ (v : World) (o : Obj), (v.alloc o).heap.size = v.heap.size + 1 := fun v o => by
    show (v.heap.push o).size = _
    exact Array.size_push ..
  have b0 := blk_alloc (blk_alloc (new w (.cells #[.slice A0 l0.length c0] 29)) (.cells #[.int .i64 a1] 3)) (.cells #[.int .i64 nI] 3)
  have b1 := new (w.alloc (.cells #[.slice A0 l0.length c0] 29)) (.cells #[.int .i64 a1] 3)
  rw [size] at b1
  replace b1 := blk_alloc b1 (.cells #[.int .i64 nI] 3)
  have b2 := new ((w.alloc (.cells #[.slice A0 l0.length c0] 29)).alloc (.cells #[.int .i64 a1] 3)) (.cells #[.int .i64 nI] 3)
  rw [size, size] at b2
  rw [← hW0] at b0 b1 b2
  refine ⟨(blk_cell b0 0).trans rfl, (blk_cell b1 0).trans rfl, (blk_cell b2 0).trans rfl, by rw [hW0]; exact Kd.C_alloc (Kd.C_alloc (Kd.C_alloc hr0 _) _) _, ?_⟩
  rw [hW0]
  have HB := Aside0.mk (Below.refl w.heap.size w)
  repeat (first | (with_reducible first | exact HB.out | apply below_alloc | apply pw_below_drewN | apply below_drew1) | exact HB.out)
set_option maxHeartbeats 8000000 in
set_option maxRecDepth 100000 in
theorem gauge_det.calls (k : Nat) (A0 : Option Addr) (c0 : Nat) (l0 : List (List Int)) (a1 : Int) (r : Int) (w : World) (hr0 : Kd.C (Kd.slice 3 (Kd.int .i64)) w A0 l0.length l0) (hc0 : l0.length ≤ c0) (h : gauge_det.f k l0 a1 = some r) :
    Calls Try.prog 45 #[.slice A0 l0.length c0, .int .i64 a1] w fun e w' => e = .returned (.int .i64 r) ∧ Below w.heap.size w w' := by
  unfold gauge_det.f dets at h
  by_cases hall : (l0.all fun r => decide (r.length = l0.length + 1)) = true
  · rw [if_pos hall] at h
    have rl : ∀ i : Int, 0 ≤ i → i < (l0.length : Int) → (rd_L1 l0 i).length = l0.length + 1 := fun i i0 i1 => rows_len hall i0 i1
    obtain ⟨nI, hnI⟩ : ∃ nI : Int, nI = (l0.length : Int) := ⟨_, rfl⟩
    obtain ⟨W0, hW0⟩ : ∃ W0, W0 = ((w.alloc (.cells #[.slice A0 l0.length c0] 29)).alloc (.cells #[.int .i64 a1] 3)).alloc (.cells #[.int .i64 nI] 3) := ⟨_, rfl⟩
    obtain ⟨hm, hc, hk, hC, hBel⟩ := det_boxes hr0 hW0
    have RL := Aside0.mk rl
    have G := Aside0.mk hm
    have G2 := Aside0.mk hc
    have G3 := Aside0.mk hk
    have G4 := Aside0.mk hC
    have G5 := Aside0.mk hBel
    have HW := Aside0.mk hW0
    clear hm hc hk hC hBel hr0 hall rl hW0
    by_cases n1 : l0.length = 1
    · rw [if_pos n1] at h
      obtain rfl := Option.some.inj h
      clear h
      obtain rfl : nI = 1 := by omega
      clear hnI
      rw [n1] at HW G ⊢
      have ok : ∀ i j : Int, 0 ≤ i → i < 1 → 0 ≤ j → j < 1 → ∀ W, Drawn0 W0 W → Calls Try.prog 68 #[.int .i64 i, .int .i64 j, .pointer (some ⟨w.heap.size + 1, 0, none⟩), .pointer (some ⟨w.heap.size, 0, none⟩), .pointer (some ⟨w.heap.size + 1 + 1, 0, none⟩)] W fun e w' => e = .returned (.int .i64 (atv l0 a1 1 i j)) ∧ Drawn0 W0 w' := by
        intro i j i0 i1 j0 j1 W hW
        obtain ⟨nd, rfl⟩ := hW.out
        have r := RL.out i i0 (by omega)
        refine (at_calls A0 c0 1 l0 a1 1 i j (W0.drewN nd) _ _ _ G2.out G.out G3.out n1.symm (Kd.C_drewN G4.out _) i0 (by omega) j0 (by omega) (by omega) (by omega)).mono ?_
        rintro e w' ⟨rfl, ⟨m, rfl⟩⟩
        exact ⟨rfl, ⟨nd + m, by rw [drewN_add]⟩⟩
      have OK := Aside0.mk ok
      clear ok RL G G2 G3 G4
      go_enter Try.func45, Try.ntmps45
      go_wp2_with fail
      rw [← HW.out]
      have D := Drawn0.refl W0
      refine (OK.out 0 0 (by omega) (by omega) (by omega) (by omega) _ D).mono ?_
      clear D
      rintro e w' ⟨rfl, D⟩
      go_wp2
      go_ret
      obtain ⟨nd, rfl⟩ := D.out
      exact ⟨rfl, pw_below_drewN G5.out _⟩
    by_cases n2 : l0.length = 2
    · rw [if_neg n1, if_pos n2] at h
      obtain rfl := Option.some.inj h
      clear h
      obtain rfl : nI = 2 := by omega
      clear hnI
      rw [n2] at HW G ⊢
      have ok : ∀ i j : Int, 0 ≤ i → i < 2 → 0 ≤ j → j < 2 → ∀ W, Drawn0 W0 W → Calls Try.prog 68 #[.int .i64 i, .int .i64 j, .pointer (some ⟨w.heap.size + 1, 0, none⟩), .pointer (some ⟨w.heap.size, 0, none⟩), .pointer (some ⟨w.heap.size + 1 + 1, 0, none⟩)] W fun e w' => e = .returned (.int .i64 (atv l0 a1 2 i j)) ∧ Drawn0 W0 w' := by
        intro i j i0 i1 j0 j1 W hW
        obtain ⟨nd, rfl⟩ := hW.out
        have r := RL.out i i0 (by omega)
        refine (at_calls A0 c0 2 l0 a1 2 i j (W0.drewN nd) _ _ _ G2.out G.out G3.out n2.symm (Kd.C_drewN G4.out _) i0 (by omega) j0 (by omega) (by omega) (by omega)).mono ?_
        rintro e w' ⟨rfl, ⟨m, rfl⟩⟩
        exact ⟨rfl, ⟨nd + m, by rw [drewN_add]⟩⟩
      have OK := Aside0.mk ok
      clear ok RL G G2 G3 G4
      go_enter Try.func45, Try.ntmps45
      go_wp2_with fail
      rw [← HW.out]
      have D := Drawn0.refl W0
      refine (OK.out 0 0 (by omega) (by omega) (by omega) (by omega) _ D).mono ?_
      clear D
      rintro e w' ⟨rfl, D⟩
      go_wp2_with fail
      refine (OK.out 1 1 (by omega) (by omega) (by omega) (by omega) _ D).mono ?_
      clear D
      rintro e w' ⟨rfl, D⟩
      go_wp2_with fail
      refine (OK.out 0 1 (by omega) (by omega) (by omega) (by omega) _ D).mono ?_
      clear D
      rintro e w' ⟨rfl, D⟩
      go_wp2_with fail
      refine (OK.out 1 0 (by omega) (by omega) (by omega) (by omega) _ D).mono ?_
      clear D
      rintro e w' ⟨rfl, D⟩
      go_wp2
      go_ret
      obtain ⟨nd, rfl⟩ := D.out
      exact ⟨rfl, pw_below_drewN G5.out _⟩
    by_cases n3 : l0.length = 3
    · rw [if_neg n1, if_neg n2, if_pos n3] at h
      obtain rfl := Option.some.inj h
      clear h
      obtain rfl : nI = 3 := by omega
      clear hnI
      rw [n3] at HW G ⊢
      have ok : ∀ i j : Int, 0 ≤ i → i < 3 → 0 ≤ j → j < 3 → ∀ W, Drawn0 W0 W → Calls Try.prog 68 #[.int .i64 i, .int .i64 j, .pointer (some ⟨w.heap.size + 1, 0, none⟩), .pointer (some ⟨w.heap.size, 0, none⟩), .pointer (some ⟨w.heap.size + 1 + 1, 0, none⟩)] W fun e w' => e = .returned (.int .i64 (atv l0 a1 3 i j)) ∧ Drawn0 W0 w' := by
        intro i j i0 i1 j0 j1 W hW
        obtain ⟨nd, rfl⟩ := hW.out
        have r := RL.out i i0 (by omega)
        refine (at_calls A0 c0 3 l0 a1 3 i j (W0.drewN nd) _ _ _ G2.out G.out G3.out n3.symm (Kd.C_drewN G4.out _) i0 (by omega) j0 (by omega) (by omega) (by omega)).mono ?_
        rintro e w' ⟨rfl, ⟨m, rfl⟩⟩
        exact ⟨rfl, ⟨nd + m, by rw [drewN_add]⟩⟩
      have OK := Aside0.mk ok
      clear ok RL G G2 G3 G4
      go_enter Try.func45, Try.ntmps45
      go_wp2_with fail
      rw [← HW.out]
      have D := Drawn0.refl W0
      refine (OK.out 0 0 (by omega) (by omega) (by omega) (by omega) _ D).mono ?_
      clear D
      rintro e w' ⟨rfl, D⟩
      go_wp2_with fail
      refine (OK.out 1 1 (by omega) (by omega) (by omega) (by omega) _ D).mono ?_
      clear D
      rintro e w' ⟨rfl, D⟩
      go_wp2_with fail
      refine (OK.out 2 2 (by omega) (by omega) (by omega) (by omega) _ D).mono ?_
      clear D
      rintro e w' ⟨rfl, D⟩
      go_wp2_with fail
      refine (OK.out 1 2 (by omega) (by omega) (by omega) (by omega) _ D).mono ?_
      clear D
      rintro e w' ⟨rfl, D⟩
      go_wp2_with fail
      refine (OK.out 2 1 (by omega) (by omega) (by omega) (by omega) _ D).mono ?_
      clear D
      rintro e w' ⟨rfl, D⟩
      go_wp2_with fail
      refine (OK.out 0 1 (by omega) (by omega) (by omega) (by omega) _ D).mono ?_
      clear D
      rintro e w' ⟨rfl, D⟩
      go_wp2_with fail
      refine (OK.out 1 0 (by omega) (by omega) (by omega) (by omega) _ D).mono ?_
      clear D
      rintro e w' ⟨rfl, D⟩
      go_wp2_with fail
      refine (OK.out 2 2 (by omega) (by omega) (by omega) (by omega) _ D).mono ?_
      clear D
      rintro e w' ⟨rfl, D⟩
      go_wp2_with fail
      refine (OK.out 1 2 (by omega) (by omega) (by omega) (by omega) _ D).mono ?_
      clear D
      rintro e w' ⟨rfl, D⟩
      go_wp2_with fail
      refine (OK.out 2 0 (by omega) (by omega) (by omega) (by omega) _ D).mono ?_
      clear D
      rintro e w' ⟨rfl, D⟩
      go_wp2_with fail
      refine (OK.out 0 2 (by omega) (by omega) (by omega) (by omega) _ D).mono ?_
      clear D
      rintro e w' ⟨rfl, D⟩
      go_wp2_with fail
      refine (OK.out 1 0 (by omega) (by omega) (by omega) (by omega) _ D).mono ?_
      clear D
      rintro e w' ⟨rfl, D⟩
      go_wp2_with fail
      refine (OK.out 2 1 (by omega) (by omega) (by omega) (by omega) _ D).mono ?_
      clear D
      rintro e w' ⟨rfl, D⟩
      go_wp2_with fail
      refine (OK.out 1 1 (by omega) (by omega) (by omega) (by omega) _ D).mono ?_
      clear D
      rintro e w' ⟨rfl, D⟩
      go_wp2_with fail
      refine (OK.out 2 0 (by omega) (by omega) (by omega) (by omega) _ D).mono ?_
      clear D
      rintro e w' ⟨rfl, D⟩
      go_wp2
      go_ret
      obtain ⟨nd, rfl⟩ := D.out
      exact ⟨rfl, pw_below_drewN G5.out _⟩
    rw [if_neg n1, if_neg n2, if_neg n3] at h; cases h
  · rw [if_neg hall] at h; cases h
end Go.Proofs.Ytjbiebobhnbajaa.PAll
end
section
namespace Go.Proofs.Ytjbiebobhnbajaa.PAll
open Go.RowKit Go.Proofs.YtjbiebobhnbajaaW.PrintWords Go.Proofs.YtjbiebobhnbajaaW.PrintLast Go.Proofs.YtjbiebobhnbajaaW.PrintMore Go.Proofs.Ytjbiebobhnbajaa.More2
attribute [local go_sem] max2_int min2_int max_two min_two max_three min_three max_four min_four tdiv2e18_ tdiv1e18_ cellSS_  -- for this text's walks alone
set_option linter.unusedVariables false
set_option linter.unusedSimpArgs false
def gauge_abs.f (a0 : Int) : Option (Int) := if a0 < 0 then (some (wrap64 (-a0))) else (some a0)
set_option maxHeartbeats 8000000 in
set_option maxRecDepth 100000 in
theorem gauge_abs.calls (a0 : Int) (r : Int) (w : World) (h : gauge_abs.f a0 = some r) :
    Calls Try.prog 46 #[.int .i64 a0] w fun e w' => e = .returned (.int .i64 r) ∧ Drawn0 w w' := by
  have H : (if a0 < 0 then (some (wrap64 (-a0))) else (some a0)) = some r := h
  clear h
  by_cases c2 : a0 < 0
  · rw [if_pos c2] at H
    have c2b0 : decide (a0 < 0) = true := decide_eq_true c2
    clear c2
    obtain rfl := Option.some.inj H
    simp only [Option.some.injEq, Prod.mk.injEq] at H
    obtain ⟨rfl⟩ := H
    go_enter Try.func46, Try.ntmps46
    go_wp2
    go_ret
    exact ⟨by first | rfl | (simp; done) | (simp [*]; done), by repeat (first | exact Drawn0.refl _ | apply Drawn0.step)⟩
  · rw [if_neg c2] at H
    have c2b0 : decide (a0 < 0) = false := decide_eq_false c2
    clear c2
    obtain rfl := Option.some.inj H
    simp only [Option.some.injEq, Prod.mk.injEq] at H
    obtain ⟨rfl⟩ := H
    go_enter Try.func46, Try.ntmps46
    go_wp2
    go_ret
    exact ⟨by first | rfl | (simp; done) | (simp [*]; done), by repeat (first | exact Drawn0.refl _ | apply Drawn0.step)⟩
end Go.Proofs.Ytjbiebobhnbajaa.PAll
end
section
namespace Go.Proofs.Ytjbiebobhnbajaa.PAll
open Go.RowKit Go.Proofs.YtjbiebobhnbajaaW.PrintWords Go.Proofs.YtjbiebobhnbajaaW.PrintLast Go.Proofs.YtjbiebobhnbajaaW.PrintMore Go.Proofs.Ytjbiebobhnbajaa.More2
attribute [local go_sem] max2_int min2_int max_two min_two max_three min_three max_four min_four tdiv2e18_ tdiv1e18_ cellSS_  -- for this text's walks alone
set_option linter.unusedVariables false
set_option linter.unusedSimpArgs false
def gauge_gcd.l0 : Nat → Int → Int → Option (Int)
  | 0, _, _ => none
  | k + 1, x0, x1 => if x1 = 0 then (some x0) else (gauge_gcd.l0 k x1 (Int.tmod x0 x1))
def gauge_gcd.f (k : Nat) (a0 : Int) (a1 : Int) : Option (Int) := gauge_gcd.l0 k a0 a1
theorem gauge_gcd.mono_l : ∀ k, (∀ y0 y1, LeO (gauge_gcd.l0 k y0 y1) (gauge_gcd.l0 (k + 1) y0 y1))
  | 0 => fun _ _ r h => by simp [gauge_gcd.l0] at h
  | k + 1 => by
    have ih0 := gauge_gcd.mono_l k
    · intro y0 y1
      unfold gauge_gcd.l0
      repeat' first
      | (with_reducible exact ih0 _ _)
      | (with_reducible exact LeO.refl _)
      | (with_reducible exact LeO.none _)
      | (with_reducible refine LeO.ite ?_ ?_)
      | (with_reducible refine LeO.bind ?_ (fun _ => ?_))
      | exact ih0 _ _
      | exact LeO.none _
      | refine LeO.ite ?_ ?_
      | refine LeO.bind ?_ (fun _ => ?_)
theorem gauge_gcd.mono : ∀ a0 a1 k, LeO (gauge_gcd.f k a0 a1) (gauge_gcd.f (k + 1) a0 a1) := by
  intro a0 a1 k
  have ih0 := gauge_gcd.mono_l k
  unfold gauge_gcd.f
  repeat' first
      | (with_reducible exact ih0 _ _)
      | (with_reducible exact LeO.refl _)
      | (with_reducible exact LeO.none _)
      | (with_reducible refine LeO.ite ?_ ?_)
      | (with_reducible refine LeO.bind ?_ (fun _ => ?_))
      | exact ih0 _ _
      | exact LeO.none _
      | refine LeO.ite ?_ ?_
      | refine LeO.bind ?_ (fun _ => ?_)
set_option maxHeartbeats 8000000 in
set_option maxRecDepth 100000 in
theorem gauge_gcd.calls (k : Nat) (a0 : Int) (a1 : Int) (r : Int) (w : World) (h : gauge_gcd.f k a0 a1 = some r) :
    Calls Try.prog 47 #[.int .i64 a0, .int .i64 a1] w fun e w' => e = .returned (.int .i64 r) ∧ Drawn0 w w' := by
  have H : (gauge_gcd.l0 k a0 a1) = some r := h
  clear h
  have H' := Aside0.mk H
  clear H
  go_enter Try.func47, Try.ntmps47
  go_wp2
  repeat (go_quiet (fail); try go_wp2)
  go_loopg [0, 1] k (fun kq v0 v1 w' => ∃ (x0_1 : Int) (x1_1 : Int), v0 = .int .i64 x0_1 ∧ v1 = .int .i64 x1_1 ∧ Aside0 (gauge_gcd.l0 kq x0_1 x1_1 = some r) ∧ Aside0 (kq ≤ k) ∧ Drawn0 w w')
  case atStart => exact ⟨(a0), (a1), (by first | rfl | (simp; done) | (simp [*]; done)), (by first | rfl | (simp; done) | (simp [*]; done)), H', ⟨Nat.le_refl _⟩, by repeat (first | exact Drawn0.refl _ | apply Drawn0.step)⟩
  case round =>
    clear H'
    try clear p2
    obtain ⟨x0_1, x1_1, rfl, rfl, HA, HK1, ⟨m1, rfl⟩⟩ := hrel
    cases gk with
    | zero => exact absurd HA.out (by simp [gauge_gcd.l0])
    | succ k1 =>
      have H := HA.out
      clear HA
      simp only [gauge_gcd.l0] at H
      by_cases c3 : x1_1 = 0
      · rw [if_pos c3] at H
        have c3b0 : (x1_1 == 0) = true := beq_iff_eq.mpr c3
        have c3b1 : (x1_1 != 0) = false := bne_eq_false_iff_eq.mpr c3
        clear c3
        obtain rfl := Option.some.inj H
        simp only [Option.some.injEq, Prod.mk.injEq] at H
        obtain ⟨rfl⟩ := H
        go_wp2
        repeat (go_quiet (fail); try go_wp2)
        go_ret
        exact ⟨by first | rfl | (simp; done) | (simp [*]; done), by repeat (first | exact Drawn0.refl _ | apply Drawn0.step)⟩
      · rw [if_neg c3] at H
        have c3b0 : (x1_1 == 0) = false := beq_eq_false_iff_ne.mpr c3
        have c3b1 : (x1_1 != 0) = true := bne_iff_ne.mpr c3
        have H' := Aside0.mk H
        clear H
        go_wp2
        repeat (go_quiet (fail); try go_wp2)
        go_roundg k1
        case measure => have := HK1.out; omega
        case rel => exact ⟨(x1_1), (Int.tmod x0_1 x1_1), (by first | rfl | (simp; done) | (simp [*]; done)), (by first | rfl | (simp; done) | (simp [*]; done)), H', ⟨by have := HK1.out; omega⟩, by repeat (first | exact Drawn0.refl _ | apply Drawn0.step)⟩
end Go.Proofs.Ytjbiebobhnbajaa.PAll
end
