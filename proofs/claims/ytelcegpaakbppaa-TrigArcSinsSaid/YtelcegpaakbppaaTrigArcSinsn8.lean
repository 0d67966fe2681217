/- Written by a program of this session out of the translation. -/
import Derived.Test.YtelcegpaakbppaaTrigArcSinsn3
import Derived.Test.YtelcegpaakbppaaTrigArcSinsn5
import Derived.Test.YtelcegpaakbppaaTrigArcSinsn6
import Derived.Test.YtelcegpaakbppaaTrigArcSinsn7
namespace Go.Proofs.Ytelcegpaakbppaa.PAll
open Go.RowKit Go.Proofs.YtelcegpaakbppaaW.PrintWords Go.Proofs.YtelcegpaakbppaaW.PrintLast Go.Proofs.YtelcegpaakbppaaW.PrintMore Go.Proofs.Ytelcegpaakbppaa.More2
attribute [local go_sem] max2_int min2_int max_two min_two max_three min_three max_four min_four tdiv2e18_ tdiv1e18_ cellSS_  -- for this text's walks alone
set_option linter.unusedVariables false
set_option linter.unusedSimpArgs false
def trig_reaches.f (k : Nat) (a0 : Int) (a1 : Int) : Option (Bool) := (trig_octant.f k a1).bind fun bt494 => (some (decide ((wrap64 ((bt494.1 / 536870912) * 2147483648)) ≤ (wrap64 (a0 * (bt494.2 / 536870912))))))
theorem trig_reaches.mono : ∀ a0 a1 k, LeO (trig_reaches.f k a0 a1) (trig_reaches.f (k + 1) a0 a1) := by
  intro a0 a1 k
  unfold trig_reaches.f
  repeat' first
      | (with_reducible exact trig_octant.mono _ _)
      | (with_reducible exact LeO.refl _)
      | (with_reducible exact LeO.none _)
      | (with_reducible refine LeO.ite ?_ ?_)
      | (with_reducible refine LeO.bind ?_ (fun _ => ?_))
      | exact trig_octant.mono _ _
      | exact LeO.none _
      | refine LeO.ite ?_ ?_
      | refine LeO.bind ?_ (fun _ => ?_)
set_option maxHeartbeats 8000000 in
set_option maxRecDepth 100000 in
theorem trig_reaches.calls (k : Nat) (a0 : Int) (a1 : Int) (r : Bool) (w : World) (h : trig_reaches.f k a0 a1 = some r) :
    Calls Try.prog 94 #[.int .i64 a0, .int .i64 a1] w fun e w' => e = .returned (.bool r) ∧ Below w.heap.size w w' := by
  have HB := Aside0.mk (Below.refl w.heap.size w)
  have H : ((trig_octant.f k a1).bind fun bt494 => (some (decide ((wrap64 ((bt494.1 / 536870912) * 2147483648)) ≤ (wrap64 (a0 * (bt494.2 / 536870912))))))) = some r := h
  clear h
  replace H := Option.bind_eq_some_iff.mp H
  obtain ⟨⟨t494, t495⟩, A30, H⟩ := H
  replace H : (some (decide ((wrap64 ((t494 / 536870912) * 2147483648)) ≤ (wrap64 (a0 * (t495 / 536870912)))))) = some r := H
  have A3 := Aside0.mk A30
  clear A30
  obtain rfl := Option.some.inj H
  simp only [Option.some.injEq, Prod.mk.injEq] at H
  obtain ⟨rfl⟩ := H
  go_enter Try.func94, Try.ntmps94
  go_wp2_with (first | ((with_reducible refine gate_callee (f := 59) rfl ?_); refine goesL_ (some 9) rfl rfl Try.func59 (by kernel_rfl) rfl #[.int .i64 a1] rfl (by (try simp only [List.map_toArray, List.map_cons, List.map_nil]); first | done | rfl | (simp only [List.length_drop, List.length_take]; rfl)) ?_; (with_reducible refine (trig_octant.calls k a1 t494 t495 _ A3.out).mono ?_); rintro e w4 ⟨rfl, hb⟩; refine ⟨_, rfl, ?_⟩; have n0_ := Aside0.mk (below_step (by repeat (first | (with_reducible first | exact HB.out | apply below_alloc | apply pw_below_drewN | apply below_drew1) | exact HB.out)) hb); clear HB; have HB := n0_; clear n0_; (try clear hb); (try clear hb2); (try clear hk); (try clear hi)))
  go_ret
  exact ⟨by first | rfl | (simp [errW_none, errW_some] <;> rfl) | (simp [*, errW_none, errW_some] <;> rfl), by repeat (first | (with_reducible first | exact HB.out | apply below_alloc | apply pw_below_drewN | apply below_drew1) | exact HB.out)⟩
end Go.Proofs.Ytelcegpaakbppaa.PAll
