/- The law GaugeFits holds: the row, out of the pure statement. -/
import Derived.Test.YtjbiebobhnbajaaRows
import Derived.Test.YtjbiebobhnbajaaGaugeFitsn14
import Derived.Test.YtjbiebobhnbajaaGaugeFitsn19
import Derived.WalkKit
import Derived.ProofKit
import Derived.OpenShut
import Derived.ShutString
import Derived.ChangeOld
import Derived.Below
import Derived.SizedLaws
import Derived.Carry
import Derived.Conc.Holds
namespace Go.Proofs.Ytjbiebobhnbajaa.gaugeFits
open Go.ChangeShapes Go.WideShapes Go.ChangeAt Go.RowKit Go.Proofs.Ytjbiebobhnbajaa.Opn Go.Proofs.Ytjbiebobhnbajaa.PAll
open Go.Proofs.YtjbiebobhnbajaaW.PrintWords Go.Proofs.YtjbiebobhnbajaaW.PrintLast Go.Proofs.YtjbiebobhnbajaaW.PrintMore
open Go.ChangeMaps (open_string shut_string)
set_option linter.unusedVariables false
theorem own : ownKnob Try.prog.godebug = none := by kernel_rfl
theorem laidOut : laidOutB Try.prog = true := by kernel_rfl
set_option maxRecDepth 100000 in
theorem lifted (os : Os) (started : os.Started) (H : Type) (enc : TypeId × Value → H) :
    ReturnsInHanded {} Try.checked os 5 .any (Rows.gaugeFitsSpec.pre6 enc Try.prog Try.f5 Rows.gaugeFitsRow.domain false) (Rows.gaugeFitsSpec.post enc Try.prog Try.f5 false true false false) := by
  refine returnsInHanded_of_change_sized (C := Try.checked) own started (by kernel_rfl) Try.func5
    (ChangeSpec.witness6 (enc := enc) (C := Try.checked) false ⟨#[], #[.slice none 0 0, .slice none 0 0], []⟩ 8 (by kernel_rfl) (by kernel_rfl) (by kernel_rfl) (by kernel_rfl)) ?_
  intro W base args ds gs before hval0 hW hcnd hsz0 _
  have hsz : (DataW.weightsEach Try.prog (Try.f5.params.toList ++ Rows.gaugeFitsSpec.plain.varTypes Try.prog) (ds ++ gs)).all (· ≤ reachBytes) = true := hsz0
  have hval : ∀ (j : Nat) t v, Try.f5.params[j]? = some t → args[j]? = some v → Value.okWide Try.prog W .any base t v := hval0
  have hW' := hW
  obtain ⟨p, q, hA0, hV, rfl, hfz, hnd⟩ := hW
  have hA : DataW.TrodAll enc Try.prog W 0 (fun _ => true) true Try.f5.params.toList args.toList ds p := hA0
  rw [Try.params5] at hA hval hsz
  obtain ⟨v0, vs0, d0, ds0, p0, q0, hargs, rfl, rfl, h0, r0⟩ := trodAll_cons hA
  obtain ⟨v1, vs1, d1, ds1, p1, q1, rfl, rfl, rfl, h1, r1⟩ := trodAll_cons r0
  obtain ⟨rfl, rfl, rfl⟩ := trodAll_nil r1
  obtain rfl : args = #[v0, v1] := by cases args; simp_all
  obtain ⟨rfl, rfl⟩ := trodVars_none hV
  obtain ⟨A0, n0, c0, rfl⟩ := okWide_slice Try.underlying29 (hval 0 29 v0 rfl rfl)
  have k0 := h0
  have lt0 : ∀ x ∈ p0, x.block < W.heap.size := by obtain ⟨m, hm⟩ := k0; exact DataW.trod_lt m _ _ _ hm
  obtain ⟨l0, hc0, hr0, hn0, e0⟩ := open_slice_arg (d := (Kd.slice 3 (Kd.int .i64))) (ok := (ListOk I64)) (q := 29) (opens_slice (t := 29) (e := 34) 29 (by kernel_rfl) (by kernel_rfl) (opens_slice (t := 34) (e := 3) 3 (by kernel_rfl) (by kernel_rfl) (opens_int (by kernel_rfl)))) h0
  subst e0
  obtain ⟨A1, n1, c1, rfl⟩ := okWide_slice Try.underlying34 (hval 1 34 v1 rfl rfl)
  have k1 := h1
  have lt1 : ∀ x ∈ p1, x.block < W.heap.size := by obtain ⟨m, hm⟩ := k1; exact DataW.trod_lt m _ _ _ hm
  obtain ⟨l1, hc1, hr1, hn1, e1⟩ := open_slice_arg (d := (Kd.int .i64)) (ok := I64) (q := 34) (opens_slice (t := 34) (e := 3) 34 (by kernel_rfl) (by kernel_rfl) (opens_int (by kernel_rfl))) h1
  subst e1
  clear hA0 hval0 hsz0 hsz
  obtain ⟨k, hp⟩ := Pure.GaugeFits l0 l1 hn0 hn1
  refine (PAll.ephemerislaw2_GaugeFits.calls k _ _ l0 _ _ l1 true W hr0 hc0 hr1 hc1 hp rfl).mono ?_
  rintro e W' ⟨rfl, hd⟩
  have bel : Below W.heap.size W W' := by first | exact hd | exact hd.below
  exact ⟨_, rfl, _, _, _, [], _, [], hW', trodAll_mk1 (shut_bool Try.underlying4 _), (trodAll_cons_mk (Below.trod laidOut (by kernel_rfl) (of_decide_eq_true (by kernel_rfl)) k0 bel lt0) (trodAll_cons_mk (Below.trod laidOut (by kernel_rfl) (of_decide_eq_true (by kernel_rfl)) k1 bel lt1) trodAll_mk0)), rfl, bel.frame _, fun h => by cases h⟩
theorem leaving_of_handed {a : Assume} {C : Checked} {os : Os} {f : FuncId} {r : Reach} {Pre : World → Array Value → Prop} {Post : World → Array Value → Value → World → Prop} (hh : ReturnsInHanded a C os f r Pre Post) : ReturnsInLeavingWide a C os f r Pre Post := fun enter => by
  obtain ⟨e, o, s, wi, h⟩ := hh enter
  refine ⟨e, o, s, wi, fun w tape i hf => ?_⟩
  obtain ⟨n, v, w', h1, h2, h3, h4, ⟨j, last, h5, h6, hq, ho, he⟩, al⟩ := h w tape i hf
  refine ⟨n, v, w', h1, h2, h3, h4, ⟨j, last, h5, h6, ho, ⟨fun g hg => ⟨0, ?_⟩, hq.2⟩, he⟩, al⟩
  have hd := hq.1
  unfold Machine.othersDone at hd
  have := List.all_eq_true.1 hd g hg
  unfold Goroutine.LeavesIn
  exact eq_of_beq this
theorem over : Rows.gaugeFitsRow.holds Try.pinned (OpenSpec.ofChange Rows.gaugeFitsSpec) :=
  OpenClaim.holds_of_wide_leaving 5 Try.f5 rfl rfl rfl rfl rfl rfl rfl ⟨rfl, rfl, rfl, rfl, rfl⟩ rfl rfl rfl rfl rfl (by kernel_rfl) Try.func5 (by kernel_rfl)
    (of_decide_eq_true (by kernel_rfl)) (by unfold Func.isWrapper; first | (rw [if_pos (by decide +kernel)]; kernel_rfl) | (rw [if_neg (by decide +kernel)]; exact ⟨rfl, rfl⟩))
    (fun os started H enc _ => leaving_of_handed (lifted os started H enc))
theorem proved : Rows.GaugeFitsSaid := over
#print axioms proved
end Go.Proofs.Ytjbiebobhnbajaa.gaugeFits
namespace Go.Proofs.Ytjbiebobhnbajaa
/-- The row, under a short name, for the claim. -/
theorem gaugeFits_holds : Rows.GaugeFitsSaid := gaugeFits.proved
end Go.Proofs.Ytjbiebobhnbajaa
