/- The law ContradictChangeds holds: the row, out of the pure statement. -/
import Derived.Test.YtfbjpdiaicaagaaRows
import Derived.Test.YtfbjpdiaicaagaaContradictChangedsn12
import Derived.Test.YtfbjpdiaicaagaaContradictChangedsn20
import Derived.WalkKit
import Derived.ProofKit
import Derived.OpenShut
import Derived.ShutString
import Derived.ChangeOld
import Derived.Below
import Derived.SizedLaws
import Derived.Carry
namespace Go.Proofs.Ytfbjpdiaicaagaa.contradictChangeds
open Go.ChangeShapes Go.WideShapes Go.ChangeAt Go.RowKit Go.Proofs.Ytfbjpdiaicaagaa.Opn Go.Proofs.Ytfbjpdiaicaagaa.PAll
open Go.Proofs.YtfbjpdiaicaagaaW.PrintWords Go.Proofs.YtfbjpdiaicaagaaW.PrintLast Go.Proofs.YtfbjpdiaicaagaaW.PrintMore
open Go.ChangeMaps (open_string shut_string)
set_option linter.unusedVariables false
theorem own : ownKnob Try.prog.godebug = none := by kernel_rfl
theorem laidOut : laidOutB Try.prog = true := by kernel_rfl
set_option maxRecDepth 100000 in
theorem lifted (os : Os) (started : os.Started) (H : Type) (enc : TypeId × Value → H) :
    ReturnsInHanded {} Try.checked os 9 .any (Rows.contradictChangedsSpec.pre6 enc Try.prog Try.f9 Rows.contradictChangedsRow.domain false) (Rows.contradictChangedsSpec.post enc Try.prog Try.f9 false true false false) := by
  refine returnsInHanded_of_change_sized (C := Try.checked) own started (by kernel_rfl) Try.func9
    (ChangeSpec.witness6 (enc := enc) (C := Try.checked) false ⟨#[], #[.int .i64 0, .slice none 0 0, .agg #[.int .i64 0, .int .i64 0, .int .i64 0, .int .i64 0]], []⟩ 8 (by kernel_rfl) (by kernel_rfl) (by kernel_rfl) (by kernel_rfl)) ?_
  intro W base args ds gs before hval0 hW hcnd hsz0 _
  have hsz : (DataW.weightsEach Try.prog (Try.f9.params.toList ++ Rows.contradictChangedsSpec.plain.varTypes Try.prog) (ds ++ gs)).all (· ≤ reachBytes) = true := hsz0
  have hval : ∀ (j : Nat) t v, Try.f9.params[j]? = some t → args[j]? = some v → Value.okWide Try.prog W .any base t v := hval0
  have hW' := hW
  obtain ⟨p, q, hA0, hV, rfl, hfz, hnd⟩ := hW
  have hA : DataW.TrodAll enc Try.prog W 0 (fun _ => true) true Try.f9.params.toList args.toList ds p := hA0
  rw [Try.params9] at hA hval hsz
  obtain ⟨v0, vs0, d0, ds0, p0, q0, hargs, rfl, rfl, h0, r0⟩ := trodAll_cons hA
  obtain ⟨v1, vs1, d1, ds1, p1, q1, rfl, rfl, rfl, h1, r1⟩ := trodAll_cons r0
  obtain ⟨v2, vs2, d2, ds2, p2, q2, rfl, rfl, rfl, h2, r2⟩ := trodAll_cons r1
  obtain ⟨rfl, rfl, rfl⟩ := trodAll_nil r2
  obtain rfl : args = #[v0, v1, v2] := by cases args; simp_all
  obtain ⟨rfl, rfl⟩ := trodVars_none hV
  obtain ⟨a0, rfl, rfl, rfl, w0⟩ := open_int Try.underlying3 (hval 0 3 v0 rfl rfl) h0
  obtain ⟨A1, n1, c1, rfl⟩ := okWide_slice Try.underlying22 (hval 1 22 v1 rfl rfl)
  have k1 := h1
  have lt1 : ∀ x ∈ p1, x.block < W.heap.size := by obtain ⟨m, hm⟩ := k1; exact DataW.trod_lt m _ _ _ hm
  obtain ⟨l1, hc1, hr1, hn1, e1⟩ := open_slice_arg (d := k43) (ok := ok43) (q := 22) (opens_slice (t := 22) (e := 43) 22 (by kernel_rfl) (by kernel_rfl) opens_43) h1
  subst e1
  obtain ⟨g2, rfl, _⟩ := okWide_struct Try.underlying43 (hval 2 43 v2 rfl rfl)
  have k2 := h2
  have lt2 : ∀ x ∈ p2, x.block < W.heap.size := by obtain ⟨m, hm⟩ := k2; exact DataW.trod_lt m _ _ _ hm
  obtain ⟨s2, K2, hn2⟩ := open_struct_arg opens_43 h2
  have q2 := k43_open K2
  obtain ⟨g2⟩ := g2
  simp only at q2
  subst q2
  have hbig : l1.length + 1 < 4398046511104 := by
    obtain ⟨fuel, hf⟩ := k1
    rcases Go.Deep.open_slice Try.underlying22 hf with ⟨hv, _⟩ | ⟨ad, len, cap, m, n, D, Pl, hv, _, _, _, _, hx, _⟩
    · simp [Value.cells] at hv; omega
    · have hlen : l1.length = len := by simp [Value.cells] at hv; omega
      have hd := congrArg Prod.fst hx
      simp only at hd
      subst hd
      have h := sized_slice hsz (j := 1) (t := 22) (e := 43) rfl rfl Try.underlying22
      rw [show Try.prog.bytesOf 43 = 32 by kernel_rfl] at h
      simp only [List.length_map, List.length_range, reachBytes] at h
      omega
  clear hA0 hval0 hsz0 hsz
  obtain ⟨k, hp⟩ := Pure.ContradictChangeds a0 l1 s2 (i64_of w0) hn1 hbig hn2
  refine (PAll.ephemerislaw2_ContradictChangeds.calls k a0 _ _ l1 s2.f0 s2.f1 s2.f2 s2.f3 true W hr1 hc1 hp rfl).mono ?_
  rintro e W' ⟨rfl, hd⟩
  have bel : Below W.heap.size W W' := by first | exact hd | exact hd.below
  exact ⟨_, rfl, _, _, _, [], _, [], hW', trodAll_mk1 (shut_bool Try.underlying4 _), (trodAll_cons_mk (shut_int Try.underlying3 w0) (trodAll_cons_mk (Below.trod laidOut (by kernel_rfl) (of_decide_eq_true (by kernel_rfl)) k1 bel lt1) (trodAll_cons_mk (Below.trod laidOut (by kernel_rfl) (of_decide_eq_true (by kernel_rfl)) k2 bel lt2) trodAll_mk0))), rfl, bel.frame _, fun h => by cases h⟩
theorem over : Rows.contradictChangedsRow.holds Try.pinned (OpenSpec.ofChange Rows.contradictChangedsSpec) :=
  OpenClaim.holds_of_wide 9 Try.f9 rfl rfl rfl rfl rfl rfl rfl ⟨rfl, rfl, rfl, rfl, rfl⟩ rfl rfl rfl rfl rfl (by kernel_rfl) Try.func9 (by kernel_rfl)
    (of_decide_eq_true (by kernel_rfl)) (by unfold Func.isWrapper; first | (rw [if_pos (by decide +kernel)]; kernel_rfl) | (rw [if_neg (by decide +kernel)]; exact ⟨rfl, rfl⟩))
    (fun os started H enc _ => lifted os started H enc)
theorem proved : Rows.ContradictChangedsSaid := over
#print axioms proved
end Go.Proofs.Ytfbjpdiaicaagaa.contradictChangeds
namespace Go.Proofs.Ytfbjpdiaicaagaa
/-- The row, under a short name, for the claim. -/
theorem contradictChangeds_holds : Rows.ContradictChangedsSaid := contradictChangeds.proved
end Go.Proofs.Ytfbjpdiaicaagaa
