/- Contradictions: bounds without one of them, and what Tightest and relaxation tell of them. -/
import Derived.Test.YtfbjpdiaicaagaaTopContradictn17
import Derived.Test.YtfbjpdiaicaagaaTopContradictn5
import Derived.Test.YtfbjpdiaicaagaaTopContradictn6
import Derived.Test.YtfbjpdiaicaagaaTopContradictn3
namespace Go.Proofs.Ytfbjpdiaicaagaa.ConT
open Go.RowKit Go.Proofs.YtfbjpdiaicaagaaW.PrintWords Go.Proofs.YtfbjpdiaicaagaaW.PrintLast Go.Proofs.YtfbjpdiaicaagaaW.PrintMore Go.Proofs.Ytfbjpdiaicaagaa.Opn Go.Proofs.Ytfbjpdiaicaagaa.PAll Go.Proofs.Ytfbjpdiaicaagaa.Base Go.Proofs.Ytfbjpdiaicaagaa.ChrA Go.Proofs.Ytfbjpdiaicaagaa.ChrB Go.Proofs.Ytfbjpdiaicaagaa.ChrC Go.Proofs.Ytfbjpdiaicaagaa.ChrD Go.Proofs.Ytfbjpdiaicaagaa.ChrE
set_option linter.unusedVariables false
set_option linter.unusedSimpArgs false
theorem be_ok {n : Int} {b : S43} (h : Ok n b) : be n b = 0 := by
  unfold Ok at h
  unfold be
  rw [if_neg (by omega), if_neg (by omega), if_neg (by omega)]
theorem bes_ok {n : Int} : ∀ {l : List S43}, (∀ b ∈ l, Ok n b) → bes n l = 0
  | [], _ => rfl
  | b :: t, h => by
    unfold bes
    rw [if_pos (be_ok (h b List.mem_cons_self))]
    exact bes_ok (fun x hx => h x (List.mem_cons_of_mem _ hx))
theorem ce_good {n : Int} {l : List S43} (G : GoodB n l) : ce n l = 0 := by
  have h1 := G.n1
  have h2 := G.n2
  have h3 := G.len
  unfold ce
  rw [if_neg (by omega), if_neg (by omega)]
  exact bes_ok G.ok
theorem sub_good {n : Int} {l l' : List S43} (G : GoodB n l) (h : ∀ b ∈ l', b ∈ l) (hl : l'.length ≤ l.length) : GoodB n l' := ⟨G.n1, G.n2, Nat.le_trans hl G.len, fun b hb => G.ok b (h b hb)⟩
section
variable {m : Nat} {l : List S43}
/-- what Tightest tells, by what relaxation tells -/
def TT (m : Nat) (l : List S43) (r : List (List S35) × Int) : Prop := (slv m l = false ∧ r = ([], 10)) ∨ (slv m l = true ∧ r.2 = 0 ∧ ∃ g, Stg l m m g ∧ RepS m m 0 r.1 g ∧ ∀ s, s < m → (lng m l s).2 = true ∧ ∀ k, k < m → (lng m l s).1 k = g s k)
theorem tt_ev (G : GoodB m l) : To (fun n => chron_Tightest.f n m l) (TT m l) := by
  obtain ⟨r, hr, hq⟩ := tight_ok G (ce_good G)
  refine ⟨r, hr, ?_⟩
  rcases both G with ⟨g, e, hS, hv, hs⟩ | ⟨e, hv⟩
  · rw [e] at hq
    exact Or.inr ⟨hv, hq.1, g, hS, hq.2, hs⟩
  · rw [e] at hq
    exact Or.inl ⟨hv, hq⟩
theorem without_ev (G : l.length ≤ 40) {i : Nat} (hi : i < l.length) : Ev (fun k => contradict_without.f k l i) (l.eraseIdx i) := by
  refine ev_some 0 (fun k => ?_)
  show contradict_without.f k l i = _
  unfold contradict_without.f
  rw [if_pos (by omega), Int.toNat_natCast]
theorem eta (b : S43) : (⟨b.f0, b.f1, b.f2, b.f3⟩ : S43) = b := by cases b; rfl
end
end Go.Proofs.Ytfbjpdiaicaagaa.ConT
