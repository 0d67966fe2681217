/- Contradictions: bounds without one of them, and what Tightest and relaxation tell of them. -/
import Derived.Test.YtfbjpdiaicaagaaContradictImpliedsn20
import Derived.Test.YtfbjpdiaicaagaaContradictImpliedsn8
import Derived.Test.YtfbjpdiaicaagaaContradictImpliedsn9
import Derived.Test.YtfbjpdiaicaagaaContradictImpliedsn11
namespace Go.Proofs.Ytfbjpdiaicaagaa.ConT
open Go.RowKit Go.Proofs.YtfbjpdiaicaagaaW.PrintWords Go.Proofs.YtfbjpdiaicaagaaW.PrintLast Go.Proofs.YtfbjpdiaicaagaaW.PrintMore Go.Proofs.Ytfbjpdiaicaagaa.Opn Go.Proofs.Ytfbjpdiaicaagaa.PAll Go.Proofs.Ytfbjpdiaicaagaa.Base Go.Proofs.Ytfbjpdiaicaagaa.ChrA Go.Proofs.Ytfbjpdiaicaagaa.ChrB Go.Proofs.Ytfbjpdiaicaagaa.ChrC Go.Proofs.Ytfbjpdiaicaagaa.ChrD Go.Proofs.Ytfbjpdiaicaagaa.ChrE
set_option linter.unusedVariables false
set_option linter.unusedSimpArgs false
theorem be_ok {n : Int} {b : S43} (h : Ok n b) : be n b = 0 := by
  unfold Ok at h
  unfold be
  rw [if_neg (by omega), if_neg (by omega), if_neg (by omega)]
theorem bes_ok {n : Int} : ∀ {l : List S43}, (∀ b ∈ l, Ok n b) → bes n l = 0
  | [], _ => rfl
  | b :: t, h => by
    unfold bes
    rw [if_pos (be_ok (h b List.mem_cons_self))]
    exact bes_ok (fun x hx => h x (List.mem_cons_of_mem _ hx))
theorem ce_good {n : Int} {l : List S43} (G : GoodB n l) : ce n l = 0 := by
  have h1 := G.n1
  have h2 := G.n2
  have h3 := G.len
  unfold ce
  rw [if_neg (by omega), if_neg (by omega)]
  exact bes_ok G.ok
theorem sub_good {n : Int} {l l' : List S43} (G : GoodB n l) (h : ∀ b ∈ l', b ∈ l) (hl : l'.length ≤ l.length) : GoodB n l' := ⟨G.n1, G.n2, Nat.le_trans hl G.len, fun b hb => G.ok b (h b hb)⟩
theorem erase_good {n : Int} {l : List S43} (G : GoodB n l) (i : Nat) : GoodB n (l.eraseIdx i) := sub_good G (fun b hb => List.mem_of_mem_eraseIdx hb) (by rw [List.length_eraseIdx]; split <;> omega)
section
variable {m : Nat} {l : List S43}
/-- what Tightest tells, by what relaxation tells -/
def TT (m : Nat) (l : List S43) (r : List (List S35) × Int) : Prop := (slv m l = false ∧ r = ([], 10)) ∨ (slv m l = true ∧ r.2 = 0 ∧ ∃ g, Stg l m m g ∧ RepS m m 0 r.1 g ∧ ∀ s, s < m → (lng m l s).2 = true ∧ ∀ k, k < m → (lng m l s).1 k = g s k)
theorem tt_ev (G : GoodB m l) : To (fun n => chron_Tightest.f n m l) (TT m l) := by
  obtain ⟨r, hr, hq⟩ := tight_ok G (ce_good G)
  refine ⟨r, hr, ?_⟩
  rcases both G with ⟨g, e, hS, hv, hs⟩ | ⟨e, hv⟩
  · rw [e] at hq
    exact Or.inr ⟨hv, hq.1, g, hS, hq.2, hs⟩
  · rw [e] at hq
    exact Or.inl ⟨hv, hq⟩
theorem without_ev (G : l.length ≤ 40) {i : Nat} (hi : i < l.length) : Ev (fun k => contradict_without.f k l i) (l.eraseIdx i) := by
  refine ev_some 0 (fun k => ?_)
  show contradict_without.f k l i = _
  unfold contradict_without.f
  rw [if_pos (by omega), Int.toNat_natCast]
theorem eta (b : S43) : (⟨b.f0, b.f1, b.f2, b.f3⟩ : S43) = b := by cases b; rfl
theorem drop_l0 (hl : l.length ≤ 40) {i : Nat} : ∀ (t : List S43) (j : Nat) (acc : List S43), l.drop j = t → acc.length ≤ j → Ev (fun k => ephemerislaw2_drop.l0 k i acc l (l.length : Int) j) (acc ++ if i < j then t else t.eraseIdx (i - j)) := by
  intro t
  induction t with
  | nil =>
    intro j acc hd ha
    have := drop_nil (l := l) (i := (j : Int)) (by omega) (by simpa using hd)
    exact ev_some 1 (fun k => by rw [ephemerislaw2_drop.l0, if_neg (by omega)]; simp)
  | cons b t ih =>
    intro j acc hd ha
    obtain ⟨hlt, hs, ht⟩ := drop_cons (l := l) (i := (j : Int)) z43 (by omega) (by simpa using hd)
    have hs' : rd_T43 l (j : Int) = b := hs
    have ht' : l.drop (j + 1) = t := by
      have e : ((j : Int) + 1).toNat = j + 1 := by omega
      rw [e] at ht; exact ht
    by_cases c : j = i
    · subst c
      have h := ih (j + 1) acc ht' (by omega)
      rw [if_pos (by omega)] at h
      rw [if_neg (by omega), Nat.sub_self, List.eraseIdx_cons_zero]
      exact ev_step 1 (fun k => by rw [ephemerislaw2_drop.l0, if_pos hlt, if_pos (by omega), if_pos hlt, if_pos rfl, wn j (by omega)]) h
    · have h := ih (j + 1) (acc ++ [b]) ht' (by rw [List.length_append]; simp; omega)
      have e : (acc ++ [b] ++ if i < j + 1 then t else t.eraseIdx (i - (j + 1))) = acc ++ if i < j then b :: t else (b :: t).eraseIdx (i - j) := by
        by_cases c2 : i < j
        · rw [if_pos c2, if_pos (by omega), List.append_assoc]; rfl
        · rw [if_neg c2, if_neg (by omega), show i - j = i - (j + 1) + 1 by omega, List.eraseIdx_cons_succ, List.append_assoc]; rfl
      rw [e] at h
      exact ev_step 1 (fun k => by rw [ephemerislaw2_drop.l0, if_pos hlt, if_pos (by omega), if_pos hlt, if_neg (by omega), if_pos (by omega), hs', eta, wn j (by omega)]) h
theorem drop_ev (hl : l.length ≤ 40) {i : Nat} : Ev (fun k => ephemerislaw2_drop.f k l i) (l.eraseIdx i) := by
  have h := drop_l0 hl (i := i) l 0 [] rfl (by simp)
  rw [if_neg (by omega)] at h
  exact h
end
end Go.Proofs.Ytfbjpdiaicaagaa.ConT
