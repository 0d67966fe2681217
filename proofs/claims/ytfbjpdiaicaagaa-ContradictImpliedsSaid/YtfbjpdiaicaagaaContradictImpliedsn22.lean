/- ContradictImplieds: Implied tells whether a bound follows from the other ones, with the errors of the document; for every n, bounds and number. -/
import Derived.Test.YtfbjpdiaicaagaaContradictImpliedsn14
import Derived.Test.YtfbjpdiaicaagaaContradictImpliedsn21
namespace Go.Proofs.Ytfbjpdiaicaagaa.Pure
open Go.RowKit Go.Proofs.YtfbjpdiaicaagaaW.PrintWords Go.Proofs.YtfbjpdiaicaagaaW.PrintLast Go.Proofs.YtfbjpdiaicaagaaW.PrintMore Go.Proofs.Ytfbjpdiaicaagaa.Opn Go.Proofs.Ytfbjpdiaicaagaa.PAll Go.Proofs.Ytfbjpdiaicaagaa.Base Go.Proofs.Ytfbjpdiaicaagaa.ChrA Go.Proofs.Ytfbjpdiaicaagaa.ChrB Go.Proofs.Ytfbjpdiaicaagaa.ChrC Go.Proofs.Ytfbjpdiaicaagaa.ChrD Go.Proofs.Ytfbjpdiaicaagaa.ChrE Go.Proofs.Ytfbjpdiaicaagaa.ConT
set_option linter.unusedVariables false
set_option linter.unusedSimpArgs false
theorem works_ev : Ev (fun k => ephemerislaw2_contradictWorks.f k) true := Ev.of ephemerislaw2_contradictWorks.mono (k := 200) (by decide +kernel)
theorem ContradictImplieds : PureX := by
  intro n l a2 _ hL _
  apply ev_k
  unfold ephemerislaw2_ContradictImplieds.f
  refine ev_bind works_ev ?_
  simp only [if_true]
  by_cases c : ce n l = 0
  · have G := ce_zero c
    obtain ⟨m, rfl⟩ : ∃ m : Nat, n = m := ⟨n.toNat, by have := G.n1; omega⟩
    have hm := G.n2
    have hlen := G.len
    have he := err_ev m l
    have hc := check_ev m l
    rw [c] at he hc
    by_cases bad : a2 < 0 ∨ a2 ≥ (l.length : Int)
    · have himp : Ev (fun k => contradict_Implied.f k m l a2) (false, 3) := by
        unfold contradict_Implied.f
        refine ev_bind hc ?_
        simp only [if_true]
        refine ev_some 1 (fun k => ?_)
        by_cases c1 : a2 < 0
        · rw [if_pos c1, contradict_Implied.j0, if_pos rfl]
        · rw [if_neg c1, contradict_Implied.j0, if_pos (decide_eq_true (show a2 ≥ (l.length : Int) by omega))]
      refine ev_bind himp (ev_bind he ?_)
      simp only [if_true]
      refine ev_some 2 (fun k => ?_)
      have fin : ephemerislaw2_ContradictImplieds.j0 (k + 2) m l a2 false 3 0 true = some true := by
        rw [ephemerislaw2_ContradictImplieds.j0, if_pos rfl, ephemerislaw2_ContradictImplieds.j1, if_neg (by omega), if_pos rfl]; rfl
      by_cases c1 : a2 < 0
      · rw [if_pos c1]; exact fin
      · rw [if_neg c1, decide_eq_true (show a2 ≥ (l.length : Int) by omega)]; exact fin
    · obtain ⟨i, rfl⟩ : ∃ i : Nat, a2 = i := ⟨a2.toNat, by omega⟩
      have hi : i < l.length := by omega
      have G' := erase_good G i
      obtain ⟨b, hb⟩ : ∃ b, rd_T43 l (i : Int) = b := ⟨_, rfl⟩
      have hbl : b ∈ l := by
        rw [← hb]
        show l.getD i z43 ∈ l
        rw [List.getD_eq_getElem?_getD, List.getElem?_eq_getElem hi]
        exact List.getElem_mem hi
      obtain ⟨o1, o2, o3, o4, o5, o6, o7, o8⟩ := G.ok b hbl
      have b0 : b.f0.toNat < m := by omega
      have b1 : b.f1.toNat < m := by omega
      obtain ⟨r, hr, hq⟩ := tt_ev G'
      have hw := without_ev hlen hi
      have hdr := drop_ev hlen (i := i)
      have hsv := slv_ev G'
      have hj : ∀ (is : Bool) (o : Int) (k : Nat), ephemerislaw2_ContradictImplieds.j0 (k + 2) m l i is o 0 false = (ephemerislaw2_drop.f k l i).bind fun t368 => ((ephemerisref2_Solvable.f k m t368).bind fun t371 => (if t371 = true then (if 0 ≤ (i : Int) then (if (i : Int) < (l.length : Int) then ((ephemerisref2_Longest.f k m t368 b.f0).bind fun bt373 => ((ephemerisref2_Longest.f k m t368 b.f1).bind fun bt378 => (if o = 0 then (if 0 ≤ b.f1 then (if b.f1 < (bt373.1.length : Int) then (if (rd bt373.1 b.f1) ≤ b.f3 then (if 0 ≤ b.f0 then (if b.f0 < (bt378.1.length : Int) then (some (is == (decide ((wrap64 (-(rd bt378.1 b.f0))) ≥ b.f2)))) else (none)) else (none)) else (some (is == false))) else (none)) else (none)) else (some false)))) else (none)) else (none)) else (if o = 10 then (some (!is)) else (some false)))) := fun is o k => by
        rw [ephemerislaw2_ContradictImplieds.j0, if_neg (by simp), ephemerislaw2_ContradictImplieds.j1, if_pos rfl, hb]
      rcases hq with ⟨hv, e⟩ | ⟨hv, e, g, hS, hR, hs⟩
      · have himp : Ev (fun k => contradict_Implied.f k m l i) (false, 10) := by
          unfold contradict_Implied.f
          refine ev_bind hc ?_
          simp only [if_true]
          obtain ⟨K, hK⟩ := ev_and hw hr
          refine ⟨K + 1, fun k hk => ?_⟩
          obtain ⟨k, rfl⟩ : ∃ q, k = q + 1 := ⟨k - 1, by omega⟩
          obtain ⟨k1, k2⟩ := hK k (by omega)
          show (if (i : Int) < 0 then _ else _) = _
          rw [if_neg (by omega), decide_eq_false (by omega), contradict_Implied.j0, if_neg (by simp), k1, Option.bind_some, k2, Option.bind_some, e]
          rfl
        refine ev_bind himp (ev_bind he ?_)
        simp only [if_true]
        rw [hv] at hsv
        obtain ⟨K, hK⟩ := ev_and hdr hsv
        refine ⟨K + 2, fun k hk => ?_⟩
        obtain ⟨k, rfl⟩ : ∃ q, k = q + 2 := ⟨k - 2, by omega⟩
        obtain ⟨k1, k2⟩ := hK k (by omega)
        show (if (i : Int) < 0 then _ else _) = _
        rw [if_neg (by omega), decide_eq_false (by omega), hj, k1, Option.bind_some, k2, Option.bind_some]
        rfl
      · have hrl := hR.len
        have hrow := hR.row b.f0.toNat b0
        rw [if_pos b0] at hrow
        have hget := hR.get b.f0.toNat b.f1.toNat b0 (Or.inl ⟨b0, b1⟩)
        have hrow' : ((rd_L4 r.1 b.f0).length : Int) = m := by
          show ((r.1.getD b.f0.toNat []).length : Int) = m
          omega
        have hget' : rd_T35 (rd_L4 r.1 b.f0) b.f1 = ⟨-g b.f1.toNat b.f0.toNat, g b.f0.toNat b.f1.toNat⟩ := hget
        have hin1 := stg_in G' hS b.f1.toNat b.f0.toNat b1 b0
        obtain ⟨IS, hIS⟩ : ∃ IS : Bool, IS = decide (-g b.f1.toNat b.f0.toNat ≥ b.f2 ∧ g b.f0.toNat b.f1.toNat ≤ b.f3) := ⟨_, rfl⟩
        have himp : Ev (fun k => contradict_Implied.f k m l i) (IS, 0) := by
          unfold contradict_Implied.f
          refine ev_bind hc ?_
          simp only [if_true]
          obtain ⟨K, hK⟩ := ev_and hw hr
          refine ⟨K + 1, fun k hk => ?_⟩
          obtain ⟨k, rfl⟩ : ∃ q, k = q + 1 := ⟨k - 1, by omega⟩
          obtain ⟨k1, k2⟩ := hK k (by omega)
          show (if (i : Int) < 0 then _ else _) = _
          rw [if_neg (by omega), decide_eq_false (by omega), contradict_Implied.j0, if_neg (by simp), k1, Option.bind_some, k2, Option.bind_some, if_pos e, if_pos (by omega), if_pos (by omega), hb, if_pos o1, if_pos (by omega), if_pos o3, if_pos (by omega), hget', hIS]
          by_cases c1 : -g b.f1.toNat b.f0.toNat ≥ b.f2
          · rw [if_pos c1]; simp [c1]
          · rw [if_neg c1]; simp [c1]
        refine ev_bind himp (ev_bind he ?_)
        simp only [if_true]
        rw [hv] at hsv
        obtain ⟨x, hx, hx1, _⟩ := lng_ev G' b0
        obtain ⟨y, hy, hy1, _⟩ := lng_ev G' b1
        obtain ⟨xv, xg⟩ := hs b.f0.toNat b0
        obtain ⟨yv, yg⟩ := hs b.f1.toNat b1
        obtain ⟨_, hx2⟩ := hx1 xv
        obtain ⟨_, hy2⟩ := hy1 yv
        have xl := hx2.len
        have yl := hy2.len
        have ex : rd x.1 b.f1 = g b.f0.toNat b.f1.toNat := (hx2.at_ b1).trans (xg _ b1)
        have ey : rd y.1 b.f0 = g b.f1.toNat b.f0.toNat := (hy2.at_ b0).trans (yg _ b0)
        rw [show ((b.f0.toNat : Nat) : Int) = b.f0 by omega] at hx
        rw [show ((b.f1.toNat : Nat) : Int) = b.f1 by omega] at hy
        obtain ⟨K, hK⟩ := ev_and hdr hsv
        obtain ⟨K', hK'⟩ := ev_and hx hy
        refine ⟨K + K' + 2, fun k hk => ?_⟩
        obtain ⟨k, rfl⟩ : ∃ q, k = q + 2 := ⟨k - 2, by omega⟩
        obtain ⟨k1, k2⟩ := hK k (by omega)
        obtain ⟨k3, k4⟩ := hK' k (by omega)
        show (if (i : Int) < 0 then _ else _) = _
        rw [if_neg (by omega), decide_eq_false (by omega), hj, k1, Option.bind_some, k2, Option.bind_some, if_pos rfl, if_pos (by omega), if_pos (by omega), k3, Option.bind_some, k4, Option.bind_some, if_pos rfl, if_pos o3, if_pos (by omega), ex]
        by_cases c2 : g b.f0.toNat b.f1.toNat ≤ b.f3
        · rw [if_pos c2, if_pos o1, if_pos (by omega), ey, w64 (by omega) (by omega), hIS]
          simp [c2]
        · rw [if_neg c2, hIS]
          simp [c2]
  · have himp : Ev (fun k => contradict_Implied.f k n l a2) (false, ce n l) := by
      unfold contradict_Implied.f
      refine ev_bind (check_ev n l) ?_
      exact ev_some 0 (fun k => by rw [if_neg c])
    refine ev_bind himp (ev_bind (err_ev n l) ?_)
    simp only [c, if_false]
    exact ev_some 2 (fun k => by
      rw [ephemerislaw2_ContradictImplieds.j0, if_neg (by simp), ephemerislaw2_ContradictImplieds.j1, if_neg c, if_pos rfl]; rfl)
end Go.Proofs.Ytfbjpdiaicaagaa.Pure
