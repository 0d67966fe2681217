/- ChronTightests: Tightest tells what relaxation from each event tells; for every n and bounds. -/
import Derived.Test.YtblidfmhlhhmkaaChronTightestsn12
import Derived.Test.YtblidfmhlhhmkaaChronTightestsn18
namespace Go.Proofs.Ytblidfmhlhhmkaa.Pure
open Go.RowKit Go.Proofs.YtblidfmhlhhmkaaW.PrintWords Go.Proofs.YtblidfmhlhhmkaaW.PrintLast Go.Proofs.YtblidfmhlhhmkaaW.PrintMore Go.Proofs.Ytblidfmhlhhmkaa.Opn Go.Proofs.Ytblidfmhlhhmkaa.PAll Go.Proofs.Ytblidfmhlhhmkaa.Base Go.Proofs.Ytblidfmhlhhmkaa.ChrA Go.Proofs.Ytblidfmhlhhmkaa.ChrB Go.Proofs.Ytblidfmhlhhmkaa.ChrC Go.Proofs.Ytblidfmhlhhmkaa.ChrD Go.Proofs.Ytblidfmhlhhmkaa.ChrE
set_option linter.unusedVariables false
set_option linter.unusedSimpArgs false
theorem works_ev : Ev (fun k => ephemerislaw2_chronWorks.f k) true := Ev.of ephemerislaw2_chronWorks.mono (k := 200) (by decide +kernel)
section
variable {m : Nat} {l : List S31} {g : Nat → Nat → Int} {X : List (List S41)}
theorem law_l1 (hm : m ≤ 12) (h : RepS m m 0 X g) (hg : ∀ a b, a < m → b < m → -100000000000 ≤ g a b ∧ g a b ≤ 1000000000) {i : Nat} (hi : i < m) {D : List Int} (hD : RepV m D (g i)) (hc : Ev (fun n => ephemerislaw2_ChronTightests.l0 n m l X m ((i + 1 : Nat) : Int)) true) :
    ∀ (j k : Nat), k + j = m → Ev (fun n => ephemerislaw2_ChronTightests.l1 n m l X i D m i m k) true := by
  have hl := h.len
  have hd := hD.len
  have row : ∀ a, a < m → ((rd_L4 X (a : Int)).length : Int) = m := fun a ha => by
    have := h.row a ha
    rw [if_pos ha] at this
    show ((X.getD a []).length : Int) = m
    omega
  have get : ∀ a b, a < m → b < m → rd_T41 (rd_L4 X (a : Int)) (b : Int) = ⟨-g b a, g a b⟩ := fun a b ha hb => h.get a b ha (Or.inl ⟨ha, hb⟩)
  intro j
  induction j with
  | zero => intro k hk; exact ev_step 1 (fun n => by rw [ephemerislaw2_ChronTightests.l1, if_neg (by omega), wn i (by omega)]) hc
  | succ j ih =>
    intro k hk
    have hkm : k < m := by omega
    have r1 := row k hkm
    have r2 := row i hi
    have e1 := get i k hi hkm
    have e2 := get k i hkm hi
    have e3 : rd D (k : Int) = g i k := hD.get k hkm
    have b := hg i k hi hkm
    have p1 : (k : Int) < m := by omega
    have p2 : (0 : Int) ≤ (k : Int) := by omega
    have p3 : (k : Int) < (X.length : Int) := by omega
    have p4 : (0 : Int) ≤ (i : Int) := by omega
    have p5 : (i : Int) < (X.length : Int) := by omega
    have p6 : (k : Int) < ((rd_L4 X (i : Int)).length : Int) := by omega
    have p7 : (k : Int) < (D.length : Int) := by omega
    have p8 : (i : Int) < ((rd_L4 X (k : Int)).length : Int) := by omega
    refine ev_step 1 (fun n => ?_) (ih (k + 1) (by omega))
    rw [ephemerislaw2_ChronTightests.l1, if_pos p1, if_pos p2, if_pos p3, if_pos r1, if_pos p4, if_pos p5, if_pos p6, if_pos p7, e1, e3, if_pos rfl, if_pos p8, e2, if_pos (by rw [w64 (by omega) (by omega)]), wn k (by omega)]
theorem law_l0 (G : GoodB m l) (hS : Stg l m m g) (hs : ∀ s, s < m → (lng m l s).2 = true ∧ ∀ k, k < m → (lng m l s).1 k = g s k) (h : RepS m m 0 X g) : ∀ (j i : Nat), i + j = m → Ev (fun n => ephemerislaw2_ChronTightests.l0 n m l X m i) true := by
  have hm := G.n2
  have hl := h.len
  intro j
  induction j with
  | zero => intro i hi; exact ev_some 1 (fun n => by rw [ephemerislaw2_ChronTightests.l0, if_neg (by omega)])
  | succ j ih =>
    intro i hi
    have him : i < m := by omega
    obtain ⟨r, hr, h1, h2⟩ := lng_ev G him
    obtain ⟨hs1, hs2⟩ := hs i him
    obtain ⟨q1, q2⟩ := h1 hs1
    have r2 : ((rd_L4 X (i : Int)).length : Int) = m := by
      have := h.row i him
      rw [if_pos him] at this
      show ((X.getD i []).length : Int) = m
      omega
    refine ev_step 1 (f := fun n => (ephemerisref2_Longest.f n m l i).bind fun bt => ephemerislaw2_ChronTightests.l1 n m l X i bt.1 m i m ((0 : Nat) : Int)) (fun n => ?_) (ev_bind hr (law_l1 (by omega) h (stg_in G hS) him (q2.congr hs2) (ih (i + 1) (by omega)) m 0 (by omega)))
    rw [ephemerislaw2_ChronTightests.l0, if_pos (by omega)]
    congr 1
    funext bt
    rw [if_pos (by omega), if_pos (by omega), if_pos r2]; rfl
end
theorem ChronTightests : PureX := by
  intro n l _ hL
  apply ev_k
  unfold ephemerislaw2_ChronTightests.f
  refine ev_bind works_ev ?_
  simp only [if_true]
  by_cases c : ce n l = 0
  · have G0 := ce_zero c
    obtain ⟨m, rfl⟩ : ∃ m : Nat, n = m := ⟨n.toNat, by have := G0.n1; omega⟩
    obtain ⟨r, hr, hq⟩ := tight_ok G0 c
    have he := err_ev m l
    have hc := check_ev m l
    rw [c] at he hc
    refine ev_bind hr (ev_bind he (ev_bind hc ?_))
    simp only [if_true]
    refine ev_bind (slv_ev G0) ?_
    rcases both G0 with ⟨g, e, hS, hv, hs⟩ | ⟨e, hv⟩
    · rw [e] at hq
      obtain ⟨q1, q2⟩ := hq
      rw [hv]
      have hl := q2.len
      refine ev_step 3 (fun k => ?_) (law_l0 G0 hS hs q2 m 0 (by omega))
      rw [ephemerislaw2_ChronTightests.j0, if_neg (by simp), ephemerislaw2_ChronTightests.j1, if_pos rfl, if_pos q1, ephemerislaw2_ChronTightests.j2, if_neg (by simp [hl])]
      rfl
    · rw [e] at hq
      rw [show r = ([], 10) from hq, hv]
      exact ev_some 3 (fun k => by
        rw [ephemerislaw2_ChronTightests.j0, if_pos (by simp), ephemerislaw2_ChronTightests.j1, if_neg (by omega), ephemerislaw2_ChronTightests.j2, if_pos rfl, if_pos rfl, if_pos (by simp)]; rfl)
  · refine ev_bind (tight_err c) (ev_bind (err_ev n l) (ev_bind (check_ev n l) ?_))
    simp only [if_true, c, if_false]
    exact ev_some 3 (fun k => by
      rw [ephemerislaw2_ChronTightests.j0, if_neg (by simp), ephemerislaw2_ChronTightests.j1, if_neg c, ephemerislaw2_ChronTightests.j2, if_pos rfl, if_pos rfl, if_pos (by simp)]; simpa using c)
end Go.Proofs.Ytblidfmhlhhmkaa.Pure
