/- ChronEarlys: Early tells the least days of all events, with the errors of the document; for every n, bounds, event and day. -/
import Derived.Test.YtblidfmhlhhmkaaChronEarlysn12
import Derived.Test.YtblidfmhlhhmkaaChronEarlysn18
namespace Go.Proofs.Ytblidfmhlhhmkaa.Pure
open Go.RowKit Go.Proofs.YtblidfmhlhhmkaaW.PrintWords Go.Proofs.YtblidfmhlhhmkaaW.PrintLast Go.Proofs.YtblidfmhlhhmkaaW.PrintMore Go.Proofs.Ytblidfmhlhhmkaa.Opn Go.Proofs.Ytblidfmhlhhmkaa.PAll Go.Proofs.Ytblidfmhlhhmkaa.Base Go.Proofs.Ytblidfmhlhhmkaa.ChrA Go.Proofs.Ytblidfmhlhhmkaa.ChrB Go.Proofs.Ytblidfmhlhhmkaa.ChrC Go.Proofs.Ytblidfmhlhhmkaa.ChrD Go.Proofs.Ytblidfmhlhhmkaa.ChrE
set_option linter.unusedVariables false
set_option linter.unusedSimpArgs false
theorem works_ev : Ev (fun k => ephemerislaw2_chronWorks.f k) true := Ev.of ephemerislaw2_chronWorks.mono (k := 200) (by decide +kernel)
theorem beyond_at (d : Int) : ephemerislaw2_beyond.f d 4000000 = some (decide (d < -4000000 ∨ d > 4000000)) := by
  unfold ephemerislaw2_beyond.f
  rw [show wrap64 (-4000000) = -4000000 by decide +kernel]
  by_cases c : d < -4000000
  · rw [if_pos c]; simp [c]
  · rw [if_neg c]; simp [c]
section
variable {m : Nat} {l : List S31} {g : Nat → Nat → Int} {X : List (List S41)}
/-- what Early tells where the day and the event are in order -/
def OutE (m : Nat) (g : Nat → Nat → Int) (ev : Nat) (d : Int) (r : List Int × Int) : Prop := (r = ([], 6) ∧ ∃ b, b < m ∧ g b ev = 1000000000) ∨ (r.2 = 0 ∧ r.1.length = m ∧ ∀ b, b < m → g b ev ≠ 1000000000 ∧ r.1.getD b 0 = d - g b ev)
theorem early_l0 (hm : m ≤ 12) (hg : ∀ a b, a < m → b < m → -100000000000 ≤ g a b ∧ g a b ≤ 1000000000) {ev : Nat} (hev : ev < m) {d : Int} (hd : -4000000 ≤ d ∧ d ≤ 4000000) {R : List S41} (hR : R.length = m) (hget : ∀ b, b < m → R.getD b z41 = ⟨-g b ev, g ev b⟩) :
    ∀ (j b : Nat) (out : List Int), b + j = m → out.length = b → (∀ a, a < b → g a ev ≠ 1000000000 ∧ out.getD a 0 = d - g a ev) → To (fun n => chron_Early.l0 n d out R m b) (OutE m g ev d) := by
  intro j
  induction j with
  | zero =>
    intro b out hb ho h
    obtain rfl : b = m := by omega
    exact to_some 1 (fun n => by rw [chron_Early.l0, if_neg (by omega)]) (Or.inr ⟨rfl, ho, h⟩)
  | succ j ih =>
    intro b out hb ho h
    have hbm : b < m := by omega
    have e1 : rd_T41 R (b : Int) = ⟨-g b ev, g ev b⟩ := hget b hbm
    have e2 := hg b ev hbm hev
    have hun : ∀ n, chron_Early.l0 (n + 1) d out R m b = if g b ev = 1000000000 then some ([], 6) else chron_Early.l0 n d (out ++ [d - g b ev]) R m ((b + 1 : Nat) : Int) := by
      intro n
      rw [chron_Early.l0, if_pos (by omega), if_pos (by omega), if_pos (by omega), e1]
      by_cases c : g b ev = 1000000000
      · rw [if_pos c, if_pos (show -g b ev = -1000000000 by omega)]
      · rw [if_neg c, if_neg (show ¬ -g b ev = -1000000000 by omega), if_pos (by omega), wn b (by omega)]
        show chron_Early.l0 n d (out ++ [wrap64 (d + -g b ev)]) R m _ = _
        rw [w64 (by omega) (by omega), show d + -g b ev = d - g b ev by omega]
    by_cases c : g b ev = 1000000000
    · exact to_some 1 (fun n => by rw [hun, if_pos c]) (Or.inl ⟨rfl, b, hbm, c⟩)
    · refine to_step 1 (fun n => by rw [hun, if_neg c]) (ih (b + 1) _ (by omega) (by simp [ho]) (fun a ha => ?_))
      by_cases c2 : a = b
      · subst c2; exact ⟨c, getD_app_eq ho.symm⟩
      · have := h a (by omega)
        exact ⟨this.1, by rw [getD_app_lt (by omega)]; exact this.2⟩
theorem law_l0 (G : GoodB m l) (hS : Stg l m m g) (hs : ∀ s, s < m → (lng m l s).2 = true ∧ ∀ k, k < m → (lng m l s).1 k = g s k) {ev : Nat} (hev : ev < m) {d : Int} (hd : -4000000 ≤ d ∧ d ≤ 4000000) {r : List Int × Int} (hr : OutE m g ev d r) :
    ∀ (j k : Nat), k + j = m → (∀ a, a < k → g a ev ≠ 1000000000) → Ev (fun n => ephemerislaw2_ChronEarlys.l0 n m l ev d r.1 r.2 m k) true := by
  have hm := G.n2
  have hg := stg_in G hS
  intro j
  induction j with
  | zero =>
    intro k hk h
    rcases hr with ⟨e, b, hb, hf⟩ | ⟨e, hl, hall⟩
    · exact absurd hf (h b (by omega))
    · exact ev_some 1 (fun n => by rw [ephemerislaw2_ChronEarlys.l0, if_neg (by omega), if_pos e]; simp [hl])
  | succ j ih =>
    intro k hk h
    have hkm : k < m := by omega
    obtain ⟨q, hq, h1, h2⟩ := lng_ev G hkm
    obtain ⟨hs1, hs2⟩ := hs k hkm
    obtain ⟨q1, q2⟩ := h1 hs1
    have ql := q2.len
    have e3 : rd q.1 (ev : Int) = g k ev := (q2.get ev hev).trans (hs2 ev hev)
    have e2 := hg k ev hkm hev
    have p1 : (k : Int) < m := by omega
    refine ev_step 1 (f := fun n => (ephemerisref2_Longest.f n m l k).bind fun bt268 => (if 0 ≤ (ev : Int) then (if (ev : Int) < (bt268.1.length : Int) then (if (rd bt268.1 ev) = 1000000000 then (if r.2 = 6 then (some ((r.1.length : Int) == 0)) else (some false)) else (if r.2 = 0 then (if (k : Int) ≥ (r.1.length : Int) then (some false) else (if 0 ≤ (k : Int) then (if (k : Int) < (r.1.length : Int) then (if (rd r.1 k) = (wrap64 (d - (rd bt268.1 ev))) then (ephemerislaw2_ChronEarlys.l0 n m l ev d r.1 r.2 m (wrap64 ((k : Int) + 1))) else (some false)) else (none)) else (none))) else (ephemerislaw2_ChronEarlys.l0 n m l ev d r.1 r.2 m (wrap64 ((k : Int) + 1))))) else (none)) else (none))) (fun n => by rw [ephemerislaw2_ChronEarlys.l0, if_pos p1]) (ev_bind hq ?_)
    rw [e3, wn k (by omega)]
    by_cases c : g k ev = 1000000000
    · rcases hr with ⟨e, _⟩ | ⟨_, _, hall⟩
      · rw [e]
        exact ev_some 0 (fun n => by rw [if_pos (by omega), if_pos (by omega), if_pos c, if_pos rfl]; rfl)
      · exact absurd c (hall k hkm).1
    · have next := ih (k + 1) (by omega) (fun a ha => by
        by_cases c2 : a = k
        · subst c2; exact c
        · exact h a (by omega))
      refine ev_step 0 (fun n => ?_) next
      rw [if_pos (by omega), if_pos (by omega), if_neg c]
      rcases hr with ⟨e, _⟩ | ⟨e, hl, hall⟩
      · rw [e]; rfl
      · have e4 : rd r.1 (k : Int) = d - g k ev := (hall k hkm).2
        rw [if_pos e, if_neg (by omega), if_pos (by omega), if_pos (by omega), e4, if_pos (by rw [w64 (by omega) (by omega)])]; rfl
end
theorem ChronEarlys : PureX := by
  intro n l a2 d _ hL _ _
  apply ev_k
  unfold ephemerislaw2_ChronEarlys.f
  refine ev_bind works_ev ?_
  simp only [if_true]
  by_cases c : ce n l = 0
  · have G0 := ce_zero c
    obtain ⟨m, rfl⟩ : ∃ m : Nat, n = m := ⟨n.toNat, by have := G0.n1; omega⟩
    obtain ⟨r, hr, hq⟩ := tight_ok G0 c
    have hm := G0.n2
    have he := err_ev m l
    rw [c] at he
    rcases both G0 with ⟨g, e, hS, hv, hs⟩ | ⟨e, hv⟩
    · rw [e] at hq
      obtain ⟨q1, q2⟩ := hq
      have hl := q2.len
      have hsv := slv_ev G0
      rw [hv] at hsv
      by_cases bad : a2 < 0 ∨ a2 ≥ m ∨ d < -4000000 ∨ d > 4000000
      · have hearly : Ev (fun k => chron_Early.f k m l a2 d) ([], 3) := by
          unfold chron_Early.f
          refine ev_bind hr ?_
          refine ev_some 1 (fun k => ?_)
          rw [if_pos q1]
          by_cases c1 : a2 < 0
          · rw [if_pos c1, chron_Early.j0, if_pos rfl]
          by_cases c2 : a2 ≥ m
          · rw [if_neg c1, if_pos c2, chron_Early.j0, if_pos rfl]
          by_cases c3 : d < -4000000
          · rw [if_neg c1, if_neg c2, if_pos c3, chron_Early.j0, if_pos rfl]
          · rw [if_neg c1, if_neg c2, if_neg c3, chron_Early.j0, if_pos (decide_eq_true (show d > 4000000 by omega))]
        refine ev_bind hearly (ev_bind he ?_)
        simp only [if_true]
        refine ev_bind hsv ?_
        refine ev_some 4 (fun k => ?_)
        rw [ephemerislaw2_ChronEarlys.j0, if_neg (by simp), ephemerislaw2_ChronEarlys.j1, if_pos rfl]
        have fin : ephemerislaw2_ChronEarlys.j2 (k + 2) m l a2 d [] 3 0 true = some true := by
          rw [ephemerislaw2_ChronEarlys.j2, if_pos rfl, ephemerislaw2_ChronEarlys.j3, if_neg (by omega), if_pos rfl]; rfl
        by_cases c1 : a2 < 0
        · rw [if_pos c1]; exact fin
        by_cases c2 : a2 ≥ m
        · rw [if_neg c1, if_pos c2]; exact fin
        · rw [if_neg c1, if_neg c2, beyond_at, Option.bind_some, decide_eq_true (show d < -4000000 ∨ d > 4000000 by omega)]; exact fin
      · obtain ⟨ev, rfl⟩ : ∃ ev : Nat, a2 = ev := ⟨a2.toNat, by omega⟩
        have hev : ev < m := by omega
        have hd : -4000000 ≤ d ∧ d ≤ 4000000 := by omega
        have hrow := q2.row ev hev
        rw [if_pos hev] at hrow
        obtain ⟨o, ho, hO⟩ := early_l0 (by omega) (stg_in G0 hS) hev hd (R := r.1.getD ev []) hrow (fun b hb => q2.get ev b hev (Or.inl ⟨hev, hb⟩)) m 0 [] (by omega) rfl (fun a ha => by omega)
        have hearly : Ev (fun k => chron_Early.f k m l ev d) o := by
          unfold chron_Early.f
          refine ev_bind hr ?_
          refine ev_step 1 (fun k => ?_) ho
          rw [if_pos q1, if_neg (by omega), if_neg (by omega), if_neg (by omega), chron_Early.j0, if_neg (by simp; omega), if_pos (by omega), if_pos (by omega)]
          show chron_Early.l0 k d [] (r.1.getD ev []) ((r.1.getD ev []).length : Int) 0 = _
          rw [hrow]; rfl
        refine ev_bind hearly (ev_bind he ?_)
        simp only [if_true]
        refine ev_bind hsv ?_
        refine ev_step 4 (fun k => ?_) (law_l0 G0 hS hs hev hd hO m 0 (by omega) (fun a ha => by omega))
        rw [ephemerislaw2_ChronEarlys.j0, if_neg (by simp), ephemerislaw2_ChronEarlys.j1, if_pos rfl, if_neg (by omega), if_neg (by omega), beyond_at, Option.bind_some, decide_eq_false (by omega), ephemerislaw2_ChronEarlys.j2, if_neg (by simp), ephemerislaw2_ChronEarlys.j3, if_pos rfl]
        rfl
    · rw [e] at hq
      have hsv := slv_ev G0
      rw [hv] at hsv
      have hearly : Ev (fun k => chron_Early.f k m l a2 d) ([], 10) := by
        unfold chron_Early.f
        refine ev_bind hr ?_
        rw [show r = ([], 10) from hq]
        exact ev_some 0 (fun k => rfl)
      refine ev_bind hearly (ev_bind he ?_)
      simp only [if_true]
      refine ev_bind hsv ?_
      exact ev_some 4 (fun k => by
        rw [ephemerislaw2_ChronEarlys.j0, if_pos (by simp), ephemerislaw2_ChronEarlys.j1, if_neg (by omega), ephemerislaw2_ChronEarlys.j2, if_neg (by simp), ephemerislaw2_ChronEarlys.j3, if_neg (by omega), if_pos rfl]; rfl)
  · have hearly : Ev (fun k => chron_Early.f k n l a2 d) ([], ce n l) := by
      unfold chron_Early.f
      refine ev_bind (tight_err c) ?_
      exact ev_some 0 (fun k => by rw [if_neg c])
    refine ev_bind hearly (ev_bind (err_ev n l) ?_)
    simp only [c, if_false]
    exact ev_some 4 (fun k => by
      rw [ephemerislaw2_ChronEarlys.j0, if_neg (by simp), ephemerislaw2_ChronEarlys.j1, if_neg c, ephemerislaw2_ChronEarlys.j2, if_neg (by simp), ephemerislaw2_ChronEarlys.j3, if_neg c, if_pos rfl]; rfl)
end Go.Proofs.Ytblidfmhlhhmkaa.Pure
