/- Chronologies: what Tightest comes to. -/
import Derived.Test.YtfbjpdiaicaagaaTopContradictn16
import Derived.Test.YtfbjpdiaicaagaaTopContradictn5
namespace Go.Proofs.Ytfbjpdiaicaagaa.ChrE
open Go.RowKit Go.Proofs.YtfbjpdiaicaagaaW.PrintWords Go.Proofs.YtfbjpdiaicaagaaW.PrintLast Go.Proofs.YtfbjpdiaicaagaaW.PrintMore Go.Proofs.Ytfbjpdiaicaagaa.Opn Go.Proofs.Ytfbjpdiaicaagaa.PAll Go.Proofs.Ytfbjpdiaicaagaa.Base Go.Proofs.Ytfbjpdiaicaagaa.ChrA Go.Proofs.Ytfbjpdiaicaagaa.ChrB Go.Proofs.Ytfbjpdiaicaagaa.ChrC Go.Proofs.Ytfbjpdiaicaagaa.ChrD
set_option linter.unusedVariables false
set_option linter.unusedSimpArgs false
/-- rows of intervals: those below i whole, of row i the first k, the others empty -/
structure RepS (m i k : Nat) (X : List (List S35)) (g : Nat → Nat → Int) : Prop where
  len : X.length = m
  row : ∀ a, a < m → (X.getD a []).length = if a < i then m else if a = i then k else 0
  get : ∀ a b, a < m → (a < i ∧ b < m ∨ a = i ∧ b < k) → (X.getD a []).getD b z35 = ⟨-g b a, g a b⟩
section
variable {m : Nat} {g : Nat → Nat → Int} {Y : List (List Int)} {l : List S43}
theorem getD_app_lt {α : Type} {xs : List α} {y d : α} {b : Nat} (h : b < xs.length) : (xs ++ [y]).getD b d = xs.getD b d := by
  rw [List.getD_eq_getElem?_getD, List.getElem?_append_left h, ← List.getD_eq_getElem?_getD]
theorem getD_app_eq {α : Type} {xs : List α} {y d : α} {b : Nat} (h : b = xs.length) : (xs ++ [y]).getD b d = y := by
  subst h; rw [List.getD_eq_getElem?_getD]; simp
theorem reps_put {i k : Nat} {X : List (List S35)} (h : RepS m i k X g) (hi : i < m) (hk : k < m) : RepS m i (k + 1) (X.set i ((X.getD i []) ++ [⟨-g k i, g i k⟩])) g := by
  have hl := h.len
  have hr := h.row i hi
  rw [if_neg (by omega), if_pos rfl] at hr
  refine ⟨by rw [List.length_set]; exact hl, fun a ha => ?_, fun a b ha hb => ?_⟩
  · by_cases c : i = a
    · subst c; rw [gset_eq (by omega), List.length_append, hr, if_neg (by omega), if_pos rfl]; rfl
    · rw [gset_ne c, h.row a ha]
      by_cases c2 : a < i
      · rw [if_pos c2, if_pos c2]
      · rw [if_neg c2, if_neg c2, if_neg (by omega), if_neg (by omega)]
  · by_cases c : i = a
    · subst c
      rw [gset_eq (by omega)]
      by_cases c2 : b = k
      · subst c2; rw [getD_app_eq hr.symm]
      · rw [getD_app_lt (by omega)]; exact h.get i b ha (by omega)
    · rw [gset_ne c]; exact h.get a b ha (by omega)
theorem reps_row {i : Nat} {X : List (List S35)} (h : RepS m i m X g) : RepS m (i + 1) 0 X g := by
  refine ⟨h.len, fun a ha => ?_, fun a b ha hb => h.get a b ha (by omega)⟩
  rw [h.row a ha]
  by_cases c : a < i
  · rw [if_pos c, if_pos (by omega)]
  · by_cases c2 : a = i
    · rw [if_neg c, if_pos c2, if_pos (by omega)]
    · rw [if_neg c, if_neg c2, if_neg (by omega)]
      by_cases c3 : a = i + 1
      · rw [if_pos c3]
      · rw [if_neg c3]
theorem tight_l1 (hm : m ≤ 12) (hY : Rep m m Y g) (hg : ∀ a b, a < m → b < m → -100000000000 ≤ g a b ∧ g a b ≤ 1000000000) {Q : List (List S35) × Int → Prop} {i : Nat} (hi : i < m) :
    ∀ (j k : Nat) (X : List (List S35)), k + j = m → RepS m i k X g → (∀ X', RepS m (i + 1) 0 X' g → To (fun n => chron_Tightest.l0 n m Y X' m ((i + 1 : Nat) : Int)) Q) → To (fun n => chron_Tightest.l1 n m Y X i m i m k) Q := by
  have hyl := hY.len
  intro j
  induction j with
  | zero =>
    intro k X hk h hc
    obtain rfl : k = m := by omega
    exact to_step 1 (fun n => by rw [chron_Tightest.l1, if_neg (by omega), wn i (by omega)]) (hc X (reps_row h))
  | succ j ih =>
    intro k X hk h hc
    have hkm : k < m := by omega
    have hl := h.len
    have hr : (rd_L4 X (i : Int)).length = k := by
      have := h.row i hi
      rw [if_neg (by omega), if_pos rfl] at this
      exact this
    have e1 := hY.len_at hkm
    have e2 := hY.len_at hi
    have e3 := hY.rd_at hkm hi
    have e4 := hY.rd_at hi hkm
    have b1 := hg k i hkm hi
    have p1 : (k : Int) < m := by omega
    have p2 : (0 : Int) ≤ (i : Int) := by omega
    have p3 : (i : Int) < (X.length : Int) := by omega
    have p4 : (0 : Int) ≤ (k : Int) := by omega
    have p5 : (k : Int) < (Y.length : Int) := by omega
    have p6 : (i : Int) < ((rd_L2 Y (k : Int)).length : Int) := by omega
    have p7 : (i : Int) < (Y.length : Int) := by omega
    have p8 : (k : Int) < ((rd_L2 Y (i : Int)).length : Int) := by omega
    have p9 : (rd_L4 X (i : Int)).length < 8796093022208 := by omega
    refine to_step 1 (fun n => ?_) (ih (k + 1) _ (by omega) (reps_put h hi hkm) hc)
    rw [chron_Tightest.l1, if_pos p1, if_pos p2, if_pos p3, if_pos p4, if_pos p5, if_pos p6, if_pos p7, if_pos p8, if_pos p9, e3, e4, w64 (by omega) (by omega), wn k (by omega)]
    rfl
theorem tight_l0 (hm : m ≤ 12) (hY : Rep m m Y g) (hg : ∀ a b, a < m → b < m → -100000000000 ≤ g a b ∧ g a b ≤ 1000000000) :
    ∀ (j i : Nat) (X : List (List S35)), i + j = m → RepS m i 0 X g → To (fun n => chron_Tightest.l0 n m Y X m i) (fun r => r.2 = 0 ∧ RepS m m 0 r.1 g) := by
  intro j
  induction j with
  | zero =>
    intro i X hi h
    obtain rfl : i = m := by omega
    exact to_some 1 (fun n => by rw [chron_Tightest.l0, if_neg (by omega)]) ⟨rfl, h⟩
  | succ j ih =>
    intro i X hi h
    exact to_step 1 (fun n => by rw [chron_Tightest.l0, if_pos (by omega)]; rfl) (tight_l1 hm hY hg (show i < m by omega) m 0 X (by omega) h (fun X' h' => ih (i + 1) X' (by omega) h'))
theorem stg_in (G : GoodB m l) (h : Stg l m m g) : ∀ a b, a < m → b < m → -100000000000 ≤ g a b ∧ g a b ≤ 1000000000 := by
  have hm := G.n2
  intro a b ha hb
  have h1 := h.low a b ha hb
  have h2 : (2 : Int) ^ m ≤ 2 ^ 12 := by
    have : (2 : Nat) ^ m ≤ 2 ^ 12 := Nat.pow_le_pow_right (by omega) (by omega)
    exact_mod_cast this
  exact ⟨by omega, h.far a b ha hb⟩
/-- what Tightest tells of bounds that are in order -/
def OutS (m : Nat) (o : Option (Nat → Nat → Int)) (r : List (List S35) × Int) : Prop := match o with
  | some g => r.2 = 0 ∧ RepS m m 0 r.1 g
  | none => r = ([], 10)
theorem tight_ok (G : GoodB m l) (hz : ce m l = 0) : To (fun n => chron_Tightest.f n m l) (OutS m (fw m m 0 (ini l))) := by
  have hm := G.n2
  obtain ⟨r, hr, hq⟩ := most_ev G
  have hc := check_ev m l
  rw [hz] at hc
  rcases both G with ⟨g, e, hS, _, _⟩ | ⟨e, _⟩
  · rw [e] at hq ⊢
    obtain ⟨q1, q2⟩ := hq
    obtain ⟨s, hs, hq⟩ := tight_l0 (by omega) q2 (stg_in G hS) m 0 (List.replicate m []) (by omega) ⟨List.length_replicate, fun a ha => by rw [getD_rep ha]; simp, fun a b ha hb => by omega⟩
    refine ⟨s, ?_, hq⟩
    unfold chron_Tightest.f
    refine ev_bind hc ?_
    simp only [if_true]
    refine ev_bind hr ?_
    simp only [q1, if_true]
    refine ev_step 0 (f := fun n => chron_Tightest.l0 n m r.1 (List.replicate m []) m ((0 : Nat) : Int)) (fun n => ?_) hs
    rw [if_pos (by omega), if_pos (by omega), Option.bind_some]
    show chron_Tightest.l0 n m r.1 (List.replicate m []) ((List.replicate m ([] : List S35)).length : Int) 0 = _
    rw [List.length_replicate]; rfl
  · rw [e] at hq ⊢
    refine ⟨([], 10), ?_, rfl⟩
    unfold chron_Tightest.f
    refine ev_bind hc ?_
    simp only [if_true]
    refine ev_bind hr ?_
    rw [show r = ([], false) from hq]
    exact ev_some 0 (fun n => by simp)
end
end Go.Proofs.Ytfbjpdiaicaagaa.ChrE
