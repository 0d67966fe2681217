/- Gauge: the loops of Check and of its reference, of normal, det, gcd and Fit. -/
import Derived.Test.YtjbiebobhnbajaaGaugeFitsn16
import Derived.Test.YtjbiebobhnbajaaGaugeFitsn3
import Derived.Test.YtjbiebobhnbajaaGaugeFitsn4
import Derived.Test.YtjbiebobhnbajaaGaugeFitsn8
import Derived.Test.YtjbiebobhnbajaaGaugeFitsn9
namespace Go.Proofs.Ytjbiebobhnbajaa.GauB
open Go.RowKit Go.Proofs.YtjbiebobhnbajaaW.PrintWords Go.Proofs.YtjbiebobhnbajaaW.PrintLast Go.Proofs.YtjbiebobhnbajaaW.PrintMore Go.Proofs.Ytjbiebobhnbajaa.Opn Go.Proofs.Ytjbiebobhnbajaa.PAll Go.Proofs.Ytjbiebobhnbajaa.Base Go.Proofs.Ytjbiebobhnbajaa.GauA
set_option linter.unusedVariables false
set_option linter.unusedSimpArgs false
theorem wn (i : Nat) (h : i ≤ 1000000) : wrap64 ((i : Int) + 1) = ((i + 1 : Nat) : Int) := by rw [w64 (by omega) (by omega)]; omega
theorem gset_eq {α : Type} {X : List α} {i : Nat} {y d : α} (h : i < X.length) : (X.set i y).getD i d = y := by
  rw [List.getD_eq_getElem?_getD, List.getElem?_set_self h]; rfl
theorem gset_ne {α : Type} {X : List α} {i j : Nat} {y d : α} (h : i ≠ j) : (X.set i y).getD j d = X.getD j d := by
  rw [List.getD_eq_getElem?_getD, List.getElem?_set_ne h, ← List.getD_eq_getElem?_getD]
theorem getD_rep {α : Type} {m k : Nat} {z d : α} (h : k < m) : (List.replicate m z).getD k d = z := by
  rw [List.getD_eq_getElem?_getD, List.getElem?_replicate, if_pos h]; rfl
theorem getD_in {α : Type} {l : List α} {i : Nat} {d : α} (h : i < l.length) : l.getD i d ∈ l := by
  rw [List.getD_eq_getElem?_getD, List.getElem?_eq_getElem h]; exact List.getElem_mem h
def ea (R : List (List Int)) (s j : Nat) : Int := (R.getD s []).getD j 0
def eh (H : List Int) (s : Nat) : Int := H.getD s 0
structure Gauged (R : List (List Int)) (H : List Int) (k : Nat) : Prop where
  n0 : 0 < R.length
  n8 : R.length ≤ 8
  hl : H.length = R.length
  kk : k = 1 ∨ k = 2 ∨ k = 3
  row : ∀ s, s < R.length → (R.getD s []).length = k
  ent : ∀ s j, s < R.length → j < k → bd (ea R s j) 10
  hgt : ∀ s, s < R.length → bd (eh H s) 1000
def out10 (x : Int) : Bool := decide (x < -10 ∨ x > 10)
def out1000 (x : Int) : Bool := decide (x < -1000 ∨ x > 1000)
def rE (H : List Int) (k : Nat) : List (List Int) → Nat → Int
  | [], _ => 0
  | r :: t, s => if r.length ≠ k then 8 else if r.any out10 = true then 3 else if out1000 (H.getD s 0) = true then 3 else rE H k t (s + 1)
def ge (R : List (List Int)) (H : List Int) : Int := if R.length > 8 then 2 else if R.length = 0 ∨ H.length ≠ R.length ∨ (R.getD 0 []).length = 0 ∨ (R.getD 0 []).length > 3 then 8 else rE H (R.getD 0 []).length R 0
theorem rE_zero {H : List Int} {k : Nat} : ∀ (t : List (List Int)) (s : Nat), rE H k t s = 0 → ∀ i, i < t.length → (t.getD i []).length = k ∧ (∀ x ∈ t.getD i [], out10 x = false) ∧ out1000 (H.getD (s + i) 0) = false
  | [], s, _, i, hi => by simp at hi
  | r :: t, s, h, i, hi => by
    rw [rE] at h
    by_cases c1 : r.length ≠ k
    · rw [if_pos c1] at h; omega
    · by_cases c2 : r.any out10 = true
      · rw [if_neg c1, if_pos c2] at h; omega
      · by_cases c3 : out1000 (H.getD s 0) = true
        · rw [if_neg c1, if_neg c2, if_pos c3] at h; omega
        · rw [if_neg c1, if_neg c2, if_neg c3] at h
          cases i with
          | zero =>
            refine ⟨by simpa using c1, fun x hx => ?_, by simpa using c3⟩
            have := List.any_eq_false.1 (by simpa using c2 : r.any out10 = false) x (by simpa using hx)
            simpa using this
          | succ i =>
            have := rE_zero t (s + 1) h i (by simp at hi; omega)
            rw [show s + 1 + i = s + (i + 1) by omega] at this
            simpa using this
theorem ge_zero {R : List (List Int)} {H : List Int} (h : ge R H = 0) : Gauged R H (R.getD 0 []).length := by
  unfold ge at h
  by_cases c1 : R.length > 8
  · rw [if_pos c1] at h; omega
  · by_cases c2 : R.length = 0 ∨ H.length ≠ R.length ∨ (R.getD 0 []).length = 0 ∨ (R.getD 0 []).length > 3
    · rw [if_neg c1, if_pos c2] at h; omega
    · rw [if_neg c1, if_neg c2] at h
      have z := rE_zero R 0 h
      refine ⟨by omega, by omega, by omega, by omega, fun s hs => (z s hs).1, fun s j hs hj => ?_, fun s hs => ?_⟩
      · have a := (z s hs).2.1 (ea R s j) (getD_in (by rw [(z s hs).1]; exact hj))
        unfold out10 at a
        have := of_decide_eq_false a
        exact bd_of (by omega) (by omega)
      · have a := (z s hs).2.2
        rw [Nat.zero_add] at a
        unfold out1000 at a
        have := of_decide_eq_false a
        exact bd_of (X := 1000) (by unfold eh; omega) (by unfold eh; omega)
theorem beyond10 (d : Int) : ephemerislaw2_beyond.f d 10 = some (out10 d) := by
  unfold ephemerislaw2_beyond.f out10
  rw [show wrap64 (-10) = -10 by decide +kernel]
  by_cases c : d < -10
  · rw [if_pos c]; simp [c]
  · rw [if_neg c]; simp [c]
theorem beyond1000 (d : Int) : ephemerislaw2_beyond.f d 1000 = some (out1000 d) := by
  unfold ephemerislaw2_beyond.f out1000
  rw [show wrap64 (-1000) = -1000 by decide +kernel]
  by_cases c : d < -1000
  · rw [if_pos c]; simp [c]
  · rw [if_neg c]; simp [c]
section
variable {R : List (List Int)} {H : List Int}
theorem chk_any {s : Nat} {r : List Int} (hrl : r.length ≤ 9223372036854775807) : ∀ (t : List Int) (c : Nat), r.drop c = t → t.any out10 = true → Ev (fun k => gauge_Check.l1 k R H s R (R.length : Int) s r (r.length : Int) c) 3 := by
  intro t
  induction t with
  | nil => intro c _ h; simp at h
  | cons x t ih =>
    intro c hd h1
    obtain ⟨hlt, hx, ht⟩ := drop_cons (l := r) (i := (c : Int)) 0 (by omega) (by simpa using hd)
    have hx' : rd r (c : Int) = x := hx
    have e1 : ((c : Int) + 1).toNat = c + 1 := by omega
    rw [e1] at ht
    have hw : wrap64 ((c : Int) + 1) = ((c + 1 : Nat) : Int) := by rw [w64 (by omega) (by omega)]; omega
    have hun : ∀ k, gauge_Check.l1 (k + 1) R H s R (R.length : Int) s r (r.length : Int) c = if out10 x = true then some 3 else gauge_Check.l1 k R H s R (R.length : Int) s r (r.length : Int) ((c + 1 : Nat) : Int) := by
      intro k
      rw [gauge_Check.l1, if_pos hlt, if_pos (by omega), if_pos hlt, hx', hw]
      unfold out10
      by_cases q : x < -10
      · rw [if_pos q, if_pos (decide_eq_true (Or.inl q))]
      · by_cases q2 : x > 10
        · rw [if_neg q, if_pos q2, if_pos (decide_eq_true (Or.inr q2))]
        · rw [if_neg q, if_neg q2, if_neg (by simp; omega)]
    by_cases q : out10 x = true
    · exact ev_some 1 (fun k => by rw [hun, if_pos q])
    · have q' : out10 x = false := by simpa using q
      rw [List.any_cons, q', Bool.false_or] at h1
      exact ev_step 1 (fun k => by rw [hun, if_neg q]) (ih (c + 1) ht h1)
theorem chk_l1 {b : Int} {s : Nat} (hs : s < H.length) (h8 : H.length ≤ 8) (hr : ∀ x ∈ R, x.length ≤ 9223372036854775807) {r : List Int} (hrl : r.length ≤ 9223372036854775807) (hN : out1000 (H.getD s 0) = false → Ev (fun k => gauge_Check.l0 k R H R (R.length : Int) ((s + 1 : Nat) : Int)) b) (hB : out1000 (H.getD s 0) = true → b = 3) : ∀ (t : List Int) (c : Nat), r.drop c = t → (t.any out10 = true → b = 3) → (t.any out10 = false → True) → (t.any out10 = true ∨ True) → Ev (fun k => gauge_Check.l1 k R H s R (R.length : Int) s r (r.length : Int) c) (if t.any out10 = true then 3 else b) := by
  intro t
  induction t with
  | nil =>
    intro c hd _ _ _
    have hle := drop_nil (l := r) (i := (c : Int)) (by omega) (by simpa using hd)
    show Ev _ b
    have e3 : rd H (s : Int) = H.getD s 0 := rfl
    by_cases q : out1000 (H.getD s 0) = true
    · rw [hB q]
      refine ev_some 1 (fun k => ?_)
      rw [gauge_Check.l1, if_neg (by omega), if_pos (by omega), if_pos (by omega), e3]
      unfold out1000 at q
      have q := of_decide_eq_true q
      by_cases z : H.getD s 0 < -1000
      · rw [if_pos z]
      · rw [if_neg z, if_pos (by omega)]
    · have q' : out1000 (H.getD s 0) = false := by simpa using q
      refine ev_step 1 (fun k => ?_) (hN q')
      rw [gauge_Check.l1, if_neg (by omega), if_pos (by omega), if_pos (by omega), e3]
      unfold out1000 at q'
      have q := of_decide_eq_false q'
      rw [if_neg (by omega), if_neg (by omega), wn s (by omega)]
  | cons x t ih =>
    intro c hd h1 _ _
    obtain ⟨hlt, hx, ht⟩ := drop_cons (l := r) (i := (c : Int)) 0 (by omega) (by simpa using hd)
    have hx' : rd r (c : Int) = x := hx
    have e1 : ((c : Int) + 1).toNat = c + 1 := by omega
    rw [e1] at ht
    have hw : wrap64 ((c : Int) + 1) = ((c + 1 : Nat) : Int) := by rw [w64 (by omega) (by omega)]; omega
    have hun : ∀ k, gauge_Check.l1 (k + 1) R H s R (R.length : Int) s r (r.length : Int) c = if out10 x = true then some 3 else gauge_Check.l1 k R H s R (R.length : Int) s r (r.length : Int) ((c + 1 : Nat) : Int) := by
      intro k
      rw [gauge_Check.l1, if_pos hlt, if_pos (by omega), if_pos hlt, hx', hw]
      unfold out10
      by_cases q : x < -10
      · rw [if_pos q, if_pos (decide_eq_true (Or.inl q))]
      · by_cases q2 : x > 10
        · rw [if_neg q, if_pos q2, if_pos (decide_eq_true (Or.inr q2))]
        · rw [if_neg q, if_neg q2, if_neg (by simp; omega)]
    rw [List.any_cons]
    by_cases q : out10 x = true
    · rw [q]
      exact ev_some 1 (fun k => by rw [hun, if_pos q]; rfl)
    · have q' : out10 x = false := by simpa using q
      rw [q', Bool.false_or]
      exact ev_step 1 (fun k => by rw [hun, if_neg q]) (ih (c + 1) ht (fun h => h1 (by rw [List.any_cons, h, Bool.or_true])) (fun _ => trivial) (Or.inr trivial))
theorem chk_l0 (h8 : R.length ≤ 8) (n0 : 0 < R.length) (hH : H.length = R.length) (hr : ∀ x ∈ R, x.length ≤ 9223372036854775807) : ∀ (t : List (List Int)) (s : Nat), R.drop s = t → Ev (fun k => gauge_Check.l0 k R H R (R.length : Int) s) (rE H (R.getD 0 []).length t s) := by
  intro t
  induction t with
  | nil =>
    intro s hd
    have hle := drop_nil (l := R) (i := (s : Int)) (by omega) (by simpa using hd)
    exact ev_some 1 (fun k => by rw [gauge_Check.l0, if_neg (by omega)]; rfl)
  | cons r t ih =>
    intro s hd
    obtain ⟨hlt, hx, ht⟩ := drop_cons (l := R) (i := (s : Int)) [] (by omega) (by simpa using hd)
    have hx' : rd_L1 R (s : Int) = r := hx
    have e1 : ((s : Int) + 1).toNat = s + 1 := by omega
    rw [e1] at ht
    have hmem : r ∈ R := drop_mem (i := s) hd
    have e0 : rd_L1 R 0 = R.getD 0 [] := rfl
    rw [rE]
    by_cases c1 : r.length ≠ (R.getD 0 []).length
    · rw [if_pos c1]
      exact ev_some 1 (fun k => by rw [gauge_Check.l0, if_pos hlt, if_pos (by omega), if_pos hlt, if_pos (by omega), hx', e0, if_neg (by omega)])
    · rw [if_neg c1]
      have h := chk_l1 (R := R) (H := H) (s := s) (b := if out1000 (H.getD s 0) = true then 3 else rE H (R.getD 0 []).length t (s + 1)) (by omega) (by omega) hr (r := r) (hr r hmem) (fun q => by rw [q, if_neg (by simp)]; exact ih (s + 1) ht) (fun q => by rw [if_pos q])
      by_cases c2 : r.any out10 = true
      · rw [if_pos c2]
        have h' : Ev (fun k => gauge_Check.l1 k R H s R (R.length : Int) s r (r.length : Int) ((0 : Nat) : Int)) 3 := by
          exact chk_any (R := R) (H := H) (s := s) (r := r) (hr r hmem) r 0 rfl c2
        exact ev_step 1 (fun k => by rw [gauge_Check.l0, if_pos hlt, if_pos (by omega), if_pos hlt, if_pos (by omega), hx', e0, if_pos (by omega)]; rfl) h'
      · have c2' : r.any out10 = false := by simpa using c2
        rw [if_neg c2]
        have h' := h r 0 rfl (fun q => by rw [c2'] at q; cases q) (fun _ => trivial) (Or.inr trivial)
        rw [c2', if_neg (by simp)] at h'
        exact ev_step 1 (fun k => by rw [gauge_Check.l0, if_pos hlt, if_pos (by omega), if_pos hlt, if_pos (by omega), hx', e0, if_pos (by omega)]; rfl) h'
theorem chk_ev (hr : ∀ x ∈ R, x.length ≤ 9223372036854775807) (hRl : R.length ≤ 9223372036854775807) (hHl : H.length ≤ 9223372036854775807) : Ev (fun k => gauge_Check.f k R H) (ge R H) := by
  have e0 : rd_L1 R 0 = R.getD 0 [] := rfl
  unfold ge gauge_Check.f
  by_cases c1 : R.length > 8
  · rw [if_pos c1]
    exact ev_some 0 (fun k => by rw [if_pos (by omega)])
  · rw [if_neg c1]
    by_cases c2 : R.length = 0
    · rw [if_pos (Or.inl c2)]
      exact ev_some 1 (fun k => by rw [if_neg (by omega), if_pos (by omega), gauge_Check.j0, if_pos rfl])
    · by_cases c3 : H.length = R.length
      · by_cases c4 : (R.getD 0 []).length = 0
        · rw [if_pos (by omega)]
          exact ev_some 1 (fun k => by rw [if_neg (by omega), if_neg (by omega), if_pos (by omega), if_pos (by omega), e0, if_pos (by omega), gauge_Check.j0, if_pos rfl])
        · by_cases c5 : (R.getD 0 []).length > 3
          · rw [if_pos (by omega)]
            exact ev_some 1 (fun k => by rw [if_neg (by omega), if_neg (by omega), if_pos (by omega), if_pos (by omega), e0, if_neg (by omega), decide_eq_true (by omega), gauge_Check.j0, if_pos rfl])
          · rw [if_neg (by omega)]
            exact ev_step 1 (fun k => by rw [if_neg (by omega), if_neg (by omega), if_pos (by omega), if_pos (by omega), e0, if_neg (by omega), decide_eq_false (by omega), gauge_Check.j0, if_neg (by simp)]; rfl) (chk_l0 (by omega) (by omega) c3 hr R 0 rfl)
      · rw [if_pos (by omega)]
        exact ev_some 1 (fun k => by rw [if_neg (by omega), if_neg (by omega), if_neg (by omega), gauge_Check.j0, if_pos rfl])
theorem err_any {s : Nat} {r : List Int} (hrl : r.length ≤ 9223372036854775807) : ∀ (t : List Int) (c : Nat), r.drop c = t → t.any out10 = true → Ev (fun k => ephemerislaw2_gaugeErr.l1 k R H s R (R.length : Int) s r (r.length : Int) c) 3 := by
  intro t
  induction t with
  | nil => intro c _ h; simp at h
  | cons x t ih =>
    intro c hd h1
    obtain ⟨hlt, hx, ht⟩ := drop_cons (l := r) (i := (c : Int)) 0 (by omega) (by simpa using hd)
    have hx' : rd r (c : Int) = x := hx
    have e1 : ((c : Int) + 1).toNat = c + 1 := by omega
    rw [e1] at ht
    have hw : wrap64 ((c : Int) + 1) = ((c + 1 : Nat) : Int) := by rw [w64 (by omega) (by omega)]; omega
    have hun : ∀ k, ephemerislaw2_gaugeErr.l1 (k + 1) R H s R (R.length : Int) s r (r.length : Int) c = if out10 x = true then some 3 else ephemerislaw2_gaugeErr.l1 k R H s R (R.length : Int) s r (r.length : Int) ((c + 1 : Nat) : Int) := by
      intro k
      rw [ephemerislaw2_gaugeErr.l1, if_pos hlt, if_pos (by omega), if_pos hlt, hx', hw]
      rw [beyond10, Option.bind_some]
    by_cases q : out10 x = true
    · exact ev_some 1 (fun k => by rw [hun, if_pos q])
    · have q' : out10 x = false := by simpa using q
      rw [List.any_cons, q', Bool.false_or] at h1
      exact ev_step 1 (fun k => by rw [hun, if_neg q]) (ih (c + 1) ht h1)
theorem err_l1 {b : Int} {s : Nat} (hs : s < H.length) (h8 : H.length ≤ 8) (hr : ∀ x ∈ R, x.length ≤ 9223372036854775807) {r : List Int} (hrl : r.length ≤ 9223372036854775807) (hN : out1000 (H.getD s 0) = false → Ev (fun k => ephemerislaw2_gaugeErr.l0 k R H R (R.length : Int) ((s + 1 : Nat) : Int)) b) (hB : out1000 (H.getD s 0) = true → b = 3) : ∀ (t : List Int) (c : Nat), r.drop c = t → (t.any out10 = true → b = 3) → (t.any out10 = false → True) → (t.any out10 = true ∨ True) → Ev (fun k => ephemerislaw2_gaugeErr.l1 k R H s R (R.length : Int) s r (r.length : Int) c) (if t.any out10 = true then 3 else b) := by
  intro t
  induction t with
  | nil =>
    intro c hd _ _ _
    have hle := drop_nil (l := r) (i := (c : Int)) (by omega) (by simpa using hd)
    show Ev _ b
    have e3 : rd H (s : Int) = H.getD s 0 := rfl
    by_cases q : out1000 (H.getD s 0) = true
    · rw [hB q]
      refine ev_some 1 (fun k => ?_)
      rw [ephemerislaw2_gaugeErr.l1, if_neg (by omega), if_pos (by omega), if_pos (by omega), e3]
      rw [beyond1000, Option.bind_some, if_pos q]
    · have q' : out1000 (H.getD s 0) = false := by simpa using q
      refine ev_step 1 (fun k => ?_) (hN q')
      rw [ephemerislaw2_gaugeErr.l1, if_neg (by omega), if_pos (by omega), if_pos (by omega), e3]
      rw [beyond1000, Option.bind_some, if_neg q, wn s (by omega)]
  | cons x t ih =>
    intro c hd h1 _ _
    obtain ⟨hlt, hx, ht⟩ := drop_cons (l := r) (i := (c : Int)) 0 (by omega) (by simpa using hd)
    have hx' : rd r (c : Int) = x := hx
    have e1 : ((c : Int) + 1).toNat = c + 1 := by omega
    rw [e1] at ht
    have hw : wrap64 ((c : Int) + 1) = ((c + 1 : Nat) : Int) := by rw [w64 (by omega) (by omega)]; omega
    have hun : ∀ k, ephemerislaw2_gaugeErr.l1 (k + 1) R H s R (R.length : Int) s r (r.length : Int) c = if out10 x = true then some 3 else ephemerislaw2_gaugeErr.l1 k R H s R (R.length : Int) s r (r.length : Int) ((c + 1 : Nat) : Int) := by
      intro k
      rw [ephemerislaw2_gaugeErr.l1, if_pos hlt, if_pos (by omega), if_pos hlt, hx', hw]
      rw [beyond10, Option.bind_some]
    rw [List.any_cons]
    by_cases q : out10 x = true
    · rw [q]
      exact ev_some 1 (fun k => by rw [hun, if_pos q]; rfl)
    · have q' : out10 x = false := by simpa using q
      rw [q', Bool.false_or]
      exact ev_step 1 (fun k => by rw [hun, if_neg q]) (ih (c + 1) ht (fun h => h1 (by rw [List.any_cons, h, Bool.or_true])) (fun _ => trivial) (Or.inr trivial))
theorem err_l0 (h8 : R.length ≤ 8) (n0 : 0 < R.length) (hH : H.length = R.length) (hr : ∀ x ∈ R, x.length ≤ 9223372036854775807) : ∀ (t : List (List Int)) (s : Nat), R.drop s = t → Ev (fun k => ephemerislaw2_gaugeErr.l0 k R H R (R.length : Int) s) (rE H (R.getD 0 []).length t s) := by
  intro t
  induction t with
  | nil =>
    intro s hd
    have hle := drop_nil (l := R) (i := (s : Int)) (by omega) (by simpa using hd)
    exact ev_some 1 (fun k => by rw [ephemerislaw2_gaugeErr.l0, if_neg (by omega)]; rfl)
  | cons r t ih =>
    intro s hd
    obtain ⟨hlt, hx, ht⟩ := drop_cons (l := R) (i := (s : Int)) [] (by omega) (by simpa using hd)
    have hx' : rd_L1 R (s : Int) = r := hx
    have e1 : ((s : Int) + 1).toNat = s + 1 := by omega
    rw [e1] at ht
    have hmem : r ∈ R := drop_mem (i := s) hd
    have e0 : rd_L1 R 0 = R.getD 0 [] := rfl
    rw [rE]
    by_cases c1 : r.length ≠ (R.getD 0 []).length
    · rw [if_pos c1]
      exact ev_some 1 (fun k => by rw [ephemerislaw2_gaugeErr.l0, if_pos hlt, if_pos (by omega), if_pos hlt, if_pos (by omega), hx', e0, if_neg (by omega)])
    · rw [if_neg c1]
      have h := err_l1 (R := R) (H := H) (s := s) (b := if out1000 (H.getD s 0) = true then 3 else rE H (R.getD 0 []).length t (s + 1)) (by omega) (by omega) hr (r := r) (hr r hmem) (fun q => by rw [q, if_neg (by simp)]; exact ih (s + 1) ht) (fun q => by rw [if_pos q])
      by_cases c2 : r.any out10 = true
      · rw [if_pos c2]
        have h' : Ev (fun k => ephemerislaw2_gaugeErr.l1 k R H s R (R.length : Int) s r (r.length : Int) ((0 : Nat) : Int)) 3 := by
          exact err_any (R := R) (H := H) (s := s) (r := r) (hr r hmem) r 0 rfl c2
        exact ev_step 1 (fun k => by rw [ephemerislaw2_gaugeErr.l0, if_pos hlt, if_pos (by omega), if_pos hlt, if_pos (by omega), hx', e0, if_pos (by omega)]; rfl) h'
      · have c2' : r.any out10 = false := by simpa using c2
        rw [if_neg c2]
        have h' := h r 0 rfl (fun q => by rw [c2'] at q; cases q) (fun _ => trivial) (Or.inr trivial)
        rw [c2', if_neg (by simp)] at h'
        exact ev_step 1 (fun k => by rw [ephemerislaw2_gaugeErr.l0, if_pos hlt, if_pos (by omega), if_pos hlt, if_pos (by omega), hx', e0, if_pos (by omega)]; rfl) h'
theorem err_ev (hr : ∀ x ∈ R, x.length ≤ 9223372036854775807) (hRl : R.length ≤ 9223372036854775807) (hHl : H.length ≤ 9223372036854775807) : Ev (fun k => ephemerislaw2_gaugeErr.f k R H) (ge R H) := by
  have e0 : rd_L1 R 0 = R.getD 0 [] := rfl
  unfold ge ephemerislaw2_gaugeErr.f
  by_cases c1 : R.length > 8
  · rw [if_pos c1]
    exact ev_some 0 (fun k => by rw [if_pos (by omega)])
  · rw [if_neg c1]
    by_cases c2 : R.length = 0
    · rw [if_pos (Or.inl c2)]
      exact ev_some 1 (fun k => by rw [if_neg (by omega), if_pos (by omega), ephemerislaw2_gaugeErr.j0, if_pos rfl])
    · by_cases c3 : H.length = R.length
      · by_cases c4 : (R.getD 0 []).length = 0
        · rw [if_pos (by omega)]
          exact ev_some 1 (fun k => by rw [if_neg (by omega), if_neg (by omega), if_pos (by omega), if_pos (by omega), e0, if_pos (by omega), ephemerislaw2_gaugeErr.j0, if_pos rfl])
        · by_cases c5 : (R.getD 0 []).length > 3
          · rw [if_pos (by omega)]
            exact ev_some 1 (fun k => by rw [if_neg (by omega), if_neg (by omega), if_pos (by omega), if_pos (by omega), e0, if_neg (by omega), decide_eq_true (by omega), ephemerislaw2_gaugeErr.j0, if_pos rfl])
          · rw [if_neg (by omega)]
            exact ev_step 1 (fun k => by rw [if_neg (by omega), if_neg (by omega), if_pos (by omega), if_pos (by omega), e0, if_neg (by omega), decide_eq_false (by omega), ephemerislaw2_gaugeErr.j0, if_neg (by simp)]; rfl) (err_l0 (by omega) (by omega) c3 hr R 0 rfl)
      · rw [if_pos (by omega)]
        exact ev_some 1 (fun k => by rw [if_neg (by omega), if_neg (by omega), if_neg (by omega), ephemerislaw2_gaugeErr.j0, if_pos rfl])
end
section
variable {R : List (List Int)} {H : List Int} {k : Nat}
structure NS (R : List (List Int)) (H : List Int) (k : Nat) (X : List (List Int)) (i : Nat) (F : Nat → Int) : Prop where
  len : X.length = k
  done : ∀ i', i' < i → (X.getD i' []).length = k + 1 ∧ (∀ j, j < k → (X.getD i' []).getD j 0 = gm (ea R) R.length i' j) ∧ (X.getD i' []).getD k 0 = bv (ea R) (eh H) R.length i'
  cl : (X.getD i []).length = k + 1
  cur : ∀ j, j ≤ k → (X.getD i []).getD j 0 = F j
theorem NS.congr {X : List (List Int)} {i : Nat} {F F' : Nat → Int} (h : NS R H k X i F) (e : ∀ j, j ≤ k → F j = F' j) : NS R H k X i F' := ⟨h.len, h.done, h.cl, fun j hj => (h.cur j hj).trans (e j hj)⟩
theorem NS.put {X : List (List Int)} {i : Nat} {F : Nat → Int} (h : NS R H k X i F) (hi : i < k) {j : Nat} (hj : j ≤ k) (v : Int) : NS R H k (X.set i ((X.getD i []).set j v)) i (fun q => if q = j then v else F q) := by
  have hl := h.len
  refine ⟨by rw [List.length_set]; exact hl, fun i' hi' => ?_, ?_, fun q hq => ?_⟩
  · rw [gset_ne (by omega)]; exact h.done i' hi'
  · rw [gset_eq (by omega), List.length_set]; exact h.cl
  · rw [gset_eq (by omega)]
    by_cases c : q = j
    · subst c; rw [gset_eq (by rw [h.cl]; omega), if_pos rfl]
    · rw [gset_ne (fun e => c e.symm), if_neg c]; exact h.cur q hq
def To {α : Type} (g : Nat → Option α) (Q : α → Prop) : Prop := ∃ r, Ev g r ∧ Q r
theorem to_step {α : Type} {g f : Nat → Option α} {Q : α → Prop} (n : Nat) (h : ∀ k, g (k + n) = f k) : To f Q → To g Q := fun ⟨r, hr, hq⟩ => ⟨r, ev_step n h hr, hq⟩
theorem to_some {α : Type} {g : Nat → Option α} {Q : α → Prop} {r : α} (n : Nat) (h : ∀ k, g (k + n) = some r) (hq : Q r) : To g Q := ⟨r, ev_some n h, hq⟩
theorem gm_bd (G : Gauged R H k) {n i j : Nat} (hn : n ≤ R.length) (hi : i < k) (hj : j < k) : bd (gm (ea R) n i j) 800 := by
  have n8 := G.n8
  exact bd_le (bd_sumN (B := 10 * 10) n (fun s hs => bd_mul (G.ent s i (by omega) hi) (G.ent s j (by omega) hj))) (by omega)
theorem bv_bd (G : Gauged R H k) {n i : Nat} (hn : n ≤ R.length) (hi : i < k) : bd (bv (ea R) (eh H) n i) 80000 := by
  have n8 := G.n8
  exact bd_le (bd_sumN (B := 10 * 1000) n (fun s hs => bd_mul (G.ent s i (by omega) hi) (G.hgt s (by omega)))) (by omega)
def FS (R : List (List Int)) (H : List Int) (k i s j : Nat) : Nat → Int := fun q => if q < j then gm (ea R) (s + 1) i q else if q < k then gm (ea R) s i q else bv (ea R) (eh H) s i
theorem nor_l2 (G : Gauged R H k) {Q : List (List Int) → Prop} {i s : Nat} (hi : i < k) (hs : s < R.length) : ∀ (r j : Nat) (X : List (List Int)), j + r = k → NS R H k X i (FS R H k i s j) → (∀ X', NS R H k X' i (FS R H k i (s + 1) 0) → To (fun n => gauge_normal.l1 n R H k X' i k i R (R.length : Int) ((s + 1 : Nat) : Int)) Q) →
    To (fun n => gauge_normal.l2 n R H k X i s (rd_L1 R (s : Int)) k i R (R.length : Int) s k j) Q := by
  have n8 := G.n8
  have kk := G.kk
  have rl : ((rd_L1 R (s : Int)).length : Int) = k := by
    have := G.row s hs
    show ((R.getD s []).length : Int) = k
    omega
  have hhl := G.hl
  intro r
  induction r with
  | zero =>
    intro j X hj h hc
    obtain rfl : j = k := by omega
    have hl := h.len
    have xl : ((rd_L1 X (i : Int)).length : Int) = (j : Int) + 1 := by
      have := h.cl
      show ((X.getD i []).length : Int) = _
      omega
    have e1 : rd (rd_L1 X (i : Int)) (j : Int) = bv (ea R) (eh H) s i := by
      have := h.cur j (Nat.le_refl _)
      unfold FS at this
      rw [if_neg (by omega), if_neg (by omega)] at this
      exact this
    have e2 : rd (rd_L1 R (s : Int)) (i : Int) = ea R s i := rfl
    have e3 : rd H (s : Int) = eh H s := rfl
    have b1 := bv_bd G (n := s) (i := i) (by omega) hi
    have b2 := bd_mul (G.ent s i hs hi) (G.hgt s hs)
    have hp := h.put hi (Nat.le_refl _) (bv (ea R) (eh H) s i + ea R s i * eh H s)
    refine to_step 1 (fun n => ?_) (hc _ (hp.congr (fun q hq => ?_)))
    · rw [gauge_normal.l2, if_neg (by omega), if_pos (by omega), if_pos (by omega), if_pos (by omega), if_pos (by omega), if_pos (by omega), if_pos (by omega), if_pos (by omega), e1, e2, e3, wb b2 (by decide), wb (bd_add b1 b2) (by decide), wn s (by omega)]
      rfl
    · unfold FS
      by_cases c : q = j
      · rw [if_pos c, if_neg (by omega), if_neg (by omega)]; rfl
      · rw [if_neg c, if_pos (by omega), if_neg (by omega), if_pos (by omega)]
  | succ r ih =>
    intro j X hj h hc
    have hl := h.len
    have xl : ((rd_L1 X (i : Int)).length : Int) = (k : Int) + 1 := by
      have := h.cl
      show ((X.getD i []).length : Int) = _
      omega
    have e1 : rd (rd_L1 X (i : Int)) (j : Int) = gm (ea R) s i j := by
      have := h.cur j (by omega)
      unfold FS at this
      rw [if_neg (by omega), if_pos (by omega)] at this
      exact this
    have e2 : rd (rd_L1 R (s : Int)) (i : Int) = ea R s i := rfl
    have e3 : rd (rd_L1 R (s : Int)) (j : Int) = ea R s j := rfl
    have b1 := gm_bd G (n := s) (i := i) (j := j) (by omega) hi (by omega)
    have b2 := bd_mul (G.ent s i hs hi) (G.ent s j hs (by omega))
    have hp := h.put hi (show j ≤ k by omega) (gm (ea R) s i j + ea R s i * ea R s j)
    refine to_step 1 (fun n => ?_) (ih (j + 1) _ (by omega) (hp.congr (fun q hq => ?_)) hc)
    · rw [gauge_normal.l2, if_pos (by omega), if_pos (by omega), if_pos (by omega), if_pos (by omega), if_pos (by omega), if_pos (by omega), if_pos (by omega), e1, e2, e3, wb b2 (by decide), wb (bd_add b1 b2) (by decide), wn j (by omega)]
      rfl
    · unfold FS
      by_cases c : q = j
      · rw [if_pos c, if_pos (by omega), c]; rfl
      · rw [if_neg c]
        by_cases c2 : q < j
        · rw [if_pos c2, if_pos (by omega)]
        · rw [if_neg c2, if_neg (show ¬ q < j + 1 by omega)]
theorem nor_l1 (G : Gauged R H k) {Q : List (List Int) → Prop} {i : Nat} (hi : i < k) : ∀ (r s : Nat) (X : List (List Int)), s + r = R.length → NS R H k X i (FS R H k i s 0) → (∀ X', NS R H k X' i (FS R H k i R.length 0) → To (fun n => gauge_normal.l0 n R H k X' k ((i + 1 : Nat) : Int)) Q) →
    To (fun n => gauge_normal.l1 n R H k X i k i R (R.length : Int) s) Q := by
  have n8 := G.n8
  have kk := G.kk
  intro r
  induction r with
  | zero =>
    intro s X hs h hc
    obtain rfl : s = R.length := by omega
    exact to_step 1 (fun n => by rw [gauge_normal.l1, if_neg (by omega), wn i (by omega)]) (hc X h)
  | succ r ih =>
    intro s X hs h hc
    exact to_step 1 (fun n => by rw [gauge_normal.l1, if_pos (by omega), if_pos (by omega), if_pos (by omega)]; rfl) (nor_l2 G hi (show s < R.length by omega) k 0 X (by omega) h (fun X' h' => ih (s + 1) X' (by omega) h' hc))
/-- the matrix -/
structure MR (R : List (List Int)) (H : List Int) (k : Nat) (X : List (List Int)) : Prop where
  len : X.length = k
  row : ∀ i, i < k → (X.getD i []).length = k + 1
  mat : ∀ i j, i < k → j < k → (X.getD i []).getD j 0 = gm (ea R) R.length i j
  vec : ∀ i, i < k → (X.getD i []).getD k 0 = bv (ea R) (eh H) R.length i
theorem nor_l0 (G : Gauged R H k) : ∀ (r i : Nat) (X : List (List Int)), i + r = k → X.length = k → (∀ i', i' < i → (X.getD i' []).length = k + 1 ∧ (∀ j, j < k → (X.getD i' []).getD j 0 = gm (ea R) R.length i' j) ∧ (X.getD i' []).getD k 0 = bv (ea R) (eh H) R.length i') → To (fun n => gauge_normal.l0 n R H k X k i) (MR R H k) := by
  have n8 := G.n8
  have kk := G.kk
  intro r
  induction r with
  | zero =>
    intro i X hi hl h
    obtain rfl : i = k := by omega
    exact to_some 1 (fun n => by rw [gauge_normal.l0, if_neg (by omega)]) ⟨hl, fun i' hi' => (h i' hi').1, fun i' j hi' hj => (h i' hi').2.1 j hj, fun i' hi' => (h i' hi').2.2⟩
  | succ r ih =>
    intro i X hi hl h
    have hw : wrap64 ((k : Int) + 1) = ((k + 1 : Nat) : Int) := wn k (by omega)
    have hX : NS R H k (X.set i (List.replicate (k + 1) 0)) i (FS R H k i 0 0) := by
      refine ⟨by rw [List.length_set]; exact hl, fun i' hi' => by rw [gset_ne (by omega)]; exact h i' hi', by rw [gset_eq (by omega), List.length_replicate], fun j hj => ?_⟩
      rw [gset_eq (by omega), getD_rep (by omega)]
      unfold FS
      rw [if_neg (by omega)]
      split <;> rfl
    refine to_step 1 (fun n => ?_) (nor_l1 G (show i < k by omega) R.length 0 _ (by omega) hX (fun X' h' => ih (i + 1) X' (by omega) h'.len (fun i' hi' => ?_)))
    · rw [gauge_normal.l0, if_pos (by omega), hw, if_pos (by omega), if_pos (by omega), if_pos (by omega), if_pos (by omega), Int.toNat_natCast]
      rfl
    · by_cases c : i' = i
      · subst c
        refine ⟨h'.cl, fun j hj => ?_, ?_⟩
        · rw [h'.cur j (by omega)]; unfold FS; rw [if_neg (by omega), if_pos hj]
        · rw [h'.cur k (Nat.le_refl _)]; unfold FS; rw [if_neg (by omega), if_neg (by omega)]
      · exact h'.done i' (by omega)
theorem normal_ev (G : Gauged R H k) : To (fun n => gauge_normal.f n R H) (MR R H k) := by
  have kk := G.kk
  have n0 := G.n0
  have r0 : ((rd_L1 R 0).length : Int) = k := by
    have := G.row 0 G.n0
    show ((R.getD 0 []).length : Int) = k
    omega
  refine to_step 0 (fun n => ?_) (nor_l0 G k 0 (List.replicate k []) (by omega) List.length_replicate (fun i' hi' => by omega))
  show gauge_normal.f n R H = _
  unfold gauge_normal.f
  rw [r0, if_pos (by omega), if_pos (by omega), if_pos (by omega), Option.bind_some, Int.toNat_natCast]
  show gauge_normal.l0 n R H k (List.replicate k []) ((List.replicate k ([] : List Int)).length : Int) 0 = _
  rw [List.length_replicate]; rfl
end
end Go.Proofs.Ytjbiebobhnbajaa.GauB
