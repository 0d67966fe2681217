/- AgreeOutsides: Outside lists the intervals that do not meet that of Most, for every list of intervals. -/
import Derived.Test.YtcmgfhfnfkelfaaOpnAgreeOutsides
import Derived.Test.YtcmgfhfnfkelfaaBase
namespace Go.Proofs.Ytcmgfhfnfkelfaa.Pure
open Go.RowKit Go.Proofs.YtcmgfhfnfkelfaaW.PrintWords Go.Proofs.YtcmgfhfnfkelfaaW.PrintLast Go.Proofs.Ytcmgfhfnfkelfaa.Opn Go.Proofs.Ytcmgfhfnfkelfaa.PAgreeOutsides Go.Proofs.Ytcmgfhfnfkelfaa.Base
set_option linter.unusedVariables false
set_option linter.unusedSimpArgs false

theorem ilt_or (a b : Int) : a < b ∨ b ≤ a := by omega
/-- What a pair of bounds is found to be. -/
def sp (a b : Int) : Int := if a < -1000000000000000000 ∨ a > 1000000000000000000 ∨ b < -1000000000000000000 ∨ b > 1000000000000000000 then 3 else if b < a then 9 else 0
theorem sp_zero {a b : Int} (h : sp a b = 0) : -1000000000000000000 ≤ a ∧ a ≤ b ∧ b ≤ 1000000000000000000 := by
  unfold sp at h
  split at h
  · cases h
  · split at h
    · cases h
    · omega
theorem interval_Check_at (k : Nat) (a b : Int) : interval_Check.f (k + 1) a b = some (sp a b) := by
  unfold interval_Check.f interval_out.f sp
  by_cases c1 : a < -1000000000000000000
  · simp [c1, interval_Check.j0]
  by_cases c2 : a > 1000000000000000000
  · simp [c1, c2, interval_Check.j0]
  by_cases c3 : b < -1000000000000000000
  · simp [c1, c2, c3, interval_Check.j0]
  by_cases c4 : b > 1000000000000000000
  · simp [c1, c2, c3, c4, interval_Check.j0]
  by_cases c5 : b < a
  · simp [c1, c2, c3, c4, c5, interval_Check.j0]
  · simp [c1, c2, c3, c4, c5, interval_Check.j0]
theorem interval_Check_ev (a b : Int) : Ev (fun k => interval_Check.f k a b) (sp a b) := ev_some 1 fun k => interval_Check_at k a b
/-- What intervals are found to be. -/
def ssL : List S36 → Int
  | [] => 0
  | s :: t => if sp s.f0 s.f1 = 0 then ssL t else sp s.f0 s.f1
def ss (l : List S36) : Int := if (l.length : Int) > 40 then 2 else if (l.length : Int) = 0 then 6 else ssL l
theorem ssL_zero : ∀ {l : List S36}, ssL l = 0 → ∀ s ∈ l, sp s.f0 s.f1 = 0
  | [], _, _, h => by cases h
  | s :: t, h, q, hq => by
    unfold ssL at h
    split at h
    · rename_i c
      rcases List.mem_cons.1 hq with rfl | hq
      · exact c
      · exact ssL_zero h q hq
    · rename_i c; exact absurd h c
theorem ss_zero {l : List S36} (h : ss l = 0) : l.length ≤ 40 ∧ l ≠ [] ∧ ∀ s ∈ l, -1000000000000000000 ≤ s.f0 ∧ s.f0 ≤ s.f1 ∧ s.f1 ≤ 1000000000000000000 := by
  unfold ss at h
  split at h
  · cases h
  · split at h
    · cases h
    · rename_i c1 c2
      refine ⟨by omega, fun e => by subst e; simp at c2, fun s hs => sp_zero (ssL_zero h s hs)⟩
theorem agreeCheck_loop (l : List S36) (hl : l.length ≤ 40) : ∀ (t : List S36) (i : Int), 0 ≤ i → l.drop i.toNat = t → Ev (fun k => agree_Check.l0 k l (l.length : Int) i) (ssL t) := by
  intro t
  induction t with
  | nil =>
    intro i h0 hd
    have hle := drop_nil h0 hd
    exact ev_some 1 fun k => by rw [agree_Check.l0, if_neg (by omega)]; rfl
  | cons s t ih =>
    intro i h0 hd
    obtain ⟨hlt, hs, ht⟩ := drop_cons z36 h0 hd
    have hs' : rd_T36 l i = s := hs
    have a9 : wrap64 (i + 1) = i + 1 := w64 (by omega) (by omega)
    have hun : ∀ k, agree_Check.l0 (k + 2) l (l.length : Int) i = (if sp s.f0 s.f1 = 0 then agree_Check.l0 (k + 1) l (l.length : Int) (i + 1) else some (sp s.f0 s.f1)) := by
      intro k
      rw [agree_Check.l0, if_pos hlt, if_pos h0, if_pos hlt, hs', interval_Check_at, Option.bind_some, a9]
    unfold ssL
    by_cases c : sp s.f0 s.f1 = 0
    · rw [if_pos c]
      obtain ⟨K, hK⟩ := ih (i + 1) (by omega) ht
      exact ⟨K + 2, fun k hk => by obtain ⟨m, rfl⟩ : ∃ m, k = m + 2 := ⟨k - 2, by omega⟩; simp only [hun, if_pos c]; exact hK _ (by omega)⟩
    · rw [if_neg c]
      exact ev_some 2 fun k => by rw [hun, if_neg c]
theorem agree_Check_ev (l : List S36) : Ev (fun k => agree_Check.f k l) (ss l) := by
  unfold agree_Check.f ss
  by_cases c1 : (l.length : Int) > 40
  · simp only [if_pos c1]; exact ⟨0, fun _ _ => rfl⟩
  · by_cases c2 : (l.length : Int) = 0
    · simp only [if_neg c1, if_pos c2]; exact ⟨0, fun _ _ => rfl⟩
    · simp only [if_neg c1, if_neg c2]; exact agreeCheck_loop l (by omega) l 0 (by omega) rfl
/-- Does an interval contain a number? -/
def inB (x : Int) (s : S36) : Bool := decide (s.f0 ≤ x) && decide (x ≤ s.f1)
theorem inB_iff {x : Int} {s : S36} : inB x s = true ↔ s.f0 ≤ x ∧ x ≤ s.f1 := by simp [inB]
/-- How many intervals contain a number. -/
def cov (l : List S36) (x : Int) : Int := (l.countP (inB x) : Int)
theorem cov_cons (s : S36) (t : List S36) (x : Int) : cov (s :: t) x = cov t x + (if s.f0 ≤ x ∧ x ≤ s.f1 then 1 else 0) := by
  unfold cov
  rw [List.countP_cons]
  by_cases c : s.f0 ≤ x ∧ x ≤ s.f1
  · rw [if_pos c, if_pos (inB_iff.2 c)]; omega
  · rw [if_neg c, if_neg (fun h => c (inB_iff.1 h))]; omega
theorem cov_nonneg (l : List S36) (x : Int) : 0 ≤ cov l x := by unfold cov; omega
theorem cov_le (l : List S36) (x : Int) : cov l x ≤ l.length := by unfold cov; have := List.countP_le_length (p := inB x) (l := l); omega
/-- Where all that contain x contain y, y is in as many. -/
theorem cov_mono (l : List S36) {x y : Int} (h : ∀ s ∈ l, s.f0 ≤ x ∧ x ≤ s.f1 → s.f0 ≤ y ∧ y ≤ s.f1) : cov l x ≤ cov l y := by
  unfold cov
  have := List.countP_mono_left (l := l) (p := inB x) (q := inB y) (fun s hs hx => inB_iff.2 (h s hs (inB_iff.1 hx)))
  omega
/-- .. and in more, if one contains y alone. -/
theorem cov_lt : ∀ (l : List S36) {x y : Int}, (∀ s ∈ l, s.f0 ≤ x ∧ x ≤ s.f1 → s.f0 ≤ y ∧ y ≤ s.f1) → ∀ s ∈ l, (s.f0 ≤ y ∧ y ≤ s.f1) → ¬ (s.f0 ≤ x ∧ x ≤ s.f1) → cov l x < cov l y
  | [], _, _, _, _, hs, _, _ => by cases hs
  | q :: t, x, y, h, s, hs, h1, h2 => by
    rw [cov_cons, cov_cons]
    have hm := cov_mono t (fun s hs => h s (List.mem_cons_of_mem _ hs))
    rcases List.mem_cons.1 hs with rfl | hs
    · rw [if_neg h2, if_pos h1]; omega
    · have := cov_lt t (fun s hs => h s (List.mem_cons_of_mem _ hs)) s hs h1 h2
      have hq := h q List.mem_cons_self
      by_cases c : q.f0 ≤ x ∧ x ≤ q.f1
      · rw [if_pos c, if_pos (hq c)]; omega
      · rw [if_neg c]; split <;> omega
theorem cov_pos {l : List S36} {x : Int} (h : 0 < cov l x) : ∃ s ∈ l, s.f0 ≤ x ∧ x ≤ s.f1 := by
  unfold cov at h
  obtain ⟨s, hs, hp⟩ := List.countP_pos_iff.1 (show 0 < l.countP (inB x) by omega)
  exact ⟨s, hs, inB_iff.1 hp⟩
theorem cov_one {l : List S36} {x : Int} {s : S36} (hs : s ∈ l) (h : s.f0 ≤ x ∧ x ≤ s.f1) : 0 < cov l x := by
  unfold cov
  have := List.countP_pos_iff.2 ⟨s, hs, inB_iff.2 h⟩
  omega

/-- How many of a suffix contain a number, and the least upper bound of these. -/
def many (x : Int) : Int → Int → List S36 → Int × Int
  | n, hi, [] => (n, hi)
  | n, hi, s :: t => if s.f0 ≤ x ∧ x ≤ s.f1 then many x (n + 1) (if n = 0 then s.f1 else if s.f1 < hi then s.f1 else hi) t else many x n hi t
theorem many_fst (x : Int) : ∀ (t : List S36) (n hi : Int), (many x n hi t).1 = n + cov t x
  | [], n, hi => by simp [many, cov]
  | s :: t, n, hi => by
    unfold many
    rw [cov_cons]
    split
    · rw [many_fst x t]; omega
    · rw [many_fst x t]; omega
theorem many_snd (x : Int) : ∀ (t : List S36) (n hi : Int), 0 ≤ n → (∀ s ∈ t, s.f0 ≤ x ∧ x ≤ s.f1 → (many x n hi t).2 ≤ s.f1) ∧ (0 < n → (many x n hi t).2 ≤ hi) ∧ ((0 < n ∧ (many x n hi t).2 = hi) ∨ (n + cov t x = 0) ∨ ∃ s ∈ t, (s.f0 ≤ x ∧ x ≤ s.f1) ∧ (many x n hi t).2 = s.f1)
  | [], n, hi, h => by
    refine ⟨fun s hs => (by cases hs), fun _ => Int.le_refl _, ?_⟩
    rcases ilt_or 0 n with h1 | h1
    · left; exact ⟨h1, rfl⟩
    · right; left; simp only [cov, List.countP_nil]; omega
  | s :: t, n, hi, h => by
    unfold many
    by_cases c : s.f0 ≤ x ∧ x ≤ s.f1
    · rw [if_pos c]
      obtain ⟨h1, h2, h3⟩ := many_snd x t (n + 1) (if n = 0 then s.f1 else if s.f1 < hi then s.f1 else hi) (by omega)
      have h2 := h2 (by omega)
      have hs1 : (if n = 0 then s.f1 else if s.f1 < hi then s.f1 else hi) ≤ s.f1 := by split <;> (try split) <;> omega
      refine ⟨fun q hq hc => ?_, fun hn => ?_, ?_⟩
      · rcases List.mem_cons.1 hq with rfl | hq
        · omega
        · exact h1 q hq hc
      · have : (if n = 0 then s.f1 else if s.f1 < hi then s.f1 else hi) ≤ hi := by rw [if_neg (by omega)]; split <;> omega
        omega
      · rcases h3 with ⟨_, h3⟩ | h3 | ⟨q, hq, hc, h3⟩
        · by_cases e : (if n = 0 then s.f1 else if s.f1 < hi then s.f1 else hi) = s.f1
          · right; right; exact ⟨s, List.mem_cons_self, c, h3.trans e⟩
          · left
            by_cases hn0 : n = 0
            · rw [if_pos hn0] at e; exact absurd rfl e
            · refine ⟨by omega, h3.trans ?_⟩
              rw [if_neg hn0] at e ⊢
              split at e
              · exact absurd rfl e
              · rename_i hh; rw [if_neg hh]
        · have := cov_nonneg t x; omega
        · right; right; exact ⟨q, List.mem_cons_of_mem _ hq, hc, h3⟩
    · rw [if_neg c]
      obtain ⟨h1, h2, h3⟩ := many_snd x t n hi h
      refine ⟨fun q hq hc => ?_, h2, ?_⟩
      · rcases List.mem_cons.1 hq with rfl | hq
        · exact absurd hc c
        · exact h1 q hq hc
      · rcases h3 with h3 | h3 | ⟨q, hq, hc, h3⟩
        · left; exact h3
        · right; left; rw [cov_cons, if_neg c]; omega
        · right; right; exact ⟨q, List.mem_cons_of_mem _ hq, hc, h3⟩

theorem many_loop (l : List S36) (x : Int) (hl : l.length ≤ 40) : ∀ (t : List S36) (i n hi : Int), 0 ≤ i → l.drop i.toNat = t → 0 ≤ n → n ≤ i → i ≤ l.length → Ev (fun k => agree_many.l0 k x n hi l (l.length : Int) i) (many x n hi t) := by
  intro t
  induction t with
  | nil =>
    intro i n hi h0 hd hn hn2 hil
    have hle := drop_nil h0 hd
    exact ev_some 1 fun k => by rw [agree_many.l0, if_neg (by omega)]; rfl
  | cons s t ih =>
    intro i n hi h0 hd hn hn2 hil
    obtain ⟨hlt, hs, ht⟩ := drop_cons z36 h0 hd
    have hs' : rd_T36 l i = s := hs
    have a9 : wrap64 (i + 1) = i + 1 := w64 (by omega) (by omega)
    have a10 : wrap64 (n + 1) = n + 1 := w64 (by omega) (by omega)
    have hun : ∀ k, agree_many.l0 (k + 2) x n hi l (l.length : Int) i = (if s.f0 ≤ x ∧ x ≤ s.f1 then agree_many.l0 k x (n + 1) (if n = 0 then s.f1 else if s.f1 < hi then s.f1 else hi) l (l.length : Int) (i + 1) else agree_many.l0 k x n hi l (l.length : Int) (i + 1)) := by
      intro k
      rw [agree_many.l0, if_pos hlt, if_pos h0, if_pos hlt, hs', agree_many.j1, agree_many.j1, a9, a10]
      by_cases c1 : s.f0 ≤ x <;> by_cases c2 : x ≤ s.f1 <;> by_cases c3 : n = 0 <;> by_cases c4 : s.f1 < hi <;> simp [c1, c2, c3, c4]
    unfold many
    by_cases c : s.f0 ≤ x ∧ x ≤ s.f1
    · rw [if_pos c]
      exact ev_step 2 (fun k => by rw [hun, if_pos c]) (ih (i + 1) (n + 1) _ (by omega) ht (by omega) (by omega) (by omega))
    · rw [if_neg c]
      exact ev_step 2 (fun k => by rw [hun, if_neg c]) (ih (i + 1) n hi (by omega) ht (by omega) (by omega) (by omega))
theorem many_ev (l : List S36) (x : Int) (hl : l.length ≤ 40) : Ev (fun k => agree_many.f k l x) (many x 0 0 l) := many_loop l x hl l 0 0 0 (by omega) rfl (by omega) (by omega) (by omega)

/-- Of the intervals that contain a number one begins last. -/
theorem last_begin : ∀ (l : List S36) (x : Int), 0 < cov l x → ∃ s ∈ l, (s.f0 ≤ x ∧ x ≤ s.f1) ∧ ∀ q ∈ l, q.f0 ≤ x ∧ x ≤ q.f1 → q.f0 ≤ s.f0
  | [], x, h => by simp [cov] at h
  | s :: t, x, h => by
    by_cases c : s.f0 ≤ x ∧ x ≤ s.f1
    · by_cases h0 : 0 < cov t x
      · obtain ⟨q, hq, hc, hm⟩ := last_begin t x h0
        rcases Int.le_total s.f0 q.f0 with hle | hle
        · exact ⟨q, List.mem_cons_of_mem _ hq, hc, fun r hr hrc => by rcases List.mem_cons.1 hr with rfl | hr; exact hle; exact hm r hr hrc⟩
        · exact ⟨s, List.mem_cons_self, c, fun r hr hrc => by rcases List.mem_cons.1 hr with rfl | hr; exact Int.le_refl _; exact Int.le_trans (hm r hr hrc) hle⟩
      · exact ⟨s, List.mem_cons_self, c, fun r hr hrc => by rcases List.mem_cons.1 hr with rfl | hr; exact Int.le_refl _; exact absurd (cov_one hr hrc) h0⟩
    · rw [cov_cons, if_neg c] at h
      obtain ⟨q, hq, hc, hm⟩ := last_begin t x (by omega)
      exact ⟨q, List.mem_cons_of_mem _ hq, hc, fun r hr hrc => by rcases List.mem_cons.1 hr with rfl | hr; exact absurd hrc c; exact hm r hr hrc⟩
/-- Of the intervals that contain a number one ends first. -/
theorem first_end : ∀ (l : List S36) (x : Int), 0 < cov l x → ∃ s ∈ l, (s.f0 ≤ x ∧ x ≤ s.f1) ∧ ∀ q ∈ l, q.f0 ≤ x ∧ x ≤ q.f1 → s.f1 ≤ q.f1
  | [], x, h => by simp [cov] at h
  | s :: t, x, h => by
    by_cases c : s.f0 ≤ x ∧ x ≤ s.f1
    · by_cases h0 : 0 < cov t x
      · obtain ⟨q, hq, hc, hm⟩ := first_end t x h0
        rcases Int.le_total q.f1 s.f1 with hle | hle
        · exact ⟨q, List.mem_cons_of_mem _ hq, hc, fun r hr hrc => by rcases List.mem_cons.1 hr with rfl | hr; exact hle; exact hm r hr hrc⟩
        · exact ⟨s, List.mem_cons_self, c, fun r hr hrc => by rcases List.mem_cons.1 hr with rfl | hr; exact Int.le_refl _; exact Int.le_trans hle (hm r hr hrc)⟩
      · exact ⟨s, List.mem_cons_self, c, fun r hr hrc => by rcases List.mem_cons.1 hr with rfl | hr; exact Int.le_refl _; exact absurd (cov_one hr hrc) h0⟩
    · rw [cov_cons, if_neg c] at h
      obtain ⟨q, hq, hc, hm⟩ := first_end t x (by omega)
      exact ⟨q, List.mem_cons_of_mem _ hq, hc, fun r hr hrc => by rcases List.mem_cons.1 hr with rfl | hr; exact absurd hrc c; exact hm r hr hrc⟩
/-- A number's intervals all contain the last begin. -/
theorem cov_begin {l : List S36} {x : Int} (h : 0 < cov l x) : ∃ s ∈ l, (s.f0 ≤ x ∧ x ≤ s.f1) ∧ cov l x ≤ cov l s.f0 := by
  obtain ⟨s, hs, hc, hm⟩ := last_begin l x h
  exact ⟨s, hs, hc, cov_mono l (fun q hq hqc => ⟨hm q hq hqc, by omega⟩)⟩
theorem cov_end {l : List S36} {x : Int} (h : 0 < cov l x) : ∃ s ∈ l, (s.f0 ≤ x ∧ x ≤ s.f1) ∧ cov l x ≤ cov l s.f1 := by
  obtain ⟨s, hs, hc, hm⟩ := first_end l x h
  exact ⟨s, hs, hc, cov_mono l (fun q hq hqc => ⟨by omega, hm q hq hqc⟩)⟩
/-- Most over a suffix: the first bound of those in most intervals, with the count; the rest of the whole list is l. -/
def most (l : List S36) : Int → Int → Int → List S36 → Int × Int × Int
  | n, lo, hi, [] => (lo, hi, n)
  | n, lo, hi, s :: t => if cov l s.f0 > n ∨ cov l s.f0 = n ∧ s.f0 < lo then most l (cov l s.f0) s.f0 (many s.f0 0 0 l).2 t else most l n lo hi t
theorem most_loop (l : List S36) (hl : l.length ≤ 40) : ∀ (t : List S36) (i n lo hi : Int), 0 ≤ i → l.drop i.toNat = t →
    Ev (fun k => agree_Most.l0 k l n l (l.length : Int) i lo hi) ((most l n lo hi t).1, (most l n lo hi t).2.1, (most l n lo hi t).2.2, 0) := by
  intro t
  induction t with
  | nil =>
    intro i n lo hi h0 hd
    have hle := drop_nil h0 hd
    exact ev_some 1 fun k => by rw [agree_Most.l0, if_neg (by omega)]; rfl
  | cons s t ih =>
    intro i n lo hi h0 hd
    obtain ⟨hlt, hs, ht⟩ := drop_cons z36 h0 hd
    have hs' : rd_T36 l i = s := hs
    have a9 : wrap64 (i + 1) = i + 1 := w64 (by omega) (by omega)
    have hm := many_fst s.f0 l 0 0
    rw [Int.zero_add] at hm
    refine ev_step 1 (f := fun k => (agree_many.f k l s.f0).bind fun bt115 => (if bt115.1 > n then (agree_Most.l0 k l bt115.1 l (l.length : Int) (i + 1) s.f0 bt115.2) else (if bt115.1 = n then (if s.f0 < lo then (agree_Most.l0 k l bt115.1 l (l.length : Int) (i + 1) s.f0 bt115.2) else (agree_Most.l0 k l n l (l.length : Int) (i + 1) lo hi)) else (agree_Most.l0 k l n l (l.length : Int) (i + 1) lo hi)))) (fun k => ?_) ?_
    · rw [agree_Most.l0, if_pos hlt, if_pos h0, if_pos hlt, hs', a9]
    refine ev_bind (many_ev l s.f0 hl) ?_
    rw [hm]
    unfold most
    by_cases c1 : cov l s.f0 > n
    · simp only [if_pos c1, if_pos (Or.inl c1 : cov l s.f0 > n ∨ cov l s.f0 = n ∧ s.f0 < lo)]
      exact ih (i + 1) _ _ _ (by omega) ht
    by_cases c2 : cov l s.f0 = n
    · by_cases c3 : s.f0 < lo
      · simp only [if_neg c1, if_pos c2, if_pos c3, if_pos (Or.inr ⟨c2, c3⟩ : cov l s.f0 > n ∨ cov l s.f0 = n ∧ s.f0 < lo)]
        exact ih (i + 1) _ _ _ (by omega) ht
      · simp only [if_neg c1, if_pos c2, if_neg c3, if_neg (show ¬ (cov l s.f0 > n ∨ cov l s.f0 = n ∧ s.f0 < lo) by omega)]
        exact ih (i + 1) _ _ _ (by omega) ht
    · simp only [if_neg c1, if_neg c2, if_neg (show ¬ (cov l s.f0 > n ∨ cov l s.f0 = n ∧ s.f0 < lo) by omega)]
      exact ih (i + 1) _ _ _ (by omega) ht
/-- What Most finds in a suffix: a bound of the list (or what was found before), none better. -/
theorem most_tells (l : List S36) : ∀ (t : List S36) (n lo hi : Int), (∀ s ∈ t, s ∈ l) → (∀ s ∈ t, cov l s.f0 < (most l n lo hi t).2.2 ∨ cov l s.f0 = (most l n lo hi t).2.2 ∧ (most l n lo hi t).1 ≤ s.f0) ∧
    (n < (most l n lo hi t).2.2 ∨ n = (most l n lo hi t).2.2 ∧ (most l n lo hi t).1 ≤ lo) ∧
    (most l n lo hi t = (lo, hi, n) ∨ ∃ s ∈ l, most l n lo hi t = (s.f0, (many s.f0 0 0 l).2, cov l s.f0))
  | [], n, lo, hi, _ => ⟨fun s hs => (by cases hs), Or.inr ⟨rfl, Int.le_refl _⟩, Or.inl rfl⟩
  | s :: t, n, lo, hi, hsub => by
    unfold most
    by_cases c : cov l s.f0 > n ∨ cov l s.f0 = n ∧ s.f0 < lo
    · rw [if_pos c]
      obtain ⟨h1, h2, h3⟩ := most_tells l t (cov l s.f0) s.f0 (many s.f0 0 0 l).2 (fun q hq => hsub q (List.mem_cons_of_mem _ hq))
      refine ⟨fun q hq => ?_, by omega, ?_⟩
      · rcases List.mem_cons.1 hq with rfl | hq
        · exact h2
        · exact h1 q hq
      · rcases h3 with h3 | h3
        · right; exact ⟨s, hsub s List.mem_cons_self, h3⟩
        · right; exact h3
    · rw [if_neg c]
      obtain ⟨h1, h2, h3⟩ := most_tells l t n lo hi (fun q hq => hsub q (List.mem_cons_of_mem _ hq))
      refine ⟨fun q hq => ?_, h2, h3⟩
      rcases List.mem_cons.1 hq with rfl | hq
      · omega
      · exact h1 q hq
/-- Most of a whole list. -/
theorem most_whole (l : List S36) (h : ss l = 0) : ∃ lo hi n, most l 0 0 0 l = (lo, hi, n) ∧ 0 < n ∧ n ≤ 40 ∧ cov l lo = n ∧ (∃ s ∈ l, s.f0 = lo) ∧ (∀ s ∈ l, cov l s.f0 < n ∨ cov l s.f0 = n ∧ lo ≤ s.f0) ∧ (∀ s ∈ l, s.f0 ≤ lo ∧ lo ≤ s.f1 → hi ≤ s.f1) ∧ (∃ s ∈ l, (s.f0 ≤ lo ∧ lo ≤ s.f1) ∧ hi = s.f1) ∧ lo ≤ hi := by
  obtain ⟨hl, hne, hv⟩ := ss_zero h
  obtain ⟨s0, hs0⟩ := List.exists_mem_of_ne_nil l hne
  have hp0 := cov_one hs0 ⟨Int.le_refl _, (hv s0 hs0).2.1⟩
  obtain ⟨h1, h2, h3⟩ := most_tells l l 0 0 0 (fun _ h => h)
  have hb := h1 s0 hs0
  rcases h3 with h3 | ⟨s, hs, h3⟩
  · rw [h3] at hb; simp only at hb; omega
  · rw [h3] at h1 hb
    have hpos := cov_one hs ⟨Int.le_refl _, (hv s hs).2.1⟩
    obtain ⟨m1, _, m3⟩ := many_snd s.f0 l 0 0 (by omega)
    have hex : ∃ q ∈ l, (q.f0 ≤ s.f0 ∧ s.f0 ≤ q.f1) ∧ (many s.f0 0 0 l).2 = q.f1 := by
      rcases m3 with ⟨m3, _⟩ | m3 | m3
      · omega
      · omega
      · exact m3
    obtain ⟨q, hq, hqc, hqe⟩ := hex
    have := cov_le l s.f0
    exact ⟨_, _, _, h3, hpos, by omega, rfl, ⟨s, hs, rfl⟩, h1, m1, ⟨q, hq, hqc, hqe⟩, by rw [hqe]; exact hqc.2⟩
theorem most_ev (l : List S36) : Ev (fun k => agree_Most.f k l) (if ss l = 0 then ((most l 0 0 0 l).1, (most l 0 0 0 l).2.1, (most l 0 0 0 l).2.2, 0) else (0, 0, 0, ss l)) := by
  unfold agree_Most.f
  refine ev_bind (agree_Check_ev l) ?_
  by_cases e : ss l = 0
  · simp only [if_pos e]; exact most_loop l (ss_zero e).1 l 0 0 0 0 (by omega) rfl
  · simp only [if_neg e]; exact ⟨0, fun _ _ => rfl⟩
/-- No number is in more intervals than a first bound. -/
theorem cov_most {l : List S36} {n : Int} (h : ∀ s ∈ l, cov l s.f0 ≤ n) (h0 : 0 ≤ n) (x : Int) : cov l x ≤ n := by
  rcases ilt_or 0 (cov l x) with hp | hp
  · obtain ⟨s, hs, _, hc⟩ := cov_begin hp
    have := h s hs
    omega
  · omega
theorem works_ev : Ev (fun k => ephemerislaw2_agreeWorks.f k) true := Ev.of ephemerislaw2_agreeWorks.mono (k := 30) (by decide +kernel)
/-- The numbers of the intervals of a suffix that lie apart from one, counted from i on. -/
def apart (lo hi : Int) : Int → List S36 → List Int
  | _, [] => []
  | i, s :: t => if s.f1 < lo ∨ s.f0 > hi then i :: apart lo hi (i + 1) t else apart lo hi (i + 1) t
theorem apart_len (lo hi : Int) : ∀ (t : List S36) (i : Int), (apart lo hi i t).length ≤ t.length
  | [], _ => Nat.le_refl _
  | s :: t, i => by
    have := apart_len lo hi t (i + 1)
    unfold apart
    split <;> simp only [List.length_cons] <;> omega
theorem outside_loop (l : List S36) (lo hi : Int) (hl : l.length ≤ 40) : ∀ (t : List S36) (i : Int) (o : List Int), 0 ≤ i → l.drop i.toNat = t → o.length ≤ i → i ≤ l.length →
    Ev (fun k => agree_Outside.l0 k o l (l.length : Int) i lo hi) (o ++ apart lo hi i t, 0) := by
  intro t
  induction t with
  | nil =>
    intro i o h0 hd ho hil
    have hle := drop_nil h0 hd
    exact ev_some 1 fun k => by rw [agree_Outside.l0, if_neg (by omega)]; simp [apart]
  | cons s t ih =>
    intro i o h0 hd ho hil
    obtain ⟨hlt, hs, ht⟩ := drop_cons z36 h0 hd
    have hs' : rd_T36 l i = s := hs
    have a9 : wrap64 (i + 1) = i + 1 := w64 (by omega) (by omega)
    unfold apart
    by_cases c : s.f1 < lo ∨ s.f0 > hi
    · rw [if_pos c]
      have := ih (i + 1) (o ++ [i]) (by omega) ht (by simp; omega) (by omega)
      rw [List.append_assoc, List.singleton_append] at this
      refine ev_step 1 (fun k => ?_) this
      rw [agree_Outside.l0, if_pos hlt, if_pos h0, if_pos hlt, hs', a9]
      by_cases c1 : s.f1 < lo
      · rw [if_pos c1, if_pos (by omega)]
      · rw [if_neg c1, if_pos (by omega), if_pos (by omega)]
    · rw [if_neg c]
      refine ev_step 1 (fun k => ?_) (ih (i + 1) o (by omega) ht (by omega) (by omega))
      rw [agree_Outside.l0, if_pos hlt, if_pos h0, if_pos hlt, hs', a9, if_neg (by omega), if_neg (by omega)]
theorem law_loop (l : List S36) (lo hi : Int) (hl : l.length ≤ 40) (hlh : lo ≤ hi) (hv : ∀ s ∈ l, s.f0 ≤ s.f1) (o : List Int) (hol : o.length ≤ 40) : ∀ (t : List S36) (i j : Int), 0 ≤ i → l.drop i.toNat = t → 0 ≤ j → j ≤ o.length → o.drop j.toNat = apart lo hi i t →
    Ev (fun k => ephemerislaw2_AgreeOutsides.l0 k o 0 j l (l.length : Int) i lo hi) true := by
  intro t
  induction t with
  | nil =>
    intro i j h0 hd hj hj2 ho
    have hle := drop_nil h0 hd
    have := drop_nil hj ho
    exact ev_some 1 fun k => by rw [ephemerislaw2_AgreeOutsides.l0, if_neg (by omega), if_pos rfl]; simp; omega
  | cons s t ih =>
    intro i j h0 hd hj hj2 ho
    obtain ⟨hlt, hs, ht⟩ := drop_cons z36 h0 hd
    have hs' : rd_T36 l i = s := hs
    have a9 : wrap64 (i + 1) = i + 1 := w64 (by omega) (by omega)
    have := hv s (drop_mem hd)
    have m1 : mx s.f0 lo = max s.f0 lo := by unfold mx; omega
    have m2 : mn s.f1 hi = min s.f1 hi := by unfold mn; omega
    unfold apart at ho
    by_cases c : s.f1 < lo ∨ s.f0 > hi
    · rw [if_pos c] at ho
      obtain ⟨g1, g2, g3⟩ := drop_cons (0 : Int) hj ho
      have g2' : rd o j = i := g2
      have a10 : wrap64 (j + 1) = j + 1 := w64 (by omega) (by omega)
      refine ev_step 1 (fun k => ?_) (ih (i + 1) (j + 1) (by omega) ht (by omega) (by omega) g3)
      rw [ephemerislaw2_AgreeOutsides.l0, if_pos hlt, if_pos h0, if_pos hlt, hs', a9, m1, m2, if_neg (by omega), if_neg (by omega), if_pos hj, if_pos g1, if_pos g2', a10]
    · rw [if_neg c] at ho
      refine ev_step 1 (fun k => ?_) (ih (i + 1) j (by omega) ht hj hj2 ho)
      rw [ephemerislaw2_AgreeOutsides.l0, if_pos hlt, if_pos h0, if_pos hlt, hs', a9, m1, m2, if_pos (by omega)]

theorem AgreeOutsides : PureX := by
  intro l hl
  refine ev_k ?_
  unfold ephemerislaw2_AgreeOutsides.f agree_Outside.f
  refine ev_bind works_ev ?_
  simp only [if_true]
  by_cases e : ss l = 0
  · obtain ⟨hl40, hne, hv⟩ := ss_zero e
    obtain ⟨lo, hi, n, hmost, hn, hn40, hcl, ⟨sl, hsl, hsle⟩, hcov, hup, ⟨sh, hsh, hshc, hshe⟩, hlh⟩ := most_whole l e
    have hm := most_ev l
    rw [if_pos e, hmost] at hm
    have ho := outside_loop l lo hi hl40 l 0 [] (by omega) rfl (by simp) (by omega)
    rw [List.nil_append] at ho
    refine ev_bind (a := (apart lo hi 0 l, 0)) ?_ ?_
    · refine ev_bind hm ?_
      simp only [if_true]
      exact ho
    refine ev_bind hm ?_
    simp only [if_true]
    have := apart_len lo hi l 0
    exact law_loop l lo hi hl40 hlh (fun s hs => (hv s hs).2.1) (apart lo hi 0 l) (by omega) l 0 0 (by omega) rfl (by omega) (by omega) rfl
  · have hm := most_ev l
    rw [if_neg e] at hm
    refine ev_bind (a := (([] : List Int), ss l)) ?_ ?_
    · refine ev_bind hm ?_
      simp only [if_neg e]
      exact ⟨0, fun _ _ => rfl⟩
    refine ev_bind hm ?_
    simp only [if_neg e, if_true]
    exact ⟨0, fun _ _ => by simp⟩

end Go.Proofs.Ytcmgfhfnfkelfaa.Pure
