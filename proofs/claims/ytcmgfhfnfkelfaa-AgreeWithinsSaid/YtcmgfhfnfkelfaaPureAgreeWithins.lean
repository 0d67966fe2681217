/- AgreeWithins: Within is the least interval of the numbers that are in at least need intervals, as the document says; for every list of intervals and every need. -/
import Derived.Test.YtcmgfhfnfkelfaaOpnAgreeWithins
import Derived.Test.YtcmgfhfnfkelfaaBase
namespace Go.Proofs.Ytcmgfhfnfkelfaa.Pure
open Go.RowKit Go.Proofs.YtcmgfhfnfkelfaaW.PrintWords Go.Proofs.YtcmgfhfnfkelfaaW.PrintLast Go.Proofs.Ytcmgfhfnfkelfaa.Opn Go.Proofs.Ytcmgfhfnfkelfaa.PAgreeWithins Go.Proofs.Ytcmgfhfnfkelfaa.Base
set_option linter.unusedVariables false
set_option linter.unusedSimpArgs false

theorem ilt_or (a b : Int) : a < b ∨ b ≤ a := by omega
/-- What a pair of bounds is found to be. -/
def sp (a b : Int) : Int := if a < -1000000000000000000 ∨ a > 1000000000000000000 ∨ b < -1000000000000000000 ∨ b > 1000000000000000000 then 3 else if b < a then 9 else 0
theorem sp_zero {a b : Int} (h : sp a b = 0) : -1000000000000000000 ≤ a ∧ a ≤ b ∧ b ≤ 1000000000000000000 := by
  unfold sp at h
  split at h
  · cases h
  · split at h
    · cases h
    · omega
theorem interval_Check_at (k : Nat) (a b : Int) : interval_Check.f (k + 1) a b = some (sp a b) := by
  unfold interval_Check.f interval_out.f sp
  by_cases c1 : a < -1000000000000000000
  · simp [c1, interval_Check.j0]
  by_cases c2 : a > 1000000000000000000
  · simp [c1, c2, interval_Check.j0]
  by_cases c3 : b < -1000000000000000000
  · simp [c1, c2, c3, interval_Check.j0]
  by_cases c4 : b > 1000000000000000000
  · simp [c1, c2, c3, c4, interval_Check.j0]
  by_cases c5 : b < a
  · simp [c1, c2, c3, c4, c5, interval_Check.j0]
  · simp [c1, c2, c3, c4, c5, interval_Check.j0]
theorem interval_Check_ev (a b : Int) : Ev (fun k => interval_Check.f k a b) (sp a b) := ev_some 1 fun k => interval_Check_at k a b
theorem spanErr_at (k : Nat) (a b : Int) : ephemerisref2_SpanErr.f (k + 1) a b = some (sp a b) := by
  unfold ephemerisref2_SpanErr.f sp
  by_cases c1 : a < -1000000000000000000
  · simp [c1, ephemerisref2_SpanErr.j0]
  by_cases c2 : a > 1000000000000000000
  · simp [c1, c2, ephemerisref2_SpanErr.j0]
  by_cases c3 : b < -1000000000000000000
  · simp [c1, c2, c3, ephemerisref2_SpanErr.j0]
  by_cases c4 : b > 1000000000000000000
  · simp [c1, c2, c3, c4, ephemerisref2_SpanErr.j0]
  by_cases c5 : b < a
  · simp [c1, c2, c3, c4, c5, ephemerisref2_SpanErr.j0]
  · simp [c1, c2, c3, c4, c5, ephemerisref2_SpanErr.j0]
theorem spanErr_ev (a b : Int) : Ev (fun k => ephemerisref2_SpanErr.f k a b) (sp a b) := ev_some 1 fun k => spanErr_at k a b
/-- What intervals are found to be. -/
def ssL : List S36 → Int
  | [] => 0
  | s :: t => if sp s.f0 s.f1 = 0 then ssL t else sp s.f0 s.f1
def ss (l : List S36) : Int := if (l.length : Int) > 40 then 2 else if (l.length : Int) = 0 then 6 else ssL l
theorem ssL_zero : ∀ {l : List S36}, ssL l = 0 → ∀ s ∈ l, sp s.f0 s.f1 = 0
  | [], _, _, h => by cases h
  | s :: t, h, q, hq => by
    unfold ssL at h
    split at h
    · rename_i c
      rcases List.mem_cons.1 hq with rfl | hq
      · exact c
      · exact ssL_zero h q hq
    · rename_i c; exact absurd h c
theorem ss_zero {l : List S36} (h : ss l = 0) : l.length ≤ 40 ∧ l ≠ [] ∧ ∀ s ∈ l, -1000000000000000000 ≤ s.f0 ∧ s.f0 ≤ s.f1 ∧ s.f1 ≤ 1000000000000000000 := by
  unfold ss at h
  split at h
  · cases h
  · split at h
    · cases h
    · rename_i c1 c2
      refine ⟨by omega, fun e => by subst e; simp at c2, fun s hs => sp_zero (ssL_zero h s hs)⟩
theorem agreeCheck_loop (l : List S36) (hl : l.length ≤ 40) : ∀ (t : List S36) (i : Int), 0 ≤ i → l.drop i.toNat = t → Ev (fun k => agree_Check.l0 k l (l.length : Int) i) (ssL t) := by
  intro t
  induction t with
  | nil =>
    intro i h0 hd
    have hle := drop_nil h0 hd
    exact ev_some 1 fun k => by rw [agree_Check.l0, if_neg (by omega)]; rfl
  | cons s t ih =>
    intro i h0 hd
    obtain ⟨hlt, hs, ht⟩ := drop_cons z36 h0 hd
    have hs' : rd_T36 l i = s := hs
    have a9 : wrap64 (i + 1) = i + 1 := w64 (by omega) (by omega)
    have hun : ∀ k, agree_Check.l0 (k + 2) l (l.length : Int) i = (if sp s.f0 s.f1 = 0 then agree_Check.l0 (k + 1) l (l.length : Int) (i + 1) else some (sp s.f0 s.f1)) := by
      intro k
      rw [agree_Check.l0, if_pos hlt, if_pos h0, if_pos hlt, hs', interval_Check_at, Option.bind_some, a9]
    unfold ssL
    by_cases c : sp s.f0 s.f1 = 0
    · rw [if_pos c]
      obtain ⟨K, hK⟩ := ih (i + 1) (by omega) ht
      exact ⟨K + 2, fun k hk => by obtain ⟨m, rfl⟩ : ∃ m, k = m + 2 := ⟨k - 2, by omega⟩; simp only [hun, if_pos c]; exact hK _ (by omega)⟩
    · rw [if_neg c]
      exact ev_some 2 fun k => by rw [hun, if_neg c]
theorem agree_Check_ev (l : List S36) : Ev (fun k => agree_Check.f k l) (ss l) := by
  unfold agree_Check.f ss
  by_cases c1 : (l.length : Int) > 40
  · simp only [if_pos c1]; exact ⟨0, fun _ _ => rfl⟩
  · by_cases c2 : (l.length : Int) = 0
    · simp only [if_neg c1, if_pos c2]; exact ⟨0, fun _ _ => rfl⟩
    · simp only [if_neg c1, if_neg c2]; exact agreeCheck_loop l (by omega) l 0 (by omega) rfl
/-- Does an interval contain a number? -/
def inB (x : Int) (s : S36) : Bool := decide (s.f0 ≤ x) && decide (x ≤ s.f1)
theorem inB_iff {x : Int} {s : S36} : inB x s = true ↔ s.f0 ≤ x ∧ x ≤ s.f1 := by simp [inB]
/-- How many intervals contain a number. -/
def cov (l : List S36) (x : Int) : Int := (l.countP (inB x) : Int)
theorem cov_cons (s : S36) (t : List S36) (x : Int) : cov (s :: t) x = cov t x + (if s.f0 ≤ x ∧ x ≤ s.f1 then 1 else 0) := by
  unfold cov
  rw [List.countP_cons]
  by_cases c : s.f0 ≤ x ∧ x ≤ s.f1
  · rw [if_pos c, if_pos (inB_iff.2 c)]; omega
  · rw [if_neg c, if_neg (fun h => c (inB_iff.1 h))]; omega
theorem cov_nonneg (l : List S36) (x : Int) : 0 ≤ cov l x := by unfold cov; omega
theorem cov_le (l : List S36) (x : Int) : cov l x ≤ l.length := by unfold cov; have := List.countP_le_length (p := inB x) (l := l); omega
/-- Where all that contain x contain y, y is in as many. -/
theorem cov_mono (l : List S36) {x y : Int} (h : ∀ s ∈ l, s.f0 ≤ x ∧ x ≤ s.f1 → s.f0 ≤ y ∧ y ≤ s.f1) : cov l x ≤ cov l y := by
  unfold cov
  have := List.countP_mono_left (l := l) (p := inB x) (q := inB y) (fun s hs hx => inB_iff.2 (h s hs (inB_iff.1 hx)))
  omega
/-- .. and in more, if one contains y alone. -/
theorem cov_lt : ∀ (l : List S36) {x y : Int}, (∀ s ∈ l, s.f0 ≤ x ∧ x ≤ s.f1 → s.f0 ≤ y ∧ y ≤ s.f1) → ∀ s ∈ l, (s.f0 ≤ y ∧ y ≤ s.f1) → ¬ (s.f0 ≤ x ∧ x ≤ s.f1) → cov l x < cov l y
  | [], _, _, _, _, hs, _, _ => by cases hs
  | q :: t, x, y, h, s, hs, h1, h2 => by
    rw [cov_cons, cov_cons]
    have hm := cov_mono t (fun s hs => h s (List.mem_cons_of_mem _ hs))
    rcases List.mem_cons.1 hs with rfl | hs
    · rw [if_neg h2, if_pos h1]; omega
    · have := cov_lt t (fun s hs => h s (List.mem_cons_of_mem _ hs)) s hs h1 h2
      have hq := h q List.mem_cons_self
      by_cases c : q.f0 ≤ x ∧ x ≤ q.f1
      · rw [if_pos c, if_pos (hq c)]; omega
      · rw [if_neg c]; split <;> omega
theorem cov_pos {l : List S36} {x : Int} (h : 0 < cov l x) : ∃ s ∈ l, s.f0 ≤ x ∧ x ≤ s.f1 := by
  unfold cov at h
  obtain ⟨s, hs, hp⟩ := List.countP_pos_iff.1 (show 0 < l.countP (inB x) by omega)
  exact ⟨s, hs, inB_iff.1 hp⟩
theorem cov_one {l : List S36} {x : Int} {s : S36} (hs : s ∈ l) (h : s.f0 ≤ x ∧ x ≤ s.f1) : 0 < cov l x := by
  unfold cov
  have := List.countP_pos_iff.2 ⟨s, hs, inB_iff.2 h⟩
  omega

/-- How many of a suffix contain a number, and the least upper bound of these. -/
def many (x : Int) : Int → Int → List S36 → Int × Int
  | n, hi, [] => (n, hi)
  | n, hi, s :: t => if s.f0 ≤ x ∧ x ≤ s.f1 then many x (n + 1) (if n = 0 then s.f1 else if s.f1 < hi then s.f1 else hi) t else many x n hi t
theorem many_fst (x : Int) : ∀ (t : List S36) (n hi : Int), (many x n hi t).1 = n + cov t x
  | [], n, hi => by simp [many, cov]
  | s :: t, n, hi => by
    unfold many
    rw [cov_cons]
    split
    · rw [many_fst x t]; omega
    · rw [many_fst x t]; omega
theorem many_snd (x : Int) : ∀ (t : List S36) (n hi : Int), 0 ≤ n → (∀ s ∈ t, s.f0 ≤ x ∧ x ≤ s.f1 → (many x n hi t).2 ≤ s.f1) ∧ (0 < n → (many x n hi t).2 ≤ hi) ∧ ((0 < n ∧ (many x n hi t).2 = hi) ∨ (n + cov t x = 0) ∨ ∃ s ∈ t, (s.f0 ≤ x ∧ x ≤ s.f1) ∧ (many x n hi t).2 = s.f1)
  | [], n, hi, h => by
    refine ⟨fun s hs => (by cases hs), fun _ => Int.le_refl _, ?_⟩
    rcases ilt_or 0 n with h1 | h1
    · left; exact ⟨h1, rfl⟩
    · right; left; simp only [cov, List.countP_nil]; omega
  | s :: t, n, hi, h => by
    unfold many
    by_cases c : s.f0 ≤ x ∧ x ≤ s.f1
    · rw [if_pos c]
      obtain ⟨h1, h2, h3⟩ := many_snd x t (n + 1) (if n = 0 then s.f1 else if s.f1 < hi then s.f1 else hi) (by omega)
      have h2 := h2 (by omega)
      have hs1 : (if n = 0 then s.f1 else if s.f1 < hi then s.f1 else hi) ≤ s.f1 := by split <;> (try split) <;> omega
      refine ⟨fun q hq hc => ?_, fun hn => ?_, ?_⟩
      · rcases List.mem_cons.1 hq with rfl | hq
        · omega
        · exact h1 q hq hc
      · have : (if n = 0 then s.f1 else if s.f1 < hi then s.f1 else hi) ≤ hi := by rw [if_neg (by omega)]; split <;> omega
        omega
      · rcases h3 with ⟨_, h3⟩ | h3 | ⟨q, hq, hc, h3⟩
        · by_cases e : (if n = 0 then s.f1 else if s.f1 < hi then s.f1 else hi) = s.f1
          · right; right; exact ⟨s, List.mem_cons_self, c, h3.trans e⟩
          · left
            by_cases hn0 : n = 0
            · rw [if_pos hn0] at e; exact absurd rfl e
            · refine ⟨by omega, h3.trans ?_⟩
              rw [if_neg hn0] at e ⊢
              split at e
              · exact absurd rfl e
              · rename_i hh; rw [if_neg hh]
        · have := cov_nonneg t x; omega
        · right; right; exact ⟨q, List.mem_cons_of_mem _ hq, hc, h3⟩
    · rw [if_neg c]
      obtain ⟨h1, h2, h3⟩ := many_snd x t n hi h
      refine ⟨fun q hq hc => ?_, h2, ?_⟩
      · rcases List.mem_cons.1 hq with rfl | hq
        · exact absurd hc c
        · exact h1 q hq hc
      · rcases h3 with h3 | h3 | ⟨q, hq, hc, h3⟩
        · left; exact h3
        · right; left; rw [cov_cons, if_neg c]; omega
        · right; right; exact ⟨q, List.mem_cons_of_mem _ hq, hc, h3⟩

theorem many_loop (l : List S36) (x : Int) (hl : l.length ≤ 40) : ∀ (t : List S36) (i n hi : Int), 0 ≤ i → l.drop i.toNat = t → 0 ≤ n → n ≤ i → i ≤ l.length → Ev (fun k => agree_many.l0 k x n hi l (l.length : Int) i) (many x n hi t) := by
  intro t
  induction t with
  | nil =>
    intro i n hi h0 hd hn hn2 hil
    have hle := drop_nil h0 hd
    exact ev_some 1 fun k => by rw [agree_many.l0, if_neg (by omega)]; rfl
  | cons s t ih =>
    intro i n hi h0 hd hn hn2 hil
    obtain ⟨hlt, hs, ht⟩ := drop_cons z36 h0 hd
    have hs' : rd_T36 l i = s := hs
    have a9 : wrap64 (i + 1) = i + 1 := w64 (by omega) (by omega)
    have a10 : wrap64 (n + 1) = n + 1 := w64 (by omega) (by omega)
    have hun : ∀ k, agree_many.l0 (k + 2) x n hi l (l.length : Int) i = (if s.f0 ≤ x ∧ x ≤ s.f1 then agree_many.l0 k x (n + 1) (if n = 0 then s.f1 else if s.f1 < hi then s.f1 else hi) l (l.length : Int) (i + 1) else agree_many.l0 k x n hi l (l.length : Int) (i + 1)) := by
      intro k
      rw [agree_many.l0, if_pos hlt, if_pos h0, if_pos hlt, hs', agree_many.j1, agree_many.j1, a9, a10]
      by_cases c1 : s.f0 ≤ x <;> by_cases c2 : x ≤ s.f1 <;> by_cases c3 : n = 0 <;> by_cases c4 : s.f1 < hi <;> simp [c1, c2, c3, c4]
    unfold many
    by_cases c : s.f0 ≤ x ∧ x ≤ s.f1
    · rw [if_pos c]
      exact ev_step 2 (fun k => by rw [hun, if_pos c]) (ih (i + 1) (n + 1) _ (by omega) ht (by omega) (by omega) (by omega))
    · rw [if_neg c]
      exact ev_step 2 (fun k => by rw [hun, if_neg c]) (ih (i + 1) n hi (by omega) ht (by omega) (by omega) (by omega))
theorem many_ev (l : List S36) (x : Int) (hl : l.length ≤ 40) : Ev (fun k => agree_many.f k l x) (many x 0 0 l) := many_loop l x hl l 0 0 0 (by omega) rfl (by omega) (by omega) (by omega)

/-- Of the intervals that contain a number one begins last. -/
theorem last_begin : ∀ (l : List S36) (x : Int), 0 < cov l x → ∃ s ∈ l, (s.f0 ≤ x ∧ x ≤ s.f1) ∧ ∀ q ∈ l, q.f0 ≤ x ∧ x ≤ q.f1 → q.f0 ≤ s.f0
  | [], x, h => by simp [cov] at h
  | s :: t, x, h => by
    by_cases c : s.f0 ≤ x ∧ x ≤ s.f1
    · by_cases h0 : 0 < cov t x
      · obtain ⟨q, hq, hc, hm⟩ := last_begin t x h0
        rcases Int.le_total s.f0 q.f0 with hle | hle
        · exact ⟨q, List.mem_cons_of_mem _ hq, hc, fun r hr hrc => by rcases List.mem_cons.1 hr with rfl | hr; exact hle; exact hm r hr hrc⟩
        · exact ⟨s, List.mem_cons_self, c, fun r hr hrc => by rcases List.mem_cons.1 hr with rfl | hr; exact Int.le_refl _; exact Int.le_trans (hm r hr hrc) hle⟩
      · exact ⟨s, List.mem_cons_self, c, fun r hr hrc => by rcases List.mem_cons.1 hr with rfl | hr; exact Int.le_refl _; exact absurd (cov_one hr hrc) h0⟩
    · rw [cov_cons, if_neg c] at h
      obtain ⟨q, hq, hc, hm⟩ := last_begin t x (by omega)
      exact ⟨q, List.mem_cons_of_mem _ hq, hc, fun r hr hrc => by rcases List.mem_cons.1 hr with rfl | hr; exact absurd hrc c; exact hm r hr hrc⟩
/-- Of the intervals that contain a number one ends first. -/
theorem first_end : ∀ (l : List S36) (x : Int), 0 < cov l x → ∃ s ∈ l, (s.f0 ≤ x ∧ x ≤ s.f1) ∧ ∀ q ∈ l, q.f0 ≤ x ∧ x ≤ q.f1 → s.f1 ≤ q.f1
  | [], x, h => by simp [cov] at h
  | s :: t, x, h => by
    by_cases c : s.f0 ≤ x ∧ x ≤ s.f1
    · by_cases h0 : 0 < cov t x
      · obtain ⟨q, hq, hc, hm⟩ := first_end t x h0
        rcases Int.le_total q.f1 s.f1 with hle | hle
        · exact ⟨q, List.mem_cons_of_mem _ hq, hc, fun r hr hrc => by rcases List.mem_cons.1 hr with rfl | hr; exact hle; exact hm r hr hrc⟩
        · exact ⟨s, List.mem_cons_self, c, fun r hr hrc => by rcases List.mem_cons.1 hr with rfl | hr; exact Int.le_refl _; exact Int.le_trans hle (hm r hr hrc)⟩
      · exact ⟨s, List.mem_cons_self, c, fun r hr hrc => by rcases List.mem_cons.1 hr with rfl | hr; exact Int.le_refl _; exact absurd (cov_one hr hrc) h0⟩
    · rw [cov_cons, if_neg c] at h
      obtain ⟨q, hq, hc, hm⟩ := first_end t x (by omega)
      exact ⟨q, List.mem_cons_of_mem _ hq, hc, fun r hr hrc => by rcases List.mem_cons.1 hr with rfl | hr; exact absurd hrc c; exact hm r hr hrc⟩
/-- A number's intervals all contain the last begin. -/
theorem cov_begin {l : List S36} {x : Int} (h : 0 < cov l x) : ∃ s ∈ l, (s.f0 ≤ x ∧ x ≤ s.f1) ∧ cov l x ≤ cov l s.f0 := by
  obtain ⟨s, hs, hc, hm⟩ := last_begin l x h
  exact ⟨s, hs, hc, cov_mono l (fun q hq hqc => ⟨hm q hq hqc, by omega⟩)⟩
theorem cov_end {l : List S36} {x : Int} (h : 0 < cov l x) : ∃ s ∈ l, (s.f0 ≤ x ∧ x ≤ s.f1) ∧ cov l x ≤ cov l s.f1 := by
  obtain ⟨s, hs, hc, hm⟩ := first_end l x h
  exact ⟨s, hs, hc, cov_mono l (fun q hq hqc => ⟨by omega, hm q hq hqc⟩)⟩
theorem spansErr_loop (l : List S36) (hl : l.length ≤ 40) : ∀ (t : List S36) (i : Int), 0 ≤ i → l.drop i.toNat = t → Ev (fun k => ephemerisref2_SpansErr.l0 k l (l.length : Int) i) (ssL t) := by
  intro t
  induction t with
  | nil =>
    intro i h0 hd
    have hle := drop_nil h0 hd
    exact ev_some 1 fun k => by rw [ephemerisref2_SpansErr.l0, if_neg (by omega)]; rfl
  | cons s t ih =>
    intro i h0 hd
    obtain ⟨hlt, hs, ht⟩ := drop_cons z36 h0 hd
    have hs' : rd_T36 l i = s := hs
    have a9 : wrap64 (i + 1) = i + 1 := w64 (by omega) (by omega)
    have hun : ∀ k, ephemerisref2_SpansErr.l0 (k + 2) l (l.length : Int) i = (if sp s.f0 s.f1 = 0 then ephemerisref2_SpansErr.l0 (k + 1) l (l.length : Int) (i + 1) else some (sp s.f0 s.f1)) := by
      intro k
      rw [ephemerisref2_SpansErr.l0, if_pos hlt, if_pos h0, if_pos hlt, hs', spanErr_at, Option.bind_some, a9]
    unfold ssL
    by_cases c : sp s.f0 s.f1 = 0
    · rw [if_pos c]
      obtain ⟨K, hK⟩ := ih (i + 1) (by omega) ht
      exact ⟨K + 2, fun k hk => by obtain ⟨m, rfl⟩ : ∃ m, k = m + 2 := ⟨k - 2, by omega⟩; simp only [hun, if_pos c]; exact hK _ (by omega)⟩
    · rw [if_neg c]
      exact ev_some 2 fun k => by rw [hun, if_neg c]
theorem spansErr_ev (l : List S36) : Ev (fun k => ephemerisref2_SpansErr.f k l) (ss l) := by
  unfold ephemerisref2_SpansErr.f ss
  by_cases c1 : (l.length : Int) > 40
  · simp only [if_pos c1]; exact ⟨0, fun _ _ => rfl⟩
  · by_cases c2 : (l.length : Int) = 0
    · simp only [if_neg c1, if_pos c2]; exact ⟨0, fun _ _ => rfl⟩
    · simp only [if_neg c1, if_neg c2]; exact spansErr_loop l (by omega) l 0 (by omega) rfl

theorem cover_loop (l : List S36) (x : Int) (hl : l.length ≤ 40) : ∀ (t : List S36) (i n : Int), 0 ≤ i → l.drop i.toNat = t → 0 ≤ n → n ≤ i → i ≤ l.length → Ev (fun k => ephemerisref2_Cover.l0 k x n l (l.length : Int) i) (n + cov t x) := by
  intro t
  induction t with
  | nil =>
    intro i n h0 hd hn hn2 hil
    have hle := drop_nil h0 hd
    exact ev_some 1 fun k => by rw [ephemerisref2_Cover.l0, if_neg (by omega)]; simp [cov]
  | cons s t ih =>
    intro i n h0 hd hn hn2 hil
    obtain ⟨hlt, hs, ht⟩ := drop_cons z36 h0 hd
    have hs' : rd_T36 l i = s := hs
    have a9 : wrap64 (i + 1) = i + 1 := w64 (by omega) (by omega)
    have a10 : wrap64 (n + 1) = n + 1 := w64 (by omega) (by omega)
    have hun : ∀ k, ephemerisref2_Cover.l0 (k + 1) x n l (l.length : Int) i = (if s.f0 ≤ x then (if x ≤ s.f1 then ephemerisref2_Cover.l0 k x (n + 1) l (l.length : Int) (i + 1) else ephemerisref2_Cover.l0 k x n l (l.length : Int) (i + 1)) else ephemerisref2_Cover.l0 k x n l (l.length : Int) (i + 1)) := by
      intro k
      rw [ephemerisref2_Cover.l0, if_pos hlt, if_pos h0, if_pos hlt, hs', a9, a10]
    rw [cov_cons]
    by_cases c1 : s.f0 ≤ x
    · by_cases c2 : x ≤ s.f1
      · rw [if_pos ⟨c1, c2⟩]
        have := ih (i + 1) (n + 1) (by omega) ht (by omega) (by omega) (by omega)
        rw [show n + (cov t x + 1) = n + 1 + cov t x by omega]
        exact ev_step 1 (fun k => by rw [hun, if_pos c1, if_pos c2]) this
      · rw [if_neg (fun h => c2 h.2), Int.add_zero]
        exact ev_step 1 (fun k => by rw [hun, if_pos c1, if_neg c2]) (ih (i + 1) n (by omega) ht (by omega) (by omega) (by omega))
    · rw [if_neg (fun h => c1 h.1), Int.add_zero]
      exact ev_step 1 (fun k => by rw [hun, if_neg c1]) (ih (i + 1) n (by omega) ht (by omega) (by omega) (by omega))

theorem cover_ev (l : List S36) (x : Int) (hl : l.length ≤ 40) : Ev (fun k => ephemerisref2_Cover.f k l x) (cov l x) := by
  have := cover_loop l x hl l 0 0 (by omega) rfl (by omega) (by omega) (by omega)
  rwa [Int.zero_add] at this
theorem none_at (a b : Int) (e x : Int) (h : e = x) (ha : a = 0) (hb : b = 0) : ephemerislaw2_none.f a b e x = some true := by
  subst h ha hb
  simp [ephemerislaw2_none.f]
theorem works_ev : Ev (fun k => ephemerislaw2_agreeWorks.f k) true := Ev.of ephemerislaw2_agreeWorks.mono (k := 30) (by decide +kernel)
/-- The least lower bound that is in enough. -/
def w1 (l : List S36) (need : Int) : Bool → Int → List S36 → Bool × Int
  | found, lo, [] => (found, lo)
  | found, lo, s :: t => if cov l s.f0 ≥ need ∧ (found = false ∨ s.f0 < lo) then w1 l need true s.f0 t else w1 l need found lo t
/-- The greatest upper bound that is in enough. -/
def w2 (l : List S36) (need : Int) : Int → List S36 → Int
  | hi, [] => hi
  | hi, s :: t => if cov l s.f1 ≥ need then w2 l need (max hi s.f1) t else w2 l need hi t
/-- One number more. -/
def st (l : List S36) (need : Int) (q : Int × Int × Bool) (x : Int) : Int × Int × Bool :=
  if cov l x ≥ need then (if q.2.2 = false ∨ x < q.1 then x else q.1, if q.2.2 = false ∨ x > q.2.1 then x else q.2.1, true) else q
def w3 (l : List S36) (need : Int) : Int × Int × Bool → List S36 → Int × Int × Bool
  | q, [] => q
  | q, s :: t => w3 l need (st l need (st l need q s.f0) s.f1) t

theorem loop2 (l : List S36) (need : Int) (hl : l.length ≤ 40) (lo : Int) : ∀ (t : List S36) (i hi : Int), 0 ≤ i → l.drop i.toNat = t → Ev (fun k => agree_Within.l1 k l need l (l.length : Int) i lo hi) (lo, w2 l need hi t, 0) := by
  intro t
  induction t with
  | nil =>
    intro i hi h0 hd
    have hle := drop_nil h0 hd
    exact ev_some 1 fun k => by rw [agree_Within.l1, if_neg (by omega)]; rfl
  | cons s t ih =>
    intro i hi h0 hd
    obtain ⟨hlt, hs, ht⟩ := drop_cons z36 h0 hd
    have hs' : rd_T36 l i = s := hs
    have a9 : wrap64 (i + 1) = i + 1 := w64 (by omega) (by omega)
    have hm := many_fst s.f1 l 0 0
    rw [Int.zero_add] at hm
    have hmx : mx hi s.f1 = max hi s.f1 := by unfold mx; omega
    refine ev_step 1 (f := fun k => (agree_many.f k l s.f1).bind fun bt126 => (if bt126.1 ≥ need then (agree_Within.l1 k l need l (l.length : Int) (i + 1) lo (max hi s.f1)) else (agree_Within.l1 k l need l (l.length : Int) (i + 1) lo hi))) (fun k => ?_) ?_
    · rw [agree_Within.l1, if_pos hlt, if_pos h0, if_pos hlt, hs', a9, hmx]
    refine ev_bind (many_ev l s.f1 hl) ?_
    rw [hm]
    unfold w2
    by_cases c : cov l s.f1 ≥ need
    · simp only [if_pos c]; exact ih (i + 1) _ (by omega) ht
    · simp only [if_neg c]; exact ih (i + 1) _ (by omega) ht
theorem loop1 (l : List S36) (need : Int) (hl : l.length ≤ 40) : ∀ (t : List S36) (i lo : Int) (found : Bool), 0 ≤ i → l.drop i.toNat = t →
    Ev (fun k => agree_Within.l0 k l need found l (l.length : Int) i lo 0) (if (w1 l need found lo t).1 = true then ((w1 l need found lo t).2, w2 l need (w1 l need found lo t).2 l, 0) else (0, 0, 6)) := by
  intro t
  induction t with
  | nil =>
    intro i lo found h0 hd
    have hle := drop_nil h0 hd
    refine ev_step 1 (f := fun k => (if found = true then (agree_Within.l1 k l need l (l.length : Int) 0 lo lo) else (some (0, 0, 6)))) (fun k => by rw [agree_Within.l0, if_neg (by omega)]) ?_
    cases found with
    | true => simp only [w1, if_true]; exact loop2 l need hl lo l 0 lo (by omega) rfl
    | false => exact ⟨0, fun _ _ => rfl⟩
  | cons s t ih =>
    intro i lo found h0 hd
    obtain ⟨hlt, hs, ht⟩ := drop_cons z36 h0 hd
    have hs' : rd_T36 l i = s := hs
    have a9 : wrap64 (i + 1) = i + 1 := w64 (by omega) (by omega)
    have hm := many_fst s.f0 l 0 0
    rw [Int.zero_add] at hm
    refine ev_step 1 (f := fun k => (agree_many.f k l s.f0).bind fun bt122 => (if bt122.1 ≥ need then (if found = true then (if s.f0 < lo then (agree_Within.l0 k l need true l (l.length : Int) (i + 1) s.f0 0) else (agree_Within.l0 k l need found l (l.length : Int) (i + 1) lo 0)) else (agree_Within.l0 k l need true l (l.length : Int) (i + 1) s.f0 0)) else (agree_Within.l0 k l need found l (l.length : Int) (i + 1) lo 0))) (fun k => ?_) ?_
    · rw [agree_Within.l0, if_pos hlt, if_pos h0, if_pos hlt, hs', a9]
    refine ev_bind (many_ev l s.f0 hl) ?_
    rw [hm]
    unfold w1
    by_cases c : cov l s.f0 ≥ need
    · cases found with
      | true =>
        by_cases c2 : s.f0 < lo
        · simp only [if_pos c, if_true, if_pos c2, if_pos (show cov l s.f0 ≥ need ∧ (true = false ∨ s.f0 < lo) from ⟨c, Or.inr c2⟩)]
          exact ih (i + 1) _ _ (by omega) ht
        · simp only [if_pos c, if_true, if_neg c2, if_neg (show ¬ (cov l s.f0 ≥ need ∧ (true = false ∨ s.f0 < lo)) by simp; intro _; omega)]
          exact ih (i + 1) _ _ (by omega) ht
      | false =>
        rw [if_pos (show cov l s.f0 ≥ need ∧ (false = false ∨ s.f0 < lo) from ⟨c, Or.inl rfl⟩)]
        simp only [if_pos c, Bool.false_eq_true, if_false]
        exact ih (i + 1) _ _ (by omega) ht
    · simp only [if_neg c, if_neg (show ¬ (cov l s.f0 ≥ need ∧ (found = false ∨ s.f0 < lo)) from fun h => c h.1)]
      exact ih (i + 1) _ _ (by omega) ht

theorem ref_step (l : List S36) (need : Int) (hl : l.length ≤ 40) (i : Int) (y : List Int) (hy : y.length = 2) (j : Int) (hj0 : 0 ≤ j) (hj1 : j < 2) (lo hi : Int) (found : Bool) (r : Int × Int × Bool)
    (h : Ev (fun k => ephemerisref2_Within.l1 k l need (st l need (lo, hi, found) (rd y j)).2.2 l (l.length : Int) i y 2 (j + 1) (st l need (lo, hi, found) (rd y j)).1 (st l need (lo, hi, found) (rd y j)).2.1) r) :
    Ev (fun k => ephemerisref2_Within.l1 k l need found l (l.length : Int) i y 2 j lo hi) r := by
  have a9 : wrap64 (j + 1) = j + 1 := w64 (by omega) (by omega)
  have hyl : (y.length : Int) = 2 := by omega
  obtain ⟨K, hK⟩ := ev_and h (cover_ev l (rd y j) hl)
  refine ⟨K + 2, fun k hk => ?_⟩
  obtain ⟨m, rfl⟩ : ∃ m, k = m + 2 := ⟨k - 2, by omega⟩
  simp only
  have q2 := (hK (m + 1) (by omega)).2
  have q3 := (hK (m + 1) (by omega)).1
  have q1 := (hK m (by omega)).1
  rw [ephemerisref2_Within.l1, if_pos hj1, if_pos hj0, hyl, if_pos hj1, q2, Option.bind_some, a9]
  generalize rd y j = x at *
  by_cases c : cov l x ≥ need
  · rw [if_pos c]
    simp only [st, if_pos c] at q1
    cases found with
    | true =>
      rw [if_pos rfl, ephemerisref2_Within.j2]
      by_cases c2 : x < lo <;> by_cases c3 : x > hi <;> simp [c2, c3, a9] at q1 ⊢ <;> exact q1
    | false =>
      rw [if_neg (by decide), ephemerisref2_Within.j2, a9]
      simpa using q1
  · rw [if_neg c]
    simp only [st, if_neg c] at q3
    exact q3
theorem ref_loop (l : List S36) (need : Int) (hl : l.length ≤ 40) : ∀ (t : List S36) (i lo hi : Int) (found : Bool), 0 ≤ i → l.drop i.toNat = t → Ev (fun k => ephemerisref2_Within.l0 k l need found l (l.length : Int) i lo hi) (w3 l need (lo, hi, found) t) := by
  intro t
  induction t with
  | nil =>
    intro i lo hi found h0 hd
    have hle := drop_nil h0 hd
    exact ev_some 1 fun k => by rw [ephemerisref2_Within.l0, if_neg (by omega)]; rfl
  | cons s t ih =>
    intro i lo hi found h0 hd
    obtain ⟨hlt, hs, ht⟩ := drop_cons z36 h0 hd
    have hs' : rd_T36 l i = s := hs
    have a9 : wrap64 (i + 1) = i + 1 := w64 (by omega) (by omega)
    refine ev_step 1 (f := fun k => ephemerisref2_Within.l1 k l need found l (l.length : Int) i [s.f0, s.f1] 2 0 lo hi) (fun k => ?_) ?_
    · rw [ephemerisref2_Within.l0, if_pos hlt, if_pos h0, if_pos hlt, hs', Option.bind_some]
      rfl
    refine ref_step l need hl i [s.f0, s.f1] rfl 0 (by omega) (by omega) lo hi found _ ?_
    refine ref_step l need hl i [s.f0, s.f1] rfl (0 + 1) (by omega) (by omega) _ _ _ _ ?_
    refine ev_step 1 (f := fun k => ephemerisref2_Within.l0 k l need _ l (l.length : Int) (i + 1) _ _) (fun k => ?_) (ih (i + 1) _ _ _ (by omega) ht)
    rw [ephemerisref2_Within.l1, if_neg (by omega), a9]
    rfl

/-- Is a number among those that count? -/
def P (l : List S36) (need : Int) (x : Int) : Prop := need ≤ cov l x
theorem w1_tells (l : List S36) (need : Int) : ∀ (t : List S36) (found : Bool) (lo : Int), ((w1 l need found lo t).1 = true ↔ found = true ∨ ∃ s ∈ t, P l need s.f0) ∧ (∀ s ∈ t, P l need s.f0 → (w1 l need found lo t).2 ≤ s.f0) ∧ (found = true → (w1 l need found lo t).2 ≤ lo) ∧
    ((w1 l need found lo t).2 = lo ∨ ∃ s ∈ t, P l need s.f0 ∧ (w1 l need found lo t).2 = s.f0) ∧ (found = false → (w1 l need found lo t).1 = true → ∃ s ∈ t, P l need s.f0 ∧ (w1 l need found lo t).2 = s.f0)
  | [], found, lo => ⟨by simp [w1], fun s hs => (by cases hs), fun _ => Int.le_refl _, Or.inl rfl, fun h1 h2 => (by simp [w1, h1] at h2)⟩
  | s :: t, found, lo => by
    unfold w1
    by_cases c : cov l s.f0 ≥ need ∧ (found = false ∨ s.f0 < lo)
    · rw [if_pos c]
      obtain ⟨h1, h2, h3, h4, _⟩ := w1_tells l need t true s.f0
      have h3 := h3 rfl
      have hex : ∃ q ∈ s :: t, P l need q.f0 ∧ (w1 l need true s.f0 t).2 = q.f0 := by
        rcases h4 with h4 | ⟨q, hq, hp, he⟩
        · exact ⟨s, List.mem_cons_self, c.1, h4⟩
        · exact ⟨q, List.mem_cons_of_mem _ hq, hp, he⟩
      refine ⟨⟨fun _ => Or.inr ⟨s, List.mem_cons_self, c.1⟩, fun _ => h1.2 (Or.inl rfl)⟩, fun q hq hp => ?_, fun hf => ?_, Or.inr hex, fun _ _ => hex⟩
      · rcases List.mem_cons.1 hq with rfl | hq
        · exact h3
        · exact h2 q hq hp
      · rcases c.2 with c2 | c2
        · rw [hf] at c2; cases c2
        · omega
    · rw [if_neg c]
      obtain ⟨h1, h2, h3, h4, h5⟩ := w1_tells l need t found lo
      refine ⟨?_, fun q hq hp => ?_, h3, ?_, fun hf ht => ?_⟩
      · rw [h1]
        constructor
        · rintro (h | ⟨q, hq, hp⟩)
          · exact Or.inl h
          · exact Or.inr ⟨q, List.mem_cons_of_mem _ hq, hp⟩
        · rintro (h | ⟨q, hq, hp⟩)
          · exact Or.inl h
          · rcases List.mem_cons.1 hq with rfl | hq
            · cases hb : found with
              | true => exact Or.inl rfl
              | false => exact absurd ⟨hp, Or.inl hb⟩ c
            · exact Or.inr ⟨q, hq, hp⟩
      · rcases List.mem_cons.1 hq with rfl | hq
        · cases hb : found with
          | true =>
            have := h3 hb
            rw [hb] at this
            have : ¬ q.f0 < lo := fun h => c ⟨hp, Or.inr h⟩
            omega
          | false => exact absurd ⟨hp, Or.inl hb⟩ c
        · exact h2 q hq hp
      · rcases h4 with h4 | ⟨q, hq, hp, he⟩
        · exact Or.inl h4
        · exact Or.inr ⟨q, List.mem_cons_of_mem _ hq, hp, he⟩
      · obtain ⟨q, hq, hp, he⟩ := h5 hf ht
        exact ⟨q, List.mem_cons_of_mem _ hq, hp, he⟩
theorem w2_tells (l : List S36) (need : Int) : ∀ (t : List S36) (hi : Int), hi ≤ w2 l need hi t ∧ (∀ s ∈ t, P l need s.f1 → s.f1 ≤ w2 l need hi t) ∧ (w2 l need hi t = hi ∨ ∃ s ∈ t, P l need s.f1 ∧ w2 l need hi t = s.f1)
  | [], hi => ⟨Int.le_refl _, fun s hs => (by cases hs), Or.inl rfl⟩
  | s :: t, hi => by
    unfold w2
    by_cases c : cov l s.f1 ≥ need
    · rw [if_pos c]
      obtain ⟨h1, h2, h3⟩ := w2_tells l need t (max hi s.f1)
      refine ⟨by omega, fun q hq hp => ?_, ?_⟩
      · rcases List.mem_cons.1 hq with rfl | hq
        · omega
        · exact h2 q hq hp
      · rcases h3 with h3 | ⟨q, hq, hp, he⟩
        · rcases Int.le_total hi s.f1 with hle | hle
          · right; exact ⟨s, List.mem_cons_self, c, by omega⟩
          · left; omega
        · right; exact ⟨q, List.mem_cons_of_mem _ hq, hp, he⟩
    · rw [if_neg c]
      obtain ⟨h1, h2, h3⟩ := w2_tells l need t hi
      refine ⟨h1, fun q hq hp => ?_, ?_⟩
      · rcases List.mem_cons.1 hq with rfl | hq
        · exact absurd hp c
        · exact h2 q hq hp
      · rcases h3 with h3 | ⟨q, hq, hp, he⟩
        · left; exact h3
        · right; exact ⟨q, List.mem_cons_of_mem _ hq, hp, he⟩
/-- What a state says of the numbers seen. -/
def Inv (l : List S36) (need : Int) (seen : Int → Prop) (q : Int × Int × Bool) : Prop :=
  (q.2.2 = false ∧ ∀ x, seen x → ¬ P l need x) ∨ (q.2.2 = true ∧ (seen q.1 ∧ P l need q.1) ∧ (seen q.2.1 ∧ P l need q.2.1) ∧ ∀ x, seen x → P l need x → q.1 ≤ x ∧ x ≤ q.2.1)
theorem st_inv (l : List S36) (need : Int) {seen : Int → Prop} {q : Int × Int × Bool} (h : Inv l need seen q) (y : Int) : Inv l need (fun x => seen x ∨ x = y) (st l need q y) := by
  unfold st
  by_cases c : cov l y ≥ need
  · rw [if_pos c]
    right
    rcases h with ⟨h1, h2⟩ | ⟨h1, ⟨h2, h2'⟩, ⟨h3, h3'⟩, h4⟩
    · simp only [h1, true_or, if_true]
      refine ⟨trivial, ⟨by simp, c⟩, ⟨by simp, c⟩, ?_⟩
      rintro x (hx | rfl) hp
      · exact absurd hp (h2 x hx)
      · exact ⟨Int.le_refl _, Int.le_refl _⟩
    · simp only [h1, Bool.true_eq_false, false_or]
      have hq := h4 q.1 h2 h2'
      by_cases c1 : y < q.1
      · have c2 : ¬ y > q.2.1 := by omega
        simp only [if_pos c1, if_neg c2]
        refine ⟨trivial, ⟨by simp, c⟩, ⟨Or.inl h3, h3'⟩, ?_⟩
        rintro x (hx | rfl) hp
        · have := h4 x hx hp; omega
        · omega
      · by_cases c2 : y > q.2.1
        · simp only [if_neg c1, if_pos c2]
          refine ⟨trivial, ⟨Or.inl h2, h2'⟩, ⟨by simp, c⟩, ?_⟩
          rintro x (hx | rfl) hp
          · have := h4 x hx hp; omega
          · omega
        · simp only [if_neg c1, if_neg c2]
          refine ⟨trivial, ⟨Or.inl h2, h2'⟩, ⟨Or.inl h3, h3'⟩, ?_⟩
          rintro x (hx | rfl) hp
          · exact h4 x hx hp
          · omega
  · rw [if_neg c]
    rcases h with ⟨h1, h2⟩ | ⟨h1, ⟨h2, h2'⟩, ⟨h3, h3'⟩, h4⟩
    · left
      refine ⟨h1, ?_⟩
      rintro x (hx | rfl) hp
      · exact h2 x hx hp
      · exact c hp
    · right
      refine ⟨h1, ⟨Or.inl h2, h2'⟩, ⟨Or.inl h3, h3'⟩, ?_⟩
      rintro x (hx | rfl) hp
      · exact h4 x hx hp
      · exact absurd hp c
theorem w3_inv (l : List S36) (need : Int) : ∀ (t : List S36) (seen : Int → Prop) (q : Int × Int × Bool), Inv l need seen q → Inv l need (fun x => seen x ∨ ∃ s ∈ t, x = s.f0 ∨ x = s.f1) (w3 l need q t)
  | [], seen, q, h => by
    unfold w3
    have : (fun x => seen x ∨ ∃ s ∈ ([] : List S36), x = s.f0 ∨ x = s.f1) = seen := by funext x; simp
    rw [this]; exact h
  | s :: t, seen, q, h => by
    unfold w3
    have := w3_inv l need t _ _ (st_inv l need (st_inv l need h s.f0) s.f1)
    have e : (fun x => seen x ∨ ∃ q ∈ s :: t, x = q.f0 ∨ x = q.f1) = (fun x => ((seen x ∨ x = s.f0) ∨ x = s.f1) ∨ ∃ q ∈ t, x = q.f0 ∨ x = q.f1) := by
      funext x
      simp only [List.mem_cons, exists_eq_or_imp, or_assoc]
    rw [e]; exact this

theorem within_law (l : List S36) (need : Int) (h : ss l = 0) (hn : 1 ≤ need) : (if (w1 l need false 0 l).1 = true then ((w1 l need false 0 l).2, w2 l need (w1 l need false 0 l).2 l, (0 : Int)) else (0, 0, 6)) =
    (if (w3 l need (0, 0, false) l).2.2 = true then ((w3 l need (0, 0, false) l).1, (w3 l need (0, 0, false) l).2.1, 0) else (0, 0, 6)) := by
  obtain ⟨hl40, hne, hv⟩ := ss_zero h
  obtain ⟨a1, a2, _, _, a5⟩ := w1_tells l need l false 0
  have hinv := w3_inv l need l (fun _ => False) (0, 0, false) (Or.inl ⟨rfl, fun _ h => h.elim⟩)
  generalize hq : w3 l need (0, 0, false) l = q at hinv ⊢
  rcases hinv with ⟨h1, h2⟩ | ⟨h1, ⟨h2, h2'⟩, ⟨h3, h3'⟩, h4⟩
  · have hno : ¬ (q.2.2 = true) := by rw [h1]; decide
    have hnw : ¬ ((w1 l need false 0 l).1 = true) := by
      intro hc
      rcases a1.1 hc with hc | ⟨s, hs, hp⟩
      · cases hc
      · exact h2 s.f0 (Or.inr ⟨s, hs, Or.inl rfl⟩) hp
    rw [if_neg hno, if_neg hnw]
  · rw [if_pos h1]
    obtain ⟨s, hs, hsc, hse⟩ := cov_begin (l := l) (x := q.1) (by unfold P at h2'; omega)
    have hps : P l need s.f0 := by unfold P at h2' ⊢; omega
    have ht : (w1 l need false 0 l).1 = true := a1.2 (Or.inr ⟨s, hs, hps⟩)
    rw [if_pos ht]
    obtain ⟨r, hr, hrp, hre⟩ := a5 rfl ht
    have elo : (w1 l need false 0 l).2 = q.1 := by
      have k1 := a2 s hs hps
      have k2 := (h4 r.f0 (Or.inr ⟨r, hr, Or.inl rfl⟩) hrp).1
      have k3 := (h4 s.f0 (Or.inr ⟨s, hs, Or.inl rfl⟩) hps).1
      omega
    rw [elo]
    obtain ⟨b1, b2, b3⟩ := w2_tells l need l q.1
    obtain ⟨u, hu, huc, hue⟩ := cov_end (l := l) (x := q.2.1) (by unfold P at h3'; omega)
    have hpu : P l need u.f1 := by unfold P at h3' ⊢; omega
    have k1 := b2 u hu hpu
    have k2 := (h4 u.f1 (Or.inr ⟨u, hu, Or.inr rfl⟩) hpu).2
    have k3 : w2 l need q.1 l ≤ q.2.1 := by
      rcases b3 with b3 | ⟨v, hv', hvp, hve⟩
      · rw [b3]; exact (h4 q.1 h2 h2').2
      · rw [hve]; exact (h4 v.f1 (Or.inr ⟨v, hv', Or.inr rfl⟩) hvp).2
    rw [show w2 l need q.1 l = q.2.1 by omega]

theorem within_ev (l : List S36) (need : Int) : Ev (fun k => agree_Within.f k l need) (if ss l = 0 then (if need < 1 ∨ need > l.length then (0, 0, 1) else (if (w3 l need (0, 0, false) l).2.2 = true then ((w3 l need (0, 0, false) l).1, (w3 l need (0, 0, false) l).2.1, 0) else (0, 0, 6))) else (0, 0, ss l)) := by
  unfold agree_Within.f
  refine ev_bind (agree_Check_ev l) ?_
  by_cases e : ss l = 0
  · simp only [if_pos e]
    by_cases c1 : need < 1
    · simp only [if_pos c1, if_pos (Or.inl c1 : need < 1 ∨ need > l.length)]
      exact ev_some 1 fun k => by rw [agree_Within.j0, if_pos rfl]
    by_cases c2 : need > l.length
    · simp only [if_neg c1, if_pos (Or.inr c2 : need < 1 ∨ need > l.length)]
      exact ev_some 1 fun k => by rw [agree_Within.j0, if_pos (by simpa using c2)]
    simp only [if_neg c1, if_neg (show ¬ (need < 1 ∨ need > l.length) by omega)]
    rw [← within_law l need e (by omega)]
    exact ev_step 1 (f := fun k => agree_Within.l0 k l need false l (l.length : Int) 0 0 0) (fun k => by rw [agree_Within.j0, if_neg (by simpa using c2)]) (loop1 l need (ss_zero e).1 l 0 0 false (by omega) rfl)
  · simp only [if_neg e]; exact ⟨0, fun _ _ => rfl⟩

theorem AgreeWithins : PureX := by
  intro l need hl hneed
  refine ev_k ?_
  unfold ephemerislaw2_AgreeWithins.f
  refine ev_bind works_ev ?_
  simp only [if_true]
  refine ev_bind (within_ev l need) ?_
  refine ev_bind (spansErr_ev l) ?_
  by_cases e : ss l = 0
  · simp only [if_pos e]
    by_cases c : need < 1 ∨ need > l.length
    · simp only [if_pos c]
      have : Ev (fun k => ephemerislaw2_AgreeWithins.j0 k l need 1 (ss l) true 0 0) true := by
        refine ev_some 2 fun k => ?_
        rw [ephemerislaw2_AgreeWithins.j0, if_pos rfl, ephemerislaw2_AgreeWithins.j1, if_neg (by decide), none_at 0 0 1 1 rfl rfl rfl]
        rfl
      by_cases c1 : need < 1
      · simp only [if_pos c1]; exact this
      · have c2 : need > l.length := by omega
        simp only [if_neg c1, decide_eq_true c2]; exact this
    · simp only [if_neg c, if_neg (show ¬ need < 1 by omega), decide_eq_false (show ¬ need > l.length by omega), e]
      have hw := ref_loop l need (ss_zero e).1 l 0 0 0 false (by omega) rfl
      have hw : Ev (fun k => ephemerisref2_Within.f k l need) (w3 l need (0, 0, false) l) := hw
      generalize w3 l need (0, 0, false) l = q at hw ⊢
      refine ev_step 2 (f := fun k => (ephemerisref2_Within.f k l need).bind fun bt180 => (if bt180.2.2 = true then (if (if q.2.2 = true then (q.1, q.2.1, (0 : Int)) else (0, 0, 6)).2.2 = 0 then (some ((if q.2.2 = true then (q.1, q.2.1, (0 : Int)) else (0, 0, 6)).1 == bt180.1 && ((if q.2.2 = true then (q.1, q.2.1, (0 : Int)) else (0, 0, 6)).2.1 == bt180.2.1))) else (some false)) else ((ephemerislaw2_none.f (if q.2.2 = true then (q.1, q.2.1, (0 : Int)) else (0, 0, 6)).1 (if q.2.2 = true then (q.1, q.2.1, (0 : Int)) else (0, 0, 6)).2.1 (if q.2.2 = true then (q.1, q.2.1, (0 : Int)) else (0, 0, 6)).2.2 6).bind fun t184 => (some t184)))) (fun k => ?_) ?_
      · rw [ephemerislaw2_AgreeWithins.j0, if_neg (by decide), ephemerislaw2_AgreeWithins.j1, if_pos rfl]
      · refine ev_bind hw ?_
        cases hq : q.2.2 with
        | true => simp only [if_true]; exact ⟨0, fun _ _ => by simp⟩
        | false => simp only [Bool.false_eq_true, if_false, none_at 0 0 6 6 rfl rfl rfl]; exact ⟨0, fun _ _ => rfl⟩
  · simp only [if_neg e]
    refine ev_some 2 fun k => ?_
    rw [ephemerislaw2_AgreeWithins.j0, if_neg (by decide), ephemerislaw2_AgreeWithins.j1, if_neg e, none_at 0 0 _ _ rfl rfl rfl]
    rfl

end Go.Proofs.Ytcmgfhfnfkelfaa.Pure
