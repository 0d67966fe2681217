/- Chronologies in plain numbers: relaxation from one event tells the row of the matrix, or runs on where a walk back is below zero; no program in sight. -/
import Derived.Test.YtfbjpdiaicaagaaTopContradictn14
namespace Go.Proofs.Ytfbjpdiaicaagaa.ChrC
open Go.RowKit Go.Proofs.YtfbjpdiaicaagaaW.PrintWords Go.Proofs.YtfbjpdiaicaagaaW.PrintLast Go.Proofs.YtfbjpdiaicaagaaW.PrintMore Go.Proofs.Ytfbjpdiaicaagaa.Opn Go.Proofs.Ytfbjpdiaicaagaa.PAll Go.Proofs.Ytfbjpdiaicaagaa.Base Go.Proofs.Ytfbjpdiaicaagaa.ChrA Go.Proofs.Ytfbjpdiaicaagaa.ChrB
set_option linter.unusedVariables false
set_option linter.unusedSimpArgs false
theorem wk_all {m : Nat} {l : List S43} (G : GoodB m l) : ∀ {p : List Nat} {i k : Nat} {w : Int}, Wk l i p k w → ∀ x ∈ p, x < m
  | [], _, _, _, _, x, hx => by cases hx
  | y :: p, i, k, w, ⟨u, h1, h2⟩, x, hx => by
    rcases List.mem_cons.1 hx with rfl | hx
    · exact (ed_in G h1).2.1
    · exact wk_all G h2 x hx
theorem wk_at {l : List S43} {j k : Nat} {b : List Nat} : ∀ {a : List Nat} {i : Nat} {w : Int}, Wk l i (a ++ j :: b) k w → ∃ u, Wk l i a j u ∧ Wk l j b k (w - u)
  | [], i, w, ⟨u, h1, h2⟩ => ⟨u, h1, h2⟩
  | y :: a, i, w, ⟨u, h1, h2⟩ => by
    obtain ⟨s, hs, h3⟩ := wk_at h2
    exact ⟨s + u, ⟨u, h1, by rw [show s + u - u = s by omega]; exact hs⟩, by rw [show w - (s + u) = w - u - s by omega]; exact h3⟩
theorem wk_le {m : Nat} {l : List S43} (G : GoodB m l) : ∀ {p : List Nat} {i k : Nat} {w : Int}, Wk l i p k w → w ≤ 8000000 * (p.length + 1)
  | [], i, k, w, h => by have := ed_in G h; simp; omega
  | x :: p, i, k, w, ⟨u, h1, h2⟩ => by
    have := wk_le G h2
    have := ed_in G h1
    simp only [List.length_cons]
    omega
theorem dup_cut : ∀ p : List Nat, ¬ p.Nodup → ∃ a j b c, p = a ++ j :: (b ++ j :: c)
  | [], h => absurd List.nodup_nil h
  | x :: p, h => by
    by_cases c : x ∈ p
    · obtain ⟨a, b, rfl⟩ := List.append_of_mem c
      exact ⟨[], x, a, b, rfl⟩
    · have : ¬ p.Nodup := fun hp => h (List.nodup_cons.2 ⟨c, hp⟩)
      obtain ⟨a, j, b, d, rfl⟩ := dup_cut p this
      exact ⟨x :: a, j, b, d, rfl⟩
section
variable {l : List S43} {m : Nat} {f : Nat → Nat → Int}
theorem wk_cyc (G : GoodB m l) (h : Stg l m m f) {j : Nat} {p : List Nat} {w : Int} (hw : Wk l j p j w) : 0 ≤ w := by
  have hn := G.n2
  have := stg_wk G (by omega) h hw (wk_all G hw)
  have := h.diag j (wk_in G hw).1
  omega
theorem wk_short (G : GoodB m l) (h : Stg l m m f) {i k : Nat} : ∀ (n : Nat) {p : List Nat} {w : Int}, p.length ≤ n → Wk l i p k w → ∃ q u, Wk l i q k u ∧ q.length ≤ m ∧ u ≤ w
  | 0, p, w, hn, hw => ⟨p, w, hw, by omega, Int.le_refl _⟩
  | n + 1, p, w, hn, hw => by
    by_cases c : p.Nodup
    · exact ⟨p, w, hw, nodup_len m p c (wk_all G hw), Int.le_refl _⟩
    · obtain ⟨a, j, b, d, rfl⟩ := dup_cut p c
      obtain ⟨u1, h1, h2⟩ := wk_at hw
      obtain ⟨u2, h3, h4⟩ := wk_at h2
      have hj := wk_cyc G h h3
      obtain ⟨q, u, g1, g2, g3⟩ := wk_short G h n (p := a ++ j :: d) (by simp only [List.length_append, List.length_cons] at hn ⊢; omega) (wk_add h4 h1)
      exact ⟨q, u, g1, g2, by omega⟩
def rnd (l : List S43) (d : Nat → Int) : (Nat → Int) × Bool := l.foldl rb (d, false)
def d0 (s : Nat) : Nat → Int := fun k => if k = s then 0 else 1000000000
/-- rounds until nothing changes: one, and j more at most -/
def bf (l : List S43) : Nat → (Nat → Int) → (Nat → Int) × Bool
  | 0, d => if (rnd l d).2 = true then (d, false) else (d, true)
  | j + 1, d => if (rnd l d).2 = true then bf l j (rnd l d).1 else (d, true)
theorem rb_bf {s : Nat} {b : S43} (hb : Ok m b) {q : (Nat → Int) × Bool} (hq : Bf m s q.1) : Bf m s (rb q b).1 := by
  obtain ⟨o1, o2, o3, o4, o5, o6, o7, o8⟩ := hb
  exact rl_bf (rl_bf hq (by omega) (by omega) (by omega)) (by omega) (by omega) (by omega)
theorem rbs_bf {s : Nat} : ∀ (t : List S43), (∀ b ∈ t, Ok m b) → ∀ q : (Nat → Int) × Bool, Bf m s q.1 → Bf m s (t.foldl rb q).1
  | [], _, q, h => h
  | b :: t, ht, q, h => rbs_bf t (fun x hx => ht x (List.mem_cons_of_mem _ hx)) (rb q b) (rb_bf (ht b List.mem_cons_self) h)
theorem rb_snd (G : GoodB m l) (hF : Stg l m m f) {s : Nat} (hs : s < m) {b : S43} (hb : b ∈ l) {q : (Nat → Int) × Bool} (hq : Snd m s f q.1) : Snd m s f (rb q b).1 := by
  obtain ⟨o1, o2, o3, o4, o5, o6, o7, o8⟩ := G.ok b hb
  exact rl_snd hF hs (rl_snd hF hs hq (by omega) (by omega) (by omega) ⟨b, hb, Or.inl ⟨rfl, rfl, rfl⟩⟩) (by omega) (by omega) (by omega) ⟨b, hb, Or.inr ⟨rfl, rfl, rfl⟩⟩
theorem rbs_snd (G : GoodB m l) (hF : Stg l m m f) {s : Nat} (hs : s < m) : ∀ (t : List S43), (∀ b ∈ t, b ∈ l) → ∀ q : (Nat → Int) × Bool, Snd m s f q.1 → Snd m s f (t.foldl rb q).1
  | [], _, q, h => h
  | b :: t, ht, q, h => rbs_snd G hF hs t (fun x hx => ht x (List.mem_cons_of_mem _ hx)) (rb q b) (rb_snd G hF hs (ht b List.mem_cons_self) h)
/-- nothing to change -/
theorem rl_same {q : (Nat → Int) × Bool} {a b : Nat} {w : Int} (h : q.1 a < 1000000000 → q.1 b ≤ q.1 a + w) : rl q a b w = q := by
  unfold rl
  split
  · rename_i c; have := h c.1; omega
  · rfl
theorem rbs_same {q : (Nat → Int) × Bool} : ∀ (t : List S43), (∀ x y w, Ed t x y w → q.1 x < 1000000000 → q.1 y ≤ q.1 x + w) → t.foldl rb q = q
  | [], _ => rfl
  | b :: t, h => by
    have e1 : rb q b = q := by
      unfold rb
      have e : rl q b.f0.toNat b.f1.toNat b.f3 = q := rl_same (fun hx => h _ _ _ ⟨b, List.mem_cons_self, Or.inl ⟨rfl, rfl, rfl⟩⟩ hx)
      rw [e]
      exact rl_same (fun hx => h _ _ _ ⟨b, List.mem_cons_self, Or.inr ⟨rfl, rfl, rfl⟩⟩ hx)
    show t.foldl rb (rb q b) = q
    rw [e1]
    exact rbs_same t (fun x y w ⟨c, hc, he⟩ => h x y w ⟨c, List.mem_cons_of_mem _ hc, he⟩)
/-- behind r rounds walks of r edges are told -/
def Wlk (l : List S43) (s r : Nat) (d : Nat → Int) : Prop := ∀ p k w, Wk l s p k w → p.length + 1 ≤ r → d k ≤ w
theorem wlk_next (G : GoodB m l) {s r : Nat} {d : Nat → Int} (hr : r ≤ 50) (hs : d s ≤ 0) (h : Wlk l s r d) : Wlk l s (r + 1) (rnd l d).1 := by
  intro p k w hw hp
  rcases List.eq_nil_or_concat p with rfl | ⟨p', x, rfl⟩
  · have := rbs_by l (d, false) s k w hw (by show d s < _; omega)
    have e : (d, false).1 s = d s := rfl
    show (l.foldl rb (d, false)).1 k ≤ w
    omega
  · rw [List.concat_eq_append] at hw hp
    obtain ⟨u, h1, h2⟩ := wk_at hw
    simp only [List.length_append, List.length_cons, List.length_nil] at hp
    have h3 := h p' x u h1 (by omega)
    have h4 := wk_le G h1
    have := rbs_by l (d, false) x k (w - u) h2 (by show d x < _; omega)
    have e : (d, false).1 x = d x := rfl
    show (l.foldl rb (d, false)).1 k ≤ w
    omega
theorem eq_of (G : GoodB m l) (hF : Stg l m m f) {s r : Nat} (hs : s < m) {d : Nat → Int} (hb : Bf m s d) (hn : Snd m s f d) (hw : Wlk l s r d) (hr : m + 1 ≤ r) : ∀ k, k < m → d k = f s k := by
  intro k hk
  have h1 := hb.far k hk
  have h2 := hF.far s k hs hk
  by_cases c : k = s
  · subst c
    have e1 := hb.src
    have e2 := hF.diag k hk
    have := hn k hk (by omega)
    omega
  · by_cases c2 : f s k < 1000000000
    · obtain ⟨p, hp, hwk⟩ := hF.walk s k hs hk c2 (fun e => c e.symm)
      obtain ⟨q, u, g1, g2, g3⟩ := wk_short G hF p.length (Nat.le_refl _) hwk
      have := hw q k u g1 (by omega)
      have := hn k hk (by omega)
      omega
    · by_cases c3 : d k < 1000000000
      · have := hn k hk c3; omega
      · omega
theorem bf_good (G : GoodB m l) (hF : Stg l m m f) {s : Nat} (hs : s < m) : ∀ (j r : Nat) (d : Nat → Int), Bf m s d → Snd m s f d → Wlk l s r d → m + 1 ≤ r + j → (bf l j d).2 = true ∧ ∀ k, k < m → (bf l j d).1 k = f s k := by
  have hm := G.n2
  have fixed : ∀ (r : Nat) (d : Nat → Int), Bf m s d → Snd m s f d → Wlk l s r d → rnd l d = (d, false) → ∀ k, k < m → d k = f s k := by
    intro r d hb hn hw he
    have all : ∀ n : Nat, n ≤ 20 → Wlk l s n d := by
      intro n
      induction n with
      | zero => intro _ p k w _ hp; omega
      | succ n ih =>
        intro hn
        have := wlk_next G (by omega) hb.src (ih (by omega))
        rw [he] at this
        exact this
    exact eq_of G hF hs hb hn (all 20 (by omega)) (by omega)
  have stop : ∀ d : Nat → Int, ¬ (rnd l d).2 = true → rnd l d = (d, false) := fun d hc => rbs_no l (d, false) (by simpa [rnd] using hc)
  have late : ∀ (r : Nat) (d : Nat → Int), Bf m s d → Snd m s f d → Wlk l s r d → m + 1 ≤ r → ¬ (rnd l d).2 = true := by
    intro r d hb hn hw hr
    have e := eq_of G hF hs hb hn hw hr
    have : rnd l d = (d, false) := rbs_same l (fun x y w he hx => by
      have i := ed_in G he
      have hx' : d x < 1000000000 := hx
      have e1 := e x i.1
      have e2 := e y i.2.1
      have e3 := hF.up x y w he
      have := hF.tri s x y hs i.1 i.2.1 i.1 (by omega) (by omega)
      show d y ≤ d x + w
      omega)
    rw [this]; simp
  intro j
  induction j with
  | zero =>
    intro r d hb hn hw hr
    have h := late r d hb hn hw (by omega)
    unfold bf
    rw [if_neg h]
    exact ⟨rfl, fixed r d hb hn hw (stop d h)⟩
  | succ j ih =>
    intro r d hb hn hw hr
    unfold bf
    by_cases h : (rnd l d).2 = true
    · rw [if_pos h]
      have hlt : r ≤ 50 := by
        by_cases c : m + 1 ≤ r
        · exact absurd h (late r d hb hn hw c)
        · omega
      exact ih (r + 1) (rnd l d).1 (rbs_bf l G.ok _ hb) (rbs_snd G hF hs l (fun _ h => h) _ hn) (wlk_next G hlt hb.src hw) (by omega)
    · rw [if_neg h]
      exact ⟨rfl, fixed r d hb hn hw (stop d h)⟩
theorem bf_bad (G : GoodB m l) {s : Nat} (hs : s < m) {p : List Nat} {w : Int} (hw : Wk l s p s w) (hneg : w < 0) : ∀ (j : Nat) (d : Nat → Int), Bf m s d → (bf l j d).2 = false := by
  have hm := G.n2
  have on : ∀ d : Nat → Int, Bf m s d → (rnd l d).2 = true := by
    intro d hb
    by_cases h : (rnd l d).2 = true
    · exact h
    · exfalso
      have he : rnd l d = (d, false) := rbs_no l (d, false) (by simpa [rnd] using h)
      have step : ∀ x y w, Ed l x y w → d x < 1000000000 → d y ≤ d x + w := by
        intro x y w hE hx
        have := rbs_by l (d, false) x y w hE hx
        have e : l.foldl rb (d, false) = (d, false) := he
        rw [e] at this
        exact this
      have go : ∀ (p : List Nat) (i k : Nat) (w : Int), Wk l i p k w → d i < 1000000000 → d k ≤ d i + w := by
        intro p
        induction p with
        | nil => intro i k w h hi; exact step i k w h hi
        | cons x p ih =>
          intro i k w ⟨u, h1, h2⟩ hi
          have e := ed_in G h1
          have a1 := step i x u h1 hi
          have a2 := hb.num i e.1 hi
          have a3 := cnt_le (fin d) m
          have := ih x k (w - u) h2 (by omega)
          omega
      have := go p s s w hw (by have := hb.src; omega)
      omega
  intro j
  induction j with
  | zero => intro d hb; unfold bf; rw [if_pos (on d hb)]
  | succ j ih => intro d hb; unfold bf; rw [if_pos (on d hb)]; exact ih _ (rbs_bf l G.ok _ hb)
theorem d0_at (s k : Nat) : (k = s ∧ d0 s k = 0) ∨ (k ≠ s ∧ d0 s k = 1000000000) := by
  unfold d0
  by_cases c : k = s
  · exact Or.inl ⟨c, if_pos c⟩
  · exact Or.inr ⟨c, if_neg c⟩
theorem bf_zero {s : Nat} (hs : s < m) : Bf m s (d0 s) := by
  refine ⟨fun k hk => ?_, fun k hk hf => ?_, ?_⟩
  · rcases d0_at s k with ⟨_, e⟩ | ⟨_, e⟩ <;> omega
  · rcases d0_at s k with ⟨_, e⟩ | ⟨_, e⟩
    · have : cnt (fin (d0 s)) m ≠ 0 := fun h => cnt_zero m h k hk (by unfold fin; apply decide_eq_true; omega)
      omega
    · omega
  · rcases d0_at s s with ⟨_, e⟩ | ⟨h, e⟩
    · omega
    · exact absurd rfl h
theorem snd_zero (hF : Stg l m m f) {s : Nat} (hs : s < m) : Snd m s f (d0 s) := by
  intro k hk hf
  rcases d0_at s k with ⟨e1, e⟩ | ⟨_, e⟩
  · subst e1; have := hF.diag k hk; omega
  · omega
theorem wlk_zero (s : Nat) (d : Nat → Int) : Wlk l s 0 d := fun p k w _ hp => by omega
def ngs (m : Nat) (f : Nat → Nat → Int) : Bool := (List.range m).any (fun i => decide (f i i < 0))
theorem ngs_no {m : Nat} {f : Nat → Nat → Int} (h : ngs m f = false) : ∀ i, i < m → 0 ≤ f i i := by
  intro i hi
  have := List.any_eq_false.1 h i (List.mem_range.2 hi)
  simp only [decide_eq_true_eq] at this
  omega
theorem ngs_yes {m : Nat} {f : Nat → Nat → Int} (h : ngs m f = true) : ∃ i, i < m ∧ f i i < 0 := by
  obtain ⟨i, h1, h2⟩ := List.any_eq_true.1 h
  exact ⟨i, List.mem_range.1 h1, of_decide_eq_true h2⟩
def fw (m : Nat) : Nat → Nat → (Nat → Nat → Int) → Option (Nat → Nat → Int)
  | 0, v, f => some f
  | j + 1, v, f => if ngs m (st f v) = true then none else fw m j (v + 1) (st f v)
theorem fw_tells (G : GoodB m l) : ∀ (j v : Nat) (f : Nat → Nat → Int), v + j = m → Stg l m v f → (∃ g, fw m j v f = some g ∧ Stg l m m g) ∨ (fw m j v f = none ∧ ∃ s p w, s < m ∧ w < 0 ∧ Wk l s p s w)
  | 0, v, f, hv, h => by
    obtain rfl : v = m := by omega
    exact Or.inl ⟨f, rfl, h⟩
  | j + 1, v, f, hv, h => by
    unfold fw
    by_cases c : ngs m (st f v) = true
    · rw [if_pos c]
      right
      refine ⟨rfl, ?_⟩
      obtain ⟨i, hi, hn⟩ := ngs_yes c
      have hd := h.diag v (by omega)
      rcases st_or (f := f) (v := v) i i with e | ⟨e1, e2, e⟩
      · have := h.diag i hi; omega
      · have hne : i ≠ v := by rintro rfl; omega
        obtain ⟨p, _, hp⟩ := h.walk i v hi (by omega) e1 hne
        obtain ⟨q, _, hq⟩ := h.walk v i (by omega) hi e2 (fun e => hne e.symm)
        exact ⟨i, _, _, hi, by omega, wk_add hq hp⟩
    · rw [if_neg c]
      exact fw_tells G j (v + 1) (st f v) (by omega) (stg_next G (by omega) h (ngs_no (by simpa using c)))
/-- the bounds ahead of the stages -/
def ini (l : List S43) : Nat → Nat → Int := l.foldl ub g0
theorem ini_all : ∀ (t d : List S43) (f : Nat → Nat → Int), (∀ b ∈ t, Ok m b) → Ini d f → Ini (d ++ t) (t.foldl ub f)
  | [], d, f, _, h => by simpa using h
  | b :: t, d, f, ht, h => by
    have := ini_all t (d ++ [b]) (ub f b) (fun x hx => ht x (List.mem_cons_of_mem _ hx)) (ini_next (ht b List.mem_cons_self) h)
    rw [List.append_assoc] at this
    exact this
theorem ini_ok (G : GoodB m l) : Stg l m 0 (ini l) := ini_stg G (show Ini l (ini l) from ini_all l [] g0 G.ok ini_zero)
/-- the days that relaxation tells -/
def lng (m : Nat) (l : List S43) (s : Nat) : (Nat → Int) × Bool := bf l (2 * m + 1) (d0 s)
theorem sol_or (G : GoodB m l) : (∃ g, fw m m 0 (ini l) = some g ∧ Stg l m m g ∧ ∀ s, s < m → (lng m l s).2 = true ∧ ∀ k, k < m → (lng m l s).1 k = g s k) ∨ (fw m m 0 (ini l) = none ∧ ∃ s, s < m ∧ (lng m l s).2 = false) := by
  rcases fw_tells G m 0 (ini l) (by omega) (ini_ok G) with ⟨g, e, h⟩ | ⟨e, s, p, w, hs, hw, hp⟩
  · refine Or.inl ⟨g, e, h, fun s hs => ?_⟩
    exact bf_good G h hs (2 * m + 1) 0 (d0 s) (bf_zero hs) (snd_zero h hs) (wlk_zero s _) (by omega)
  · exact Or.inr ⟨e, s, hs, bf_bad G hs hp hw _ _ (bf_zero hs)⟩
end
end Go.Proofs.Ytfbjpdiaicaagaa.ChrC
