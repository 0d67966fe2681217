/- Chronologies in plain numbers: the three loops over a matrix, and relaxation from one event; no program in sight. -/
import Derived.Test.YtfbjpdiaicaagaaTopContradictn13
namespace Go.Proofs.Ytfbjpdiaicaagaa.ChrB
open Go.RowKit Go.Proofs.YtfbjpdiaicaagaaW.PrintWords Go.Proofs.YtfbjpdiaicaagaaW.PrintLast Go.Proofs.YtfbjpdiaicaagaaW.PrintMore Go.Proofs.Ytfbjpdiaicaagaa.Opn Go.Proofs.Ytfbjpdiaicaagaa.PAll Go.Proofs.Ytfbjpdiaicaagaa.Base Go.Proofs.Ytfbjpdiaicaagaa.ChrA
set_option linter.unusedVariables false
set_option linter.unusedSimpArgs false
theorem mn_le1 (a b : Int) : mn a b ≤ a := by unfold mn; split <;> omega
theorem mn_le2 (a b : Int) : mn a b ≤ b := by unfold mn; split <;> omega
theorem mn_or (a b : Int) : mn a b = a ∨ mn a b = b := by unfold mn; split <;> simp
/-- how many numbers below m there are -/
def cnt (p : Nat → Bool) : Nat → Nat
  | 0 => 0
  | m + 1 => cnt p m + (if p m = true then 1 else 0)
theorem cnt_le (p : Nat → Bool) : ∀ m, cnt p m ≤ m
  | 0 => Nat.le_refl _
  | m + 1 => by have := cnt_le p m; unfold cnt; split <;> omega
theorem cnt_mono {p q : Nat → Bool} : ∀ m, (∀ k, k < m → p k = true → q k = true) → cnt p m ≤ cnt q m
  | 0, _ => Nat.le_refl _
  | m + 1, h => by
    have ih := cnt_mono m (fun k hk => h k (by omega))
    have := h m (by omega)
    unfold cnt
    by_cases c : p m = true
    · rw [if_pos c, if_pos (this c)]; omega
    · rw [if_neg c]; omega
theorem cnt_lt {p q : Nat → Bool} : ∀ m, (∀ k, k < m → p k = true → q k = true) → ∀ j, j < m → q j = true → ¬ p j = true → cnt p m + 1 ≤ cnt q m
  | 0, _, j, hj, _, _ => by omega
  | m + 1, h, j, hj, hq, hp => by
    unfold cnt
    by_cases c : j = m
    · subst c
      have ih := cnt_mono (p := p) (q := q) j (fun k hk => h k (by omega))
      rw [if_neg hp, if_pos hq]; omega
    · have ih := cnt_lt m (fun k hk => h k (by omega)) j (by omega) hq hp
      have := h m (by omega)
      by_cases c2 : p m = true
      · rw [if_pos c2, if_pos (this c2)]; omega
      · rw [if_neg c2]; omega
theorem cnt_zero {p : Nat → Bool} : ∀ m, cnt p m = 0 → ∀ k, k < m → ¬ p k = true
  | 0, _, k, hk => by omega
  | m + 1, h, k, hk => by
    unfold cnt at h
    by_cases c : k = m
    · subst c; intro hp; rw [if_pos hp] at h; omega
    · exact cnt_zero m (by omega) k (by omega)
theorem nodup_len : ∀ (v : Nat) (p : List Nat), p.Nodup → (∀ x ∈ p, x < v) → p.length ≤ v
  | 0, [], _, _ => Nat.le_refl _
  | 0, x :: _, _, h => by have := h x List.mem_cons_self; omega
  | v + 1, p, hn, h => by
    have hn' : (p.erase v).Nodup := hn.erase v
    have := nodup_len v (p.erase v) hn' (fun x hx => by
      have h1 := (List.Nodup.mem_erase_iff hn).1 hx
      have := h x h1.2
      omega)
    have h2 := List.length_erase (a := v) (l := p)
    by_cases c : v ∈ p
    · rw [if_pos c] at h2; omega
    · rw [if_neg c] at h2; omega
/-- An edge of the bounds: from i to k, of weight w. -/
def Ed (l : List S43) (i k : Nat) (w : Int) : Prop := ∃ b ∈ l, (b.f0.toNat = i ∧ b.f1.toNat = k ∧ w = b.f3) ∨ (b.f1.toNat = i ∧ b.f0.toNat = k ∧ w = -b.f2)
theorem ed_in {m : Nat} {l : List S43} (G : GoodB m l) {i k : Nat} {w : Int} (h : Ed l i k w) : i < m ∧ k < m ∧ i ≠ k ∧ -8000000 ≤ w ∧ w ≤ 8000000 := by
  obtain ⟨b, hb, h⟩ := h
  obtain ⟨o1, o2, o3, o4, o5, o6, o7, o8⟩ := G.ok b hb
  omega
def Wk (l : List S43) (i : Nat) : List Nat → Nat → Int → Prop
  | [], k, w => Ed l i k w
  | x :: p, k, w => ∃ u, Ed l i x u ∧ Wk l x p k (w - u)
theorem wk_add {l : List S43} {x k : Nat} {w : Int} {q : List Nat} (h2 : Wk l x q k w) : ∀ {p : List Nat} {i : Nat} {u : Int}, Wk l i p x u → Wk l i (p ++ x :: q) k (u + w)
  | [], i, u, h1 => ⟨u, h1, by rw [show u + w - u = w by omega]; exact h2⟩
  | y :: p, i, u, ⟨s, hs, h1⟩ => ⟨s, hs, by rw [show u + w - s = u - s + w by omega]; exact wk_add h2 h1⟩
theorem wk_cut {l : List S43} {j k : Nat} {b : List Nat} : ∀ {a : List Nat} {i : Nat} {w : Int}, Wk l i (a ++ j :: b) k w → (∃ u, Wk l i a j u) ∧ ∃ u, Wk l j b k u
  | [], i, w, ⟨u, h1, h2⟩ => ⟨⟨u, h1⟩, ⟨_, h2⟩⟩
  | y :: a, i, w, ⟨u, h1, h2⟩ => by
    obtain ⟨⟨s, hs⟩, h3⟩ := wk_cut h2
    exact ⟨⟨s + u, u, h1, by rw [show s + u - u = s by omega]; exact hs⟩, h3⟩
theorem wk_in {m : Nat} {l : List S43} (G : GoodB m l) : ∀ {p : List Nat} {i k : Nat} {w : Int}, Wk l i p k w → i < m ∧ k < m
  | [], i, k, w, h => ⟨(ed_in G h).1, (ed_in G h).2.1⟩
  | x :: p, i, k, w, ⟨u, h1, h2⟩ => ⟨(ed_in G h1).1, (wk_in G h2).2⟩
/-- The matrix behind v stages. -/
structure Stg (l : List S43) (m v : Nat) (f : Nat → Nat → Int) : Prop where
  diag : ∀ i, i < m → f i i = 0
  far : ∀ i k, i < m → k < m → f i k ≤ 1000000000
  low : ∀ i k, i < m → k < m → -(8000000 * 2 ^ v) ≤ f i k
  up : ∀ i k w, Ed l i k w → f i k ≤ w
  tri : ∀ i j k, i < m → j < m → k < m → j < v → f i j < 1000000000 → f j k < 1000000000 → f i k ≤ f i j + f j k
  walk : ∀ i k, i < m → k < m → f i k < 1000000000 → i ≠ k → ∃ p, (∀ x ∈ p, x < v) ∧ Wk l i p k (f i k)
  nod : ∀ i k, i < m → k < m → f i k < 1000000000 → i ≠ k → ∃ p, p.Nodup ∧ (∀ x ∈ p, x < v) ∧ ∃ w, Wk l i p k w
section
variable {l : List S43} {m v : Nat} {f : Nat → Nat → Int}
theorem stg_len (G : GoodB m l) (h : Stg l m v f) : ∀ {p : List Nat} {i k : Nat} {w : Int}, Wk l i p k w → (∀ x ∈ p, x < v) → p.length ≤ 12 → f i k ≤ 8000000 * (p.length + 1)
  | [], i, k, w, h1, _, _ => by have := h.up i k w h1; have := ed_in G h1; simp; omega
  | x :: p, i, k, w, ⟨u, h1, h2⟩, hx, hl => by
    have ih := stg_len G h h2 (fun y hy => hx y (List.mem_cons_of_mem _ hy)) (by simp at hl; omega)
    have e1 := h.up i x u h1
    have e2 := ed_in G h1
    have e3 := wk_in G h2
    simp only [List.length_cons] at hl ⊢
    have := h.tri i x k e2.1 e2.2.1 e3.2 (hx x List.mem_cons_self) (by omega) (by omega)
    omega
theorem stg_fin (G : GoodB m l) (hv : v ≤ 12) (h : Stg l m v f) {i k : Nat} (hi : i < m) (hk : k < m) (hf : f i k < 1000000000) : f i k ≤ 104000000 := by
  by_cases c : i = k
  · subst c; have := h.diag i hi; omega
  · obtain ⟨p, hn, hp, w, hw⟩ := h.nod i k hi hk hf c
    have h1 := nodup_len v p hn hp
    have := stg_len G h hw hp (by omega)
    omega
theorem stg_wk (G : GoodB m l) (hv : v ≤ 12) (h : Stg l m v f) : ∀ {p : List Nat} {i k : Nat} {w : Int}, Wk l i p k w → (∀ x ∈ p, x < v) → f i k < 1000000000 ∧ f i k ≤ w
  | [], i, k, w, h1, _ => by have := h.up i k w h1; have := ed_in G h1; omega
  | x :: p, i, k, w, ⟨u, h1, h2⟩, hx => by
    obtain ⟨ih1, ih2⟩ := stg_wk G hv h h2 (fun y hy => hx y (List.mem_cons_of_mem _ hy))
    have e1 := h.up i x u h1
    have e2 := ed_in G h1
    have e3 := wk_in G h2
    have e4 := stg_fin G hv h e3.1 e3.2 ih1
    have := h.tri i x k e2.1 e2.2.1 e3.2 (hx x List.mem_cons_self) (by omega) ih1
    omega
/-- one stage -/
def st (f : Nat → Nat → Int) (v i k : Nat) : Int := if f i v < 1000000000 ∧ f v k < 1000000000 then mn (f i k) (f i v + f v k) else f i k
theorem st_le (i k : Nat) : st f v i k ≤ f i k := by unfold st; split; exact mn_le1 _ _; exact Int.le_refl _
theorem st_or (i k : Nat) : st f v i k = f i k ∨ (f i v < 1000000000 ∧ f v k < 1000000000 ∧ st f v i k = f i v + f v k) := by
  unfold st
  by_cases c : f i v < 1000000000 ∧ f v k < 1000000000
  · rw [if_pos c]
    rcases mn_or (f i k) (f i v + f v k) with e | e
    · exact Or.inl e
    · exact Or.inr ⟨c.1, c.2, e⟩
  · rw [if_neg c]; exact Or.inl rfl
theorem st_by (i k : Nat) (h1 : f i v < 1000000000) (h2 : f v k < 1000000000) : st f v i k ≤ f i v + f v k := by unfold st; rw [if_pos ⟨h1, h2⟩]; exact mn_le2 _ _
theorem st_col (hd : f v v = 0) (i : Nat) : st f v i v = f i v := by
  rcases st_or (f := f) (v := v) i v with e | ⟨_, _, e⟩
  · exact e
  · omega
theorem st_row (hd : f v v = 0) (k : Nat) : st f v v k = f v k := by
  rcases st_or (f := f) (v := v) v k with e | ⟨_, _, e⟩
  · exact e
  · omega
theorem stg_next (G : GoodB m l) (hv : v < m) (h : Stg l m v f) (hc : ∀ i, i < m → 0 ≤ st f v i i) : Stg l m (v + 1) (st f v) := by
  have hn := G.n2
  have hd := h.diag v hv
  have v12 : v ≤ 12 := by omega
  refine ⟨fun i hi => ?_, fun i k hi hk => ?_, fun i k hi hk => ?_, fun i k w e => ?_, fun i j k hi hj hk hjv h1 h2 => ?_, fun i k hi hk hf hne => ?_, fun i k hi hk hf hne => ?_⟩
  · have := hc i hi; have := h.diag i hi; have := st_le (f := f) (v := v) i i; omega
  · have := h.far i k hi hk; have := st_le (f := f) (v := v) i k; omega
  · have e : (2 : Int) ^ (v + 1) = 2 ^ v * 2 := Int.pow_succ _ _
    have e0 : (0 : Int) < 2 ^ v := Int.pow_pos (by omega)
    rw [e]
    rcases st_or (f := f) (v := v) i k with s | ⟨_, _, s⟩
    · have := h.low i k hi hk; rw [s]; omega
    · have := h.low i v hi hv; have := h.low v k hv hk; rw [s]; omega
  · have := h.up i k w e; have := st_le (f := f) (v := v) i k; omega
  · by_cases c : j = v
    · subst c
      rw [st_col hd] at h1 ⊢
      rw [st_row hd] at h2 ⊢
      exact st_by i k h1 h2
    · have hj2 : j < v := by omega
      have hle := st_le (f := f) (v := v) i k
      rcases st_or (f := f) (v := v) i j with s | ⟨s1, s2, s⟩
      · rw [s] at h1 ⊢
        rcases st_or (f := f) (v := v) j k with t | ⟨t1, t2, t⟩
        · rw [t] at h2 ⊢
          have := h.tri i j k hi hj hk hj2 h1 h2
          omega
        · rw [t]
          have a := h.tri i j v hi hj hv hj2 h1 t1
          have b1 := stg_fin G v12 h hi hj h1
          have b2 := stg_fin G v12 h hj hv t1
          have := st_by i k (show f i v < 1000000000 by omega) t2
          omega
      · rw [s]
        rcases st_or (f := f) (v := v) j k with t | ⟨t1, t2, t⟩
        · rw [t] at h2 ⊢
          have a := h.tri v j k hv hj hk hj2 s2 h2
          have b1 := stg_fin G v12 h hv hj s2
          have b2 := stg_fin G v12 h hj hk h2
          have := st_by i k s1 (show f v k < 1000000000 by omega)
          omega
        · rw [t]
          have a := h.tri v j v hv hj hv hj2 s2 t1
          have := st_by i k s1 t2
          omega
  · rcases st_or (f := f) (v := v) i k with s | ⟨s1, s2, s⟩
    · rw [s] at hf ⊢
      obtain ⟨p, hp, hw⟩ := h.walk i k hi hk hf hne
      exact ⟨p, fun x hx => by have := hp x hx; omega, hw⟩
    · rw [s]
      by_cases c1 : i = v
      · subst c1
        obtain ⟨p, hp, hw⟩ := h.walk i k hi hk s2 hne
        exact ⟨p, fun x hx => by have := hp x hx; omega, by rw [hd, Int.zero_add]; exact hw⟩
      · by_cases c2 : v = k
        · subst c2
          obtain ⟨p, hp, hw⟩ := h.walk i v hi hk s1 hne
          exact ⟨p, fun x hx => by have := hp x hx; omega, by rw [hd, Int.add_zero]; exact hw⟩
        · obtain ⟨p, hp, hw⟩ := h.walk i v hi hv s1 c1
          obtain ⟨q, hq, hz⟩ := h.walk v k hv hk s2 c2
          refine ⟨p ++ v :: q, fun x hx => ?_, wk_add hz hw⟩
          rcases List.mem_append.1 hx with hx | hx
          · have := hp x hx; omega
          · rcases List.mem_cons.1 hx with rfl | hx
            · omega
            · have := hq x hx; omega
  · have old : f i k < 1000000000 → ∃ p : List Nat, p.Nodup ∧ (∀ x ∈ p, x < v + 1) ∧ ∃ w, Wk l i p k w := fun hf => by
      obtain ⟨p, hp0, hp, hw⟩ := h.nod i k hi hk hf hne
      exact ⟨p, hp0, fun x hx => by have := hp x hx; omega, hw⟩
    rcases st_or (f := f) (v := v) i k with s | ⟨s1, s2, s⟩
    · rw [s] at hf; exact old hf
    · by_cases c1 : i = v
      · subst c1; exact old s2
      · by_cases c2 : v = k
        · subst c2; exact old s1
        · obtain ⟨p, hp0, hp, w, hw⟩ := h.nod i v hi hv s1 c1
          obtain ⟨q, hq0, hq, z, hz⟩ := h.nod v k hv hk s2 c2
          by_cases c : ∃ j, j ∈ p ∧ j ∈ q
          · obtain ⟨j, hjp, hjq⟩ := c
            obtain ⟨a, b, rfl⟩ := List.append_of_mem hjp
            obtain ⟨a', b', rfl⟩ := List.append_of_mem hjq
            obtain ⟨⟨u1, g1⟩, _⟩ := wk_cut hw
            obtain ⟨_, ⟨u2, g2⟩⟩ := wk_cut hz
            refine old (stg_wk G v12 h (wk_add g2 g1) (fun x hx => ?_)).1
            rcases List.mem_append.1 hx with hx | hx
            · exact hp x (List.mem_append.2 (Or.inl hx))
            · rcases List.mem_cons.1 hx with rfl | hx
              · exact hp x hjp
              · exact hq x (List.mem_append.2 (Or.inr (List.mem_cons_of_mem _ hx)))
          · refine ⟨p ++ v :: q, ?_, fun x hx => ?_, _, wk_add hz hw⟩
            · rw [List.nodup_append]
              refine ⟨hp0, List.nodup_cons.2 ⟨fun hv => by have := hq v hv; omega, hq0⟩, fun a ha b hb => ?_⟩
              rintro rfl
              rcases List.mem_cons.1 hb with rfl | hb
              · have := hp _ ha; omega
              · exact c ⟨a, ha, hb⟩
            · rcases List.mem_append.1 hx with hx | hx
              · have := hp x hx; omega
              · rcases List.mem_cons.1 hx with rfl | hx
                · omega
                · have := hq x hx; omega
end
def upd (f : Nat → Nat → Int) (i k : Nat) (x : Int) : Nat → Nat → Int := fun a b => if a = i ∧ b = k then x else f a b
def g0 : Nat → Nat → Int := fun i k => if i = k then 0 else 1000000000
/-- one bound -/
def ub (f : Nat → Nat → Int) (b : S43) : Nat → Nat → Int := upd (upd f b.f0.toNat b.f1.toNat (mn (f b.f0.toNat b.f1.toNat) b.f3)) b.f1.toNat b.f0.toNat (mn (f b.f1.toNat b.f0.toNat) (-b.f2))
structure Ini (l : List S43) (f : Nat → Nat → Int) : Prop where
  diag : ∀ i, f i i = 0
  far : ∀ i k, f i k ≤ 1000000000
  up : ∀ i k w, Ed l i k w → f i k ≤ w
  src : ∀ i k, i ≠ k → f i k < 1000000000 → Ed l i k (f i k)
theorem ini_zero : Ini [] g0 := by
  refine ⟨fun i => by simp [g0], fun i k => by unfold g0; split <;> omega, fun i k w h => ?_, fun i k h1 h2 => ?_⟩
  · obtain ⟨b, hb, _⟩ := h; cases hb
  · unfold g0 at h2; rw [if_neg h1] at h2; omega
theorem ub_at {f : Nat → Nat → Int} {b : S43} (hne : b.f0.toNat ≠ b.f1.toNat) (i k : Nat) : (i = b.f1.toNat ∧ k = b.f0.toNat ∧ ub f b i k = mn (f i k) (-b.f2)) ∨ (i = b.f0.toNat ∧ k = b.f1.toNat ∧ ub f b i k = mn (f i k) b.f3) ∨ (¬ (i = b.f1.toNat ∧ k = b.f0.toNat) ∧ ¬ (i = b.f0.toNat ∧ k = b.f1.toNat) ∧ ub f b i k = f i k) := by
  unfold ub upd
  by_cases c1 : i = b.f1.toNat ∧ k = b.f0.toNat
  · refine Or.inl ⟨c1.1, c1.2, ?_⟩
    rw [if_pos c1, c1.1, c1.2]
  · by_cases c2 : i = b.f0.toNat ∧ k = b.f1.toNat
    · refine Or.inr (Or.inl ⟨c2.1, c2.2, ?_⟩)
      rw [if_neg c1, if_pos c2, c2.1, c2.2]
    · exact Or.inr (Or.inr ⟨c1, c2, by rw [if_neg c1, if_neg c2]⟩)
theorem ini_next {m : Nat} {d : List S43} {f : Nat → Nat → Int} {b : S43} (hb : Ok m b) (h : Ini d f) : Ini (d ++ [b]) (ub f b) := by
  obtain ⟨o1, o2, o3, o4, o5, o6, o7, o8⟩ := hb
  have hne : b.f0.toNat ≠ b.f1.toNat := by omega
  have hmem : b ∈ d ++ [b] := by simp
  have hle : ∀ i k, ub f b i k ≤ f i k := fun i k => by
    rcases ub_at (f := f) hne i k with ⟨_, _, e⟩ | ⟨_, _, e⟩ | ⟨_, _, e⟩
    · rw [e]; exact mn_le1 _ _
    · rw [e]; exact mn_le1 _ _
    · rw [e]; exact Int.le_refl _
  refine ⟨fun i => ?_, fun i k => ?_, fun i k w he => ?_, fun i k h1 h2 => ?_⟩
  · rcases ub_at (f := f) hne i i with ⟨e1, e2, _⟩ | ⟨e1, e2, _⟩ | ⟨_, _, e⟩
    · omega
    · omega
    · rw [e]; exact h.diag i
  · have := h.far i k; have := hle i k; omega
  · obtain ⟨q, hq, he⟩ := he
    rcases List.mem_append.1 hq with hq | hq
    · have := h.up i k w ⟨q, hq, he⟩; have := hle i k; omega
    · obtain rfl : q = b := by simpa using hq
      rcases ub_at (f := f) hne i k with ⟨e1, e2, e⟩ | ⟨e1, e2, e⟩ | ⟨e1, e2, e⟩
      · rcases he with he | he
        · omega
        · rw [e, he.2.2]; exact mn_le2 _ _
      · rcases he with he | he
        · rw [e, he.2.2]; exact mn_le2 _ _
        · omega
      · omega
  · have old : ub f b i k = f i k → Ed (d ++ [b]) i k (ub f b i k) := fun e => by
      rw [e] at h2 ⊢
      obtain ⟨q, hq, he⟩ := h.src i k h1 h2
      exact ⟨q, List.mem_append.2 (Or.inl hq), he⟩
    rcases ub_at (f := f) hne i k with ⟨e1, e2, e⟩ | ⟨e1, e2, e⟩ | ⟨e1, e2, e⟩
    · rcases mn_or (f i k) (-b.f2) with s | s
      · exact old (by rw [e, s])
      · exact ⟨b, hmem, Or.inr ⟨e1.symm, e2.symm, by rw [e, s]⟩⟩
    · rcases mn_or (f i k) b.f3 with s | s
      · exact old (by rw [e, s])
      · exact ⟨b, hmem, Or.inl ⟨e1.symm, e2.symm, by rw [e, s]⟩⟩
    · exact old e
theorem ini_stg {m : Nat} {l : List S43} (G : GoodB m l) {f : Nat → Nat → Int} (h : Ini l f) : Stg l m 0 f := by
  refine ⟨fun i _ => h.diag i, fun i k _ _ => h.far i k, fun i k _ _ => ?_, h.up, fun i j k _ _ _ hj => by omega, fun i k _ _ hf hne => ⟨[], by simp, h.src i k hne hf⟩, fun i k _ _ hf hne => ⟨[], by simp, by simp, _, h.src i k hne hf⟩⟩
  by_cases c : i = k
  · subst c; rw [h.diag i]; omega
  · have := h.far i k
    by_cases c2 : f i k < 1000000000
    · have := ed_in G (h.src i k c c2); omega
    · omega
def up1 (d : Nat → Int) (b : Nat) (x : Int) : Nat → Int := fun k => if k = b then x else d k
/-- one edge -/
def rl (q : (Nat → Int) × Bool) (a b : Nat) (w : Int) : (Nat → Int) × Bool := if q.1 a < 1000000000 ∧ q.1 a + w < q.1 b then (up1 q.1 b (q.1 a + w), true) else q
/-- one bound -/
def rb (q : (Nat → Int) × Bool) (b : S43) : (Nat → Int) × Bool := rl (rl q b.f0.toNat b.f1.toNat b.f3) b.f1.toNat b.f0.toNat (-b.f2)
def fin (d : Nat → Int) (k : Nat) : Bool := decide (d k < 1000000000)
structure Bf (m s : Nat) (d : Nat → Int) : Prop where
  far : ∀ k, k < m → d k ≤ 1000000000
  num : ∀ k, k < m → d k < 1000000000 → d k + 8000000 ≤ 8000000 * cnt (fin d) m
  src : d s ≤ 0
/-- nothing below what the matrix tells -/
def Snd (m s : Nat) (f : Nat → Nat → Int) (d : Nat → Int) : Prop := ∀ k, k < m → d k < 1000000000 → f s k ≤ d k
section
variable {l : List S43} {m s : Nat}
theorem up1_at (d : Nat → Int) (b k : Nat) (x : Int) : (k = b ∧ up1 d b x k = x) ∨ (k ≠ b ∧ up1 d b x k = d k) := by
  unfold up1
  by_cases c : k = b
  · exact Or.inl ⟨c, by rw [if_pos c]⟩
  · exact Or.inr ⟨c, by rw [if_neg c]⟩
theorem rl_le (q : (Nat → Int) × Bool) (a b : Nat) (w : Int) (k : Nat) : (rl q a b w).1 k ≤ q.1 k := by
  unfold rl
  split
  · rename_i c
    rcases up1_at q.1 b k (q.1 a + w) with ⟨e1, e⟩ | ⟨_, e⟩
    · simp only; rw [e, e1]; omega
    · simp only; rw [e]; omega
  · omega
theorem rb_le (q : (Nat → Int) × Bool) (b : S43) (k : Nat) : (rb q b).1 k ≤ q.1 k := Int.le_trans (rl_le _ _ _ _ k) (rl_le _ _ _ _ k)
theorem rbs_le : ∀ (t : List S43) (q : (Nat → Int) × Bool) (k : Nat), (t.foldl rb q).1 k ≤ q.1 k
  | [], q, k => Int.le_refl _
  | b :: t, q, k => Int.le_trans (rbs_le t (rb q b) k) (rb_le q b k)
theorem rl_by (q : (Nat → Int) × Bool) (a b : Nat) (w : Int) (h : q.1 a < 1000000000) : (rl q a b w).1 b ≤ q.1 a + w := by
  unfold rl
  split
  · simp [up1]
  · rename_i c; omega
theorem rb_by (q : (Nat → Int) × Bool) (b : S43) : (q.1 b.f0.toNat < 1000000000 → (rb q b).1 b.f1.toNat ≤ q.1 b.f0.toNat + b.f3) ∧ (q.1 b.f1.toNat < 1000000000 → (rb q b).1 b.f0.toNat ≤ q.1 b.f1.toNat + -b.f2) := by
  refine ⟨fun h => Int.le_trans (rl_le _ _ _ _ _) (rl_by q _ _ _ h), fun h => ?_⟩
  have h1 := rl_le q b.f0.toNat b.f1.toNat b.f3 b.f1.toNat
  have h2 := rl_by (rl q b.f0.toNat b.f1.toNat b.f3) b.f1.toNat b.f0.toNat (-b.f2) (by omega)
  unfold rb
  omega
theorem rbs_by : ∀ (t : List S43) (q : (Nat → Int) × Bool) (x y : Nat) (w : Int), Ed t x y w → q.1 x < 1000000000 → (t.foldl rb q).1 y ≤ q.1 x + w
  | [], q, x, y, w, h, _ => by obtain ⟨b, hb, _⟩ := h; cases hb
  | c :: t, q, x, y, w, ⟨b, hb, h⟩, hx => by
    rcases List.mem_cons.1 hb with rfl | hb
    · have h1 := rbs_le t (rb q b) y
      obtain ⟨h2, h3⟩ := rb_by q b
      show (t.foldl rb (rb q b)).1 y ≤ _
      rcases h with ⟨rfl, rfl, rfl⟩ | ⟨rfl, rfl, rfl⟩
      · have := h2 hx; omega
      · have := h3 hx; omega
    · have h1 := rb_le q c x
      have := rbs_by t (rb q c) x y w ⟨b, hb, h⟩ (by omega)
      show (t.foldl rb (rb q c)).1 y ≤ _
      omega
/-- no change at all -/
theorem rl_no {q : (Nat → Int) × Bool} {a b : Nat} {w : Int} (h : (rl q a b w).2 = false) : rl q a b w = q := by
  unfold rl at h ⊢
  split at h
  · cases h
  · rename_i c; rw [if_neg c]
theorem rbs_no : ∀ (t : List S43) (q : (Nat → Int) × Bool), (t.foldl rb q).2 = false → t.foldl rb q = q
  | [], q, _ => rfl
  | b :: t, q, h => by
    have h1 := rbs_no t (rb q b) h
    have h2 : (rb q b).2 = false := by
      have h' : (t.foldl rb (rb q b)).2 = false := h
      rw [h1] at h'; exact h'
    have h3 : rb q b = rl q b.f0.toNat b.f1.toNat b.f3 := rl_no h2
    have h4 : rl q b.f0.toNat b.f1.toNat b.f3 = q := rl_no (by rw [← h3]; exact h2)
    show t.foldl rb (rb q b) = q
    rw [h1, h3, h4]
theorem rl_bf {q : (Nat → Int) × Bool} (hq : Bf m s q.1) {a b : Nat} {w : Int} (ha : a < m) (hb : b < m) (hw : w ≤ 8000000) : Bf m s (rl q a b w).1 := by
  unfold rl
  split
  · rename_i c
    have hmono : cnt (fin q.1) m ≤ cnt (fin (up1 q.1 b (q.1 a + w))) m := cnt_mono m (fun k hk h => by
      unfold fin at h ⊢
      have h := of_decide_eq_true h
      apply decide_eq_true
      rcases up1_at q.1 b k (q.1 a + w) with ⟨e1, e⟩ | ⟨_, e⟩
      · rw [e]; rw [e1] at h; omega
      · rw [e]; exact h)
    refine ⟨fun k hk => ?_, fun k hk hf => ?_, ?_⟩
    · have h1 := hq.far k hk
      have h2 := hq.far b hb
      rcases up1_at q.1 b k (q.1 a + w) with ⟨e1, e⟩ | ⟨_, e⟩
      · simp only; omega
      · simp only; omega
    · simp only at hf ⊢
      rcases up1_at q.1 b k (q.1 a + w) with ⟨e1, e⟩ | ⟨_, e⟩
      · rw [e]
        have h1 := hq.num a ha c.1
        by_cases hbf : q.1 b < 1000000000
        · have := hq.num b hb hbf; omega
        · have := cnt_lt (p := fin q.1) (q := fin (up1 q.1 b (q.1 a + w))) m (fun k hk h => by
            unfold fin at h ⊢
            have h := of_decide_eq_true h
            apply decide_eq_true
            rcases up1_at q.1 b k (q.1 a + w) with ⟨e1, e⟩ | ⟨_, e⟩
            · rw [e]; rw [e1] at h; omega
            · rw [e]; exact h) b hb (by unfold fin; apply decide_eq_true; rw [e1] at e; rw [e]; rw [e1, e] at hf; exact hf) (by unfold fin; simpa using hbf)
          omega
      · rw [e] at hf ⊢
        have := hq.num k hk hf
        omega
    · simp only
      have := hq.src
      rcases up1_at q.1 b s (q.1 a + w) with ⟨e1, e⟩ | ⟨_, e⟩
      · rw [e]; rw [← e1] at c; omega
      · rw [e]; exact this
  · exact hq
theorem rl_snd {f : Nat → Nat → Int} (hF : Stg l m m f) {q : (Nat → Int) × Bool} (hs : s < m) (hq : Snd m s f q.1) {a b : Nat} {w : Int} (ha : a < m) (hb : b < m) (hw : w ≤ 8000000) (he : Ed l a b w) : Snd m s f (rl q a b w).1 := by
  intro k hk hf
  unfold rl at hf ⊢
  split at hf
  · rename_i c
    rw [if_pos c]
    simp only at hf ⊢
    rcases up1_at q.1 b k (q.1 a + w) with ⟨e1, e⟩ | ⟨_, e⟩
    · have h1 := hq a ha c.1
      have h2 := hF.up a b w he
      have := hF.tri s a b hs ha hb ha (by omega) (by omega)
      rw [e, e1]; omega
    · rw [e] at hf ⊢; exact hq k hk hf
  · rename_i c
    rw [if_neg c]; exact hq k hk hf
end
end Go.Proofs.Ytfbjpdiaicaagaa.ChrB
