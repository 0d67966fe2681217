/- Chronologies: what the program's three loops and the reference's relaxation come to. -/
import Derived.Test.YtfbjpdiaicaagaaContradictLeastsn18
import Derived.Test.YtfbjpdiaicaagaaContradictLeastsn7
import Derived.Test.YtfbjpdiaicaagaaContradictLeastsn5
import Derived.Test.YtfbjpdiaicaagaaContradictLeastsn6
namespace Go.Proofs.Ytfbjpdiaicaagaa.ChrD
open Go.RowKit Go.Proofs.YtfbjpdiaicaagaaW.PrintWords Go.Proofs.YtfbjpdiaicaagaaW.PrintLast Go.Proofs.YtfbjpdiaicaagaaW.PrintMore Go.Proofs.Ytfbjpdiaicaagaa.Opn Go.Proofs.Ytfbjpdiaicaagaa.PAll Go.Proofs.Ytfbjpdiaicaagaa.Base Go.Proofs.Ytfbjpdiaicaagaa.ChrA Go.Proofs.Ytfbjpdiaicaagaa.ChrB Go.Proofs.Ytfbjpdiaicaagaa.ChrC
set_option linter.unusedVariables false
set_option linter.unusedSimpArgs false
/-- comes to something of a kind -/
def To {α : Type} (g : Nat → Option α) (Q : α → Prop) : Prop := ∃ r, Ev g r ∧ Q r
theorem to_step {α : Type} {g f : Nat → Option α} {Q : α → Prop} (n : Nat) (h : ∀ k, g (k + n) = f k) : To f Q → To g Q := fun ⟨r, hr, hq⟩ => ⟨r, ev_step n h hr, hq⟩
theorem to_some {α : Type} {g : Nat → Option α} {Q : α → Prop} {r : α} (n : Nat) (h : ∀ k, g (k + n) = some r) (hq : Q r) : To g Q := ⟨r, ev_some n h, hq⟩
theorem wn (i : Nat) (h : i ≤ 1000000) : wrap64 ((i : Int) + 1) = ((i + 1 : Nat) : Int) := by rw [w64 (by omega) (by omega)]; omega
theorem gset_eq {α : Type} {X : List α} {i : Nat} {y d : α} (h : i < X.length) : (X.set i y).getD i d = y := by
  rw [List.getD_eq_getElem?_getD, List.getElem?_set_self h]; rfl
theorem gset_ne {α : Type} {X : List α} {i j : Nat} {y d : α} (h : i ≠ j) : (X.set i y).getD j d = X.getD j d := by
  rw [List.getD_eq_getElem?_getD, List.getElem?_set_ne h, ← List.getD_eq_getElem?_getD]
theorem getD_rep {α : Type} {m k : Nat} {z d : α} (h : k < m) : (List.replicate m z).getD k d = z := by
  rw [List.getD_eq_getElem?_getD, List.getElem?_replicate, if_pos h]; rfl
/-- The first r rows of X are those of f. -/
structure Rep (m r : Nat) (X : List (List Int)) (f : Nat → Nat → Int) : Prop where
  len : X.length = m
  row : ∀ i, i < r → (X.getD i []).length = m
  get : ∀ i k, i < r → k < m → (X.getD i []).getD k 0 = f i k
section
variable {m r : Nat} {X : List (List Int)} {f g : Nat → Nat → Int}
theorem Rep.congr (h : Rep m r X f) (e : ∀ i k, i < r → k < m → f i k = g i k) : Rep m r X g := ⟨h.len, h.row, fun i k hi hk => (h.get i k hi hk).trans (e i k hi hk)⟩
theorem Rep.put (h : Rep m r X f) (hr : r ≤ m) {i k : Nat} (hi : i < r) (hk : k < m) (x : Int) : Rep m r (X.set i ((X.getD i []).set k x)) (upd f i k x) := by
  have hl := h.len
  refine ⟨by rw [List.length_set]; exact hl, fun a ha => ?_, fun a b ha hb => ?_⟩
  · by_cases c : i = a
    · subst c; rw [gset_eq (by omega), List.length_set]; exact h.row i ha
    · rw [gset_ne c]; exact h.row a ha
  · by_cases c : i = a
    · subst c
      rw [gset_eq (by omega)]
      by_cases c2 : k = b
      · subst c2
        rw [gset_eq (by rw [h.row i ha]; exact hb)]
        simp [upd]
      · rw [gset_ne c2, h.get i b ha hb]
        unfold upd; rw [if_neg (by omega)]
    · rw [gset_ne c, h.get a b ha hb]
      unfold upd; rw [if_neg (by omega)]
theorem Rep.new (h : Rep m r X f) (hr : r < m) (z : Int) : Rep m (r + 1) (X.set r (List.replicate m z)) (fun a b => if a = r then z else f a b) := by
  have hl := h.len
  refine ⟨by rw [List.length_set]; exact hl, fun a ha => ?_, fun a b ha hb => ?_⟩
  · by_cases c : r = a
    · subst c; rw [gset_eq (by omega), List.length_replicate]
    · rw [gset_ne c]; exact h.row a (by omega)
  · by_cases c : r = a
    · subst c; rw [gset_eq (by omega), getD_rep hb]; simp
    · rw [gset_ne c, h.get a b (by omega) hb, if_neg (by omega)]
theorem Rep.len_at (h : Rep m r X f) {i : Nat} (hi : i < r) : ((rd_L2 X (i : Int)).length : Int) = m := by
  have := h.row i hi
  show ((X.getD i []).length : Int) = m
  omega
theorem Rep.rd_at (h : Rep m r X f) {i k : Nat} (hi : i < r) (hk : k < m) : rd (rd_L2 X (i : Int)) (k : Int) = f i k := h.get i k hi hk
theorem Rep.len_toNat (h : Rep m r X f) {i : Int} (hi : i.toNat < r) : ((rd_L2 X i).length : Int) = m := by
  have := h.row i.toNat hi
  show ((X.getD i.toNat []).length : Int) = m
  omega
theorem Rep.rd_toNat (h : Rep m r X f) {i k : Int} (hi : i.toNat < r) (hk : k.toNat < m) : rd (rd_L2 X i) k = f i.toNat k.toNat := h.get i.toNat k.toNat hi hk
end
section
variable {m : Nat} {l : List S43} {Q : List (List Int) × Bool → Prop}
def part (f : Nat → Nat → Int) (v i k : Nat) : Nat → Nat → Int := fun a b => if a < i ∨ (a = i ∧ b < k) then st f v a b else f a b
theorem l5_step (hm : m ≤ 12) {h' : Nat → Nat → Int} {v i k : Nat} {X : List (List Int)} (hv : v < m) (hi : i < m) (hk2 : k < m) (h : Rep m m X h') (n : Nat) :
    chron_most.l5 (n + 1) m X v i m v m i m k = if h' i v < 1000000000 then (if h' v k < 1000000000 then chron_most.l5 n m (X.set i ((X.getD i []).set k (mn (h' i k) (wrap64 (h' i v + h' v k))))) v i m v m i m ((k + 1 : Nat) : Int) else chron_most.l5 n m X v i m v m i m ((k + 1 : Nat) : Int)) else chron_most.l5 n m X v i m v m i m ((k + 1 : Nat) : Int) := by
  have hl := h.len
  have hw := wn k (by omega)
  have e1 := h.len_at hi
  have e2 := h.len_at hv
  have e3 := h.rd_at hi hv
  have e4 := h.rd_at hv hk2
  have e5 := h.rd_at hi hk2
  have p1 : (k : Int) < m := by omega
  have p2 : (0 : Int) ≤ (i : Int) := by omega
  have p3 : (i : Int) < (X.length : Int) := by omega
  have p4 : (0 : Int) ≤ (v : Int) := by omega
  have p5 : (v : Int) < ((rd_L2 X (i : Int)).length : Int) := by omega
  have p6 : (v : Int) < (X.length : Int) := by omega
  have p7 : (0 : Int) ≤ (k : Int) := by omega
  have p8 : (k : Int) < ((rd_L2 X (v : Int)).length : Int) := by omega
  have p9 : (k : Int) < ((rd_L2 X (i : Int)).length : Int) := by omega
  rw [chron_most.l5, if_pos p1, if_pos p2, if_pos p3, if_pos p4, if_pos p5, e3, if_pos p6, if_pos p7, if_pos p8, e4, if_pos p9, e5, hw]
  rfl
theorem most_l5 (hm : m ≤ 12) {f : Nat → Nat → Int} {v i : Nat} (hv : v < m) (hi : i < m) (hd : f v v = 0) (hlo : ∀ a b, a < m → b < m → -100000000000 ≤ f a b) :
    ∀ (j k : Nat) (X : List (List Int)), k + j = m → Rep m m X (part f v i k) → (∀ X', Rep m m X' (part f v (i + 1) 0) → To (fun n => chron_most.l4 n m X' v m v m ((i + 1 : Nat) : Int)) Q) → To (fun n => chron_most.l5 n m X v i m v m i m k) Q := by
  intro j
  induction j with
  | zero =>
    intro k X hk h hc
    refine to_step 1 (fun n => ?_) (hc X (h.congr (fun a b ha hb => ?_)))
    · rw [chron_most.l5, if_neg (by omega), wn i (by omega)]
    · unfold part
      by_cases c : a < i ∨ a = i ∧ b < k
      · rw [if_pos c, if_pos (by omega)]
      · rw [if_neg c, if_neg (by omega)]
  | succ j ih =>
    intro k X hk h hc
    have hk2 : k < m := by omega
    have hl := h.len
    have eiv : part f v i k i v = f i v := by unfold part; split; exact st_col hd i; rfl
    have evk : part f v i k v k = f v k := by unfold part; split; exact st_row hd k; rfl
    have eik : part f v i k i k = f i k := by unfold part; rw [if_neg (by omega)]
    have nxt : ∀ a b, a < m → b < m → upd (part f v i k) i k (st f v i k) a b = part f v i (k + 1) a b := by
      intro a b ha hb
      unfold upd part
      by_cases c : a = i ∧ b = k
      · rw [if_pos c, if_pos (by omega), c.1, c.2]
      · rw [if_neg c]
        by_cases c2 : a < i ∨ a = i ∧ b < k
        · rw [if_pos c2, if_pos (by omega)]
        · rw [if_neg c2, if_neg (by omega)]
    have hw := wn k (by omega)
    by_cases c1 : f i v < 1000000000
    · by_cases c2 : f v k < 1000000000
      · have e1 := hlo i v hi hv
        have e2 := hlo v k hv hk2
        have es : st f v i k = mn (f i k) (f i v + f v k) := by unfold st; rw [if_pos ⟨c1, c2⟩]
        have hp := h.put (Nat.le_refl m) hi hk2 (st f v i k)
        refine to_step 1 (fun n => ?_) (ih (k + 1) _ (by omega) (hp.congr nxt) hc)
        rw [l5_step hm hv hi hk2 h, eiv, evk, eik, if_pos c1, if_pos c2, w64 (by omega) (by omega), ← es]
      · have es : st f v i k = f i k := by unfold st; rw [if_neg (by omega)]
        refine to_step 1 (fun n => ?_) (ih (k + 1) X (by omega) (h.congr (fun a b ha hb => ?_)) hc)
        · rw [l5_step hm hv hi hk2 h, eiv, evk, eik, if_pos c1, if_neg c2]
        · rw [← nxt a b ha hb]; unfold upd
          by_cases c : a = i ∧ b = k
          · rw [if_pos c, es, c.1, c.2, eik]
          · rw [if_neg c]
    · have es : st f v i k = f i k := by unfold st; rw [if_neg (by omega)]
      refine to_step 1 (fun n => ?_) (ih (k + 1) X (by omega) (h.congr (fun a b ha hb => ?_)) hc)
      · rw [l5_step hm hv hi hk2 h, eiv, if_neg c1]
      · rw [← nxt a b ha hb]; unfold upd
        by_cases c : a = i ∧ b = k
        · rw [if_pos c, es, c.1, c.2, eik]
        · rw [if_neg c]
theorem most_l4 (hm : m ≤ 12) {f : Nat → Nat → Int} {v : Nat} (hv : v < m) (hd : f v v = 0) (hlo : ∀ a b, a < m → b < m → -100000000000 ≤ f a b) :
    ∀ (j i : Nat) (X : List (List Int)), i + j = m → Rep m m X (part f v i 0) → (∀ X', Rep m m X' (st f v) → To (fun n => chron_most.l6 n m X' m v m ((0 : Nat) : Int)) Q) → To (fun n => chron_most.l4 n m X v m v m i) Q := by
  intro j
  induction j with
  | zero =>
    intro i X hi h hc
    refine to_step 1 (fun n => ?_) (hc X (h.congr (fun a b ha hb => ?_)))
    · rw [chron_most.l4, if_neg (by omega)]; rfl
    · unfold part; rw [if_pos (by omega)]
  | succ j ih =>
    intro i X hi h hc
    refine to_step 1 (fun n => ?_) (most_l5 hm hv (show i < m by omega) hd hlo m 0 X (by omega) h (fun X' h' => ih (i + 1) X' (by omega) h' hc))
    rw [chron_most.l4, if_pos (by omega)]; rfl
theorem most_l6 (hm : m ≤ 12) {g : Nat → Nat → Int} {X : List (List Int)} {v : Nat} (hv : v < m) (h : Rep m m X g) (hno : ngs m g = true → Q ([], false)) (hyes : ngs m g = false → To (fun n => chron_most.l3 n m X m ((v + 1 : Nat) : Int)) Q) :
    ∀ (j i : Nat), i + j = m → (∀ a, a < i → 0 ≤ g a a) → To (fun n => chron_most.l6 n m X m v m i) Q := by
  have hl := h.len
  intro j
  induction j with
  | zero =>
    intro i hi hp
    refine to_step 1 (fun n => ?_) (hyes ?_)
    · rw [chron_most.l6, if_neg (by omega), wn v (by omega)]
    · apply Bool.eq_false_iff.2
      intro hn
      obtain ⟨a, ha, hn⟩ := ngs_yes hn
      have := hp a (by omega)
      omega
  | succ j ih =>
    intro i hi hp
    have him : i < m := by omega
    have hun : ∀ n, chron_most.l6 (n + 1) m X m v m i = if g i i < 0 then some ([], false) else chron_most.l6 n m X m v m ((i + 1 : Nat) : Int) := by
      intro n
      rw [chron_most.l6, if_pos (by omega), if_pos (by omega), if_pos (by omega), if_pos (by rw [h.len_at him]; omega), h.rd_at him him, wn i (by omega)]
    by_cases c : g i i < 0
    · refine to_some 1 (fun n => by rw [hun, if_pos c]) (hno ?_)
      exact List.any_eq_true.2 ⟨i, List.mem_range.2 him, decide_eq_true c⟩
    · exact to_step 1 (fun n => by rw [hun, if_neg c]) (ih (i + 1) (by omega) (fun a ha => by
        by_cases c2 : a = i
        · subst c2; omega
        · exact hp a (by omega)))
/-- what the stages tell -/
def Out (m : Nat) (o : Option (Nat → Nat → Int)) (r : List (List Int) × Bool) : Prop := match o with
  | some g => r.2 = true ∧ Rep m m r.1 g
  | none => r = ([], false)
theorem most_l3 (G : GoodB m l) : ∀ (j v : Nat) (X : List (List Int)) (f : Nat → Nat → Int), v + j = m → Stg l m v f → Rep m m X f → To (fun n => chron_most.l3 n m X m v) (Out m (fw m j v f)) := by
  have hm := G.n2
  intro j
  induction j with
  | zero =>
    intro v X f hv hs h
    exact to_some 1 (fun n => by rw [chron_most.l3, if_neg (by omega)]) ⟨rfl, h⟩
  | succ j ih =>
    intro v X f hv hs h
    have hvm : v < m := by omega
    have hlo : ∀ a b, a < m → b < m → -100000000000 ≤ f a b := fun a b ha hb => by
      have h1 := hs.low a b ha hb
      have h2 : (2 : Int) ^ v ≤ 2 ^ 12 := by
        have : (2 : Nat) ^ v ≤ 2 ^ 12 := Nat.pow_le_pow_right (by omega) (by omega)
        exact_mod_cast this
      omega
    refine to_step 1 (fun n => ?_) (most_l4 (by omega) hvm (hs.diag v hvm) hlo m 0 X (by omega) (h.congr (fun a b ha hb => by unfold part; rw [if_neg (by omega)])) (fun X' h' => ?_))
    · rw [chron_most.l3, if_pos (by omega)]; rfl
    · refine most_l6 (by omega) hvm h' (fun hn => ?_) (fun hn => ?_) m 0 (by omega) (fun a ha => by omega)
      · unfold fw; rw [if_pos hn]; rfl
      · unfold fw; rw [if_neg (by rw [hn]; simp)]
        exact ih (v + 1) X' _ (by omega) (stg_next G hvm hs (ngs_no hn)) h'
theorem most_l2 (G : GoodB m l) : ∀ (t : List S43) (i : Int) (X : List (List Int)) (f : Nat → Nat → Int), 0 ≤ i → l.drop i.toNat = t → Rep m m X f → (∀ X', Rep m m X' (t.foldl ub f) → To (fun n => chron_most.l3 n m X' m ((0 : Nat) : Int)) Q) → To (fun n => chron_most.l2 n m X l (l.length : Int) i) Q := by
  have hl := G.len
  intro t
  induction t with
  | nil =>
    intro i X f h0 hd h hc
    have hle := drop_nil h0 hd
    exact to_step 1 (fun n => by rw [chron_most.l2, if_neg (by omega)]; rfl) (hc X h)
  | cons b t ih =>
    intro i X f h0 hd h hc
    obtain ⟨hlt, hs, ht⟩ := drop_cons z43 h0 hd
    have hs' : rd_T43 l i = b := hs
    have a9 : wrap64 (i + 1) = i + 1 := w64 (by omega) (by omega)
    obtain ⟨o1, o2, o3, o4, o5, o6, o7, o8⟩ := G.ok b (drop_mem hd)
    have hne : b.f0.toNat ≠ b.f1.toNat := by omega
    have b0 : b.f0.toNat < m := by omega
    have b1 : b.f1.toNat < m := by omega
    have p1 := h.put (Nat.le_refl m) b0 b1 (mn (f b.f0.toNat b.f1.toNat) b.f3)
    have p2 := p1.put (Nat.le_refl m) b1 b0 (mn (f b.f1.toNat b.f0.toNat) (-b.f2))
    have e2 : upd f b.f0.toNat b.f1.toNat (mn (f b.f0.toNat b.f1.toNat) b.f3) b.f1.toNat b.f0.toNat = f b.f1.toNat b.f0.toNat := by unfold upd; rw [if_neg (by omega)]
    have hX := h.len
    have hw : wrap64 (-b.f2) = -b.f2 := w64 (by omega) (by omega)
    refine to_step 1 (fun n => ?_) (ih (i + 1) _ _ (by omega) ht p2 hc)
    rw [chron_most.l2, if_pos hlt, if_pos h0, if_pos hlt, hs', if_pos o1, if_pos (by omega), if_pos o3, if_pos (by rw [h.len_toNat b0]; omega), Option.bind_some, if_pos (by omega), h.rd_toNat b0 b1]
    have q1 := p1.len_toNat b1
    have q2 := p1.rd_toNat b1 b0
    show (if b.f0 < ((rd_L2 (X.set b.f0.toNat ((X.getD b.f0.toNat []).set b.f1.toNat (mn (f b.f0.toNat b.f1.toNat) b.f3))) b.f1).length : Int) then _ else _) = _
    rw [if_pos (by rw [q1]; omega), a9, hw]
    show chron_most.l2 n m (List.set (X.set b.f0.toNat ((X.getD b.f0.toNat []).set b.f1.toNat (mn (f b.f0.toNat b.f1.toNat) b.f3))) _ (List.set _ _ (mn (rd (rd_L2 (X.set b.f0.toNat ((X.getD b.f0.toNat []).set b.f1.toNat (mn (f b.f0.toNat b.f1.toNat) b.f3))) b.f1) b.f0) _))) _ _ _ = _
    rw [q2, e2]
    rfl
theorem most_l1 (hm : m ≤ 12) {i : Nat} (hi : i < m) : ∀ (j k : Nat) (X : List (List Int)), k + j = m → Rep m (i + 1) X (fun a b => if a = i then (if b < k then g0 i b else 0) else g0 a b) → (∀ X', Rep m (i + 1) X' g0 → To (fun n => chron_most.l0 n m l X' m ((i + 1 : Nat) : Int)) Q) → To (fun n => chron_most.l1 n m l X i m i m k) Q := by
  intro j
  induction j with
  | zero =>
    intro k X hk h hc
    refine to_step 1 (fun n => ?_) (hc X (h.congr (fun a b ha hb => ?_)))
    · rw [chron_most.l1, if_neg (by omega), wn i (by omega)]
    · show (if a = i then (if b < k then g0 i b else 0) else g0 a b) = _
      by_cases c : a = i
      · rw [if_pos c, if_pos (by omega), c]
      · rw [if_neg c]
  | succ j ih =>
    intro k X hk h hc
    have hl := h.len
    have hw := wn k (by omega)
    by_cases c : i = k
    · refine to_step 1 (fun n => ?_) (ih (k + 1) X (by omega) (h.congr (fun a b ha hb => ?_)) hc)
      · rw [chron_most.l1, if_pos (by omega), if_pos (by omega), hw]
      · show (if a = i then (if b < k then g0 i b else 0) else g0 a b) = (if a = i then (if b < k + 1 then g0 i b else 0) else g0 a b)
        by_cases c2 : a = i
        · rw [if_pos c2, if_pos c2]
          by_cases c3 : b < k
          · rw [if_pos c3, if_pos (by omega)]
          · rw [if_neg c3]
            by_cases c4 : b = k
            · rw [if_pos (by omega)]; unfold g0; rw [if_pos (by omega)]
            · rw [if_neg (by omega)]
        · rw [if_neg c2, if_neg c2]
    · have hp := h.put (by omega) (show i < i + 1 by omega) (show k < m by omega) 1000000000
      refine to_step 1 (fun n => ?_) (ih (k + 1) _ (by omega) (hp.congr (fun a b ha hb => ?_)) hc)
      · rw [chron_most.l1, if_pos (by omega), if_neg (by omega), if_pos (by omega), if_pos (by omega), if_pos (by omega), if_pos (by rw [h.len_at (by omega)]; omega), hw]; rfl
      · unfold upd
        by_cases c2 : a = i
        · by_cases c4 : b = k
          · rw [if_pos ⟨c2, c4⟩, if_pos c2, if_pos (by omega)]; unfold g0; rw [if_neg (by omega)]
          · rw [if_neg (by omega), if_pos c2]
            show (if a = i then (if b < k then g0 i b else 0) else g0 a b) = _
            rw [if_pos c2]
            by_cases c3 : b < k
            · rw [if_pos c3, if_pos (by omega)]
            · rw [if_neg c3, if_neg (by omega)]
        · rw [if_neg (by omega), if_neg c2]
          show (if a = i then (if b < k then g0 i b else 0) else g0 a b) = _
          rw [if_neg c2]
theorem most_l0 (hm : m ≤ 12) : ∀ (j i : Nat) (X : List (List Int)), i + j = m → Rep m i X g0 → (∀ X', Rep m m X' g0 → To (fun n => chron_most.l2 n m X' l (l.length : Int) 0) Q) → To (fun n => chron_most.l0 n m l X m i) Q := by
  intro j
  induction j with
  | zero =>
    intro i X hi h hc
    obtain rfl : i = m := by omega
    exact to_step 1 (fun n => by rw [chron_most.l0, if_neg (by omega)]) (hc X h)
  | succ j ih =>
    intro i X hi h hc
    have hl := h.len
    have hn := h.new (show i < m by omega) 0
    refine to_step 1 (fun n => ?_) (most_l1 hm (show i < m by omega) m 0 _ (by omega) (hn.congr (fun a b ha hb => ?_)) (fun X' h' => ih (i + 1) X' (by omega) h' hc))
    · have e := hn.len_at (show i < i + 1 by omega)
      rw [chron_most.l0, if_pos (by omega), if_pos (by omega), if_pos (by omega), if_pos (by omega), if_pos (by omega), Option.bind_some]
      show chron_most.l1 n m l (X.set i (List.replicate m 0)) i m i ((rd_L2 (X.set i (List.replicate m 0)) (i : Int)).length : Int) 0 = _
      rw [e]; rfl
    · simp
theorem most_ev (G : GoodB m l) : To (fun n => chron_most.f n m l) (Out m (fw m m 0 (ini l))) := by
  have hm := G.n2
  refine to_step 0 (f := fun n => chron_most.l0 n m l (List.replicate m []) m ((0 : Nat) : Int)) (fun n => ?_) (most_l0 (by omega) m 0 _ (by omega) ⟨List.length_replicate, fun i hi => by omega, fun i k hi => by omega⟩ (fun X h => ?_))
  · show chron_most.f n m l = _
    unfold chron_most.f
    rw [if_pos (by omega), if_pos (by omega), Option.bind_some]
    show chron_most.l0 n m l (List.replicate m []) ((List.replicate m []).length : Int) 0 = _
    rw [List.length_replicate]; rfl
  · exact most_l2 G l 0 X g0 (by omega) rfl h (fun X' h' => most_l3 G m 0 X' _ (by omega) (ini_ok G) h')
end
structure RepV (m : Nat) (xs : List Int) (d : Nat → Int) : Prop where
  len : xs.length = m
  get : ∀ k, k < m → xs.getD k 0 = d k
section
variable {m : Nat} {l : List S43} {xs : List Int} {d : Nat → Int}
theorem RepV.congr {e : Nat → Int} (h : RepV m xs d) (he : ∀ k, k < m → d k = e k) : RepV m xs e := ⟨h.len, fun k hk => (h.get k hk).trans (he k hk)⟩
theorem RepV.put (h : RepV m xs d) {b : Nat} (hb : b < m) (x : Int) : RepV m (xs.set b x) (up1 d b x) := by
  have hl := h.len
  refine ⟨by rw [List.length_set]; exact hl, fun k hk => ?_⟩
  rcases up1_at d b k x with ⟨e1, e⟩ | ⟨e1, e⟩
  · subst e1; rw [gset_eq (by omega), e]
  · rw [gset_ne (fun e => e1 e.symm), h.get k hk, e]
theorem RepV.at_ (h : RepV m xs d) {i : Int} (hi : i.toNat < m) : rd xs i = d i.toNat := h.get i.toNat hi
theorem rl_eq (q : (Nat → Int) × Bool) (a b : Nat) (w : Int) : (q.1 a < 1000000000 ∧ q.1 a + w < q.1 b ∧ rl q a b w = (up1 q.1 b (q.1 a + w), true)) ∨ (¬ (q.1 a < 1000000000 ∧ q.1 a + w < q.1 b) ∧ rl q a b w = q) := by
  unfold rl
  by_cases c : q.1 a < 1000000000 ∧ q.1 a + w < q.1 b
  · exact Or.inl ⟨c.1, c.2, if_pos c⟩
  · exact Or.inr ⟨c, if_neg c⟩
theorem lng_l2 (G : GoodB m l) {s : Nat} {r : Int} {Q : List Int × Bool → Prop} : ∀ (t : List S43) (i : Int) (xs : List Int) (q : (Nat → Int) × Bool) (B : Int), 0 ≤ i → l.drop i.toNat = t → RepV m xs q.1 → Bf m s q.1 → Low m B q.1 → B + 16000000 * t.length ≤ 1000000000000 →
    (∀ xs', RepV m xs' (t.foldl rb q).1 → To (fun n => if (t.foldl rb q).2 = true then (if r > wrap64 (2 * (m : Int)) then some (([] : List Int), false) else ephemerisref2_Longest.l1 n m l xs' (wrap64 (r + 1))) else some (xs', true)) Q) → To (fun n => ephemerisref2_Longest.l2 n m l xs r q.2 l (l.length : Int) i) Q := by
  have hl := G.len
  have hm := G.n2
  intro t
  induction t with
  | nil =>
    intro i xs q B h0 hd h hbf hlow hB hc
    have hle := drop_nil h0 hd
    exact to_step 1 (fun n => by rw [ephemerisref2_Longest.l2, if_neg (by omega)]; rfl) (hc xs h)
  | cons b t ih =>
    intro i xs q B h0 hd h hbf hlow hB hc
    obtain ⟨hlt, hs, ht⟩ := drop_cons z43 h0 hd
    have hs' : rd_T43 l i = b := hs
    have a9 : wrap64 (i + 1) = i + 1 := w64 (by omega) (by omega)
    have hok := G.ok b (drop_mem hd)
    obtain ⟨o1, o2, o3, o4, o5, o6, o7, o8⟩ := hok
    have b0 : b.f0.toNat < m := by omega
    have b1 : b.f1.toNat < m := by omega
    have hne : b.f0.toNat ≠ b.f1.toNat := by omega
    have hxl := h.len
    have r0 := h.at_ b0
    have r1 := h.at_ b1
    have f0 := hbf.far b.f0.toNat b0
    have f1 := hbf.far b.f1.toNat b1
    have g0 := hlow b.f0.toNat b0
    have g1 := hlow b.f1.toNat b1
    simp only [List.length_cons] at hB
    have w1 : wrap64 (q.1 b.f0.toNat + b.f3) = q.1 b.f0.toNat + b.f3 := w64 (by omega) (by omega)
    have next := fun xs' (h' : RepV m xs' (rb q b).1) => ih (i + 1) xs' (rb q b) (B + 16000000) (by omega) ht h' (rb_bf (G.ok b (drop_mem hd)) hbf) (rb_low (G.ok b (drop_mem hd)) hlow) (by omega) hc
    rcases rl_eq q b.f0.toNat b.f1.toNat b.f3 with ⟨c1, c2, e⟩ | ⟨c, e⟩
    · -- the first one is told anew
      have p1 := h.put b1 (q.1 b.f0.toNat + b.f3)
      have u1 : up1 q.1 b.f1.toNat (q.1 b.f0.toNat + b.f3) b.f1.toNat = q.1 b.f0.toNat + b.f3 := by simp [up1]
      have u0 : up1 q.1 b.f1.toNat (q.1 b.f0.toNat + b.f3) b.f0.toNat = q.1 b.f0.toNat := by simp [up1, hne]
      have t1 := p1.at_ b1
      have t0 := p1.at_ b0
      rw [u1] at t1
      rw [u0] at t0
      have w2 : wrap64 (q.1 b.f0.toNat + b.f3 - b.f2) = q.1 b.f0.toNat + b.f3 + -b.f2 := by rw [w64 (by omega) (by omega)]; omega
      have hun : ∀ n, ephemerisref2_Longest.l2 (n + 2) m l xs r q.2 l (l.length : Int) i = (if q.1 b.f0.toNat + b.f3 < 1000000000 then (if q.1 b.f0.toNat + b.f3 + -b.f2 < q.1 b.f0.toNat then ephemerisref2_Longest.l2 n m l ((xs.set b.f1.toNat (q.1 b.f0.toNat + b.f3)).set b.f0.toNat (q.1 b.f0.toNat + b.f3 + -b.f2)) r true l (l.length : Int) (i + 1) else ephemerisref2_Longest.l2 n m l (xs.set b.f1.toNat (q.1 b.f0.toNat + b.f3)) r true l (l.length : Int) (i + 1)) else ephemerisref2_Longest.l2 n m l (xs.set b.f1.toNat (q.1 b.f0.toNat + b.f3)) r true l (l.length : Int) (i + 1)) := by
        intro n
        rw [ephemerisref2_Longest.l2, if_pos hlt, if_pos h0, if_pos hlt, hs', if_pos o1, if_pos (by omega), r0, if_pos c1, if_pos o3, if_pos (by omega), r1, w1, decide_eq_true c2, ephemerisref2_Longest.j3, if_pos rfl, if_pos o1, if_pos (by omega), if_pos o3, if_pos (by omega), Option.bind_some, r0, w1, t1, t0, w2, a9]
      rcases rl_eq (rl q b.f0.toNat b.f1.toNat b.f3) b.f1.toNat b.f0.toNat (-b.f2) with ⟨d1, d2, e'⟩ | ⟨d, e'⟩
      · have er : rb q b = (up1 (up1 q.1 b.f1.toNat (q.1 b.f0.toNat + b.f3)) b.f0.toNat (q.1 b.f0.toNat + b.f3 + -b.f2), true) := by
          unfold rb; rw [e', e]; simp only [u1]
        rw [e] at d1 d2
        simp only [u1, u0] at d1 d2
        have hnx := next ((xs.set b.f1.toNat (q.1 b.f0.toNat + b.f3)).set b.f0.toNat (q.1 b.f0.toNat + b.f3 + -b.f2)) (by rw [er]; exact p1.put b0 _)
        rw [er] at hnx
        exact to_step 2 (fun n => by rw [hun, if_pos d1, if_pos d2]) hnx
      · have er : rb q b = (up1 q.1 b.f1.toNat (q.1 b.f0.toNat + b.f3), true) := by
          unfold rb; rw [e', e]
        rw [e] at d
        simp only [u1, u0] at d
        have hnx := next (xs.set b.f1.toNat (q.1 b.f0.toNat + b.f3)) (by rw [er]; exact p1)
        rw [er] at hnx
        refine to_step 2 (fun n => ?_) hnx
        rw [hun]
        by_cases d1 : q.1 b.f0.toNat + b.f3 < 1000000000
        · rw [if_pos d1, if_neg (fun d2 => d ⟨d1, d2⟩)]
        · rw [if_neg d1]
    · have w2 : wrap64 (q.1 b.f1.toNat - b.f2) = q.1 b.f1.toNat + -b.f2 := by rw [w64 (by omega) (by omega)]; omega
      have hun : ∀ n, ephemerisref2_Longest.l2 (n + 2) m l xs r q.2 l (l.length : Int) i = (if q.1 b.f1.toNat < 1000000000 then (if q.1 b.f1.toNat + -b.f2 < q.1 b.f0.toNat then ephemerisref2_Longest.l2 n m l (xs.set b.f0.toNat (q.1 b.f1.toNat + -b.f2)) r true l (l.length : Int) (i + 1) else ephemerisref2_Longest.l2 n m l xs r q.2 l (l.length : Int) (i + 1)) else ephemerisref2_Longest.l2 n m l xs r q.2 l (l.length : Int) (i + 1)) := by
        intro n
        have hj : ephemerisref2_Longest.l2 (n + 2) m l xs r q.2 l (l.length : Int) i = ephemerisref2_Longest.j3 (n + 1) m l xs r q.2 l (l.length : Int) i false b.f0 b.f1 b.f2 b.f3 := by
          rw [ephemerisref2_Longest.l2, if_pos hlt, if_pos h0, if_pos hlt, hs', if_pos o1, if_pos (by omega), r0]
          by_cases c1 : q.1 b.f0.toNat < 1000000000
          · rw [if_pos c1, if_pos o3, if_pos (by omega), r1, w1, decide_eq_false (fun c2 => c ⟨c1, c2⟩)]
          · rw [if_neg c1]
        have p1 : b.f0 < (xs.length : Int) := by omega
        rw [hj, ephemerisref2_Longest.j3, if_neg (by simp), if_pos o3, if_pos (by omega), r1, if_pos o1, if_pos p1, r0, w2, a9]
      rcases rl_eq (rl q b.f0.toNat b.f1.toNat b.f3) b.f1.toNat b.f0.toNat (-b.f2) with ⟨d1, d2, e'⟩ | ⟨d, e'⟩
      · have er : rb q b = (up1 q.1 b.f0.toNat (q.1 b.f1.toNat + -b.f2), true) := by
          unfold rb; rw [e', e]
        rw [e] at d1 d2
        have hnx := next (xs.set b.f0.toNat (q.1 b.f1.toNat + -b.f2)) (by rw [er]; exact h.put b0 _)
        rw [er] at hnx
        exact to_step 2 (fun n => by rw [hun, if_pos d1, if_pos d2]) hnx
      · have er : rb q b = q := by unfold rb; rw [e', e]
        rw [e] at d
        have hnx := next xs (by rw [er]; exact h)
        rw [er] at hnx
        refine to_step 2 (fun n => ?_) hnx
        rw [hun]
        by_cases d1 : q.1 b.f1.toNat < 1000000000
        · rw [if_pos d1, if_neg (fun d2 => d ⟨d1, d2⟩)]
        · rw [if_neg d1]
/-- what relaxation tells -/
def OutV (m : Nat) (o : (Nat → Int) × Bool) (r : List Int × Bool) : Prop := (o.2 = true → r.2 = true ∧ RepV m r.1 o.1) ∧ (o.2 = false → r = ([], false))
theorem lng_l1 (G : GoodB m l) {s : Nat} : ∀ (j r : Nat) (xs : List Int) (d : Nat → Int), r + j = 2 * m + 1 → RepV m xs d → Bf m s d → Low m (640000000 * r) d → To (fun n => ephemerisref2_Longest.l1 n m l xs r) (OutV m (bf l j d)) := by
  have hl := G.len
  have hm := G.n2
  have wm : wrap64 (2 * (m : Int)) = 2 * m := w64 (by omega) (by omega)
  intro j
  induction j with
  | zero =>
    intro r xs d hr h hb hlow
    refine to_step 1 (fun n => by rw [ephemerisref2_Longest.l1]) (lng_l2 G (r := r) (s := s) l 0 xs (d, false) (640000000 * r) (by omega) rfl h hb hlow (by omega) (fun xs' h' => ?_))
    unfold bf
    by_cases c : (rnd l d).2 = true
    · rw [if_pos c]
      exact to_some 0 (fun n => by rw [if_pos (show (l.foldl rb (d, false)).2 = true from c), wm, if_pos (by omega)]) ⟨fun e => absurd e (by simp), fun _ => rfl⟩
    · rw [if_neg c]
      have e : l.foldl rb (d, false) = (d, false) := rbs_no l (d, false) (by simpa [rnd] using c)
      rw [e] at h'
      exact to_some 0 (fun n => by rw [if_neg (show ¬ (l.foldl rb (d, false)).2 = true from c)]) ⟨fun _ => ⟨rfl, h'⟩, fun e => absurd e (by simp)⟩
  | succ j ih =>
    intro r xs d hr h hb hlow
    refine to_step 1 (fun n => by rw [ephemerisref2_Longest.l1]) (lng_l2 G (r := r) (s := s) l 0 xs (d, false) (640000000 * r) (by omega) rfl h hb hlow (by omega) (fun xs' h' => ?_))
    unfold bf
    by_cases c : (rnd l d).2 = true
    · rw [if_pos c]
      have hlow' := rbs_low l G.ok (640000000 * r) (d, false) hlow
      refine to_step 0 (fun n => by show (if _ then _ else _) = _; rw [if_pos (show (l.foldl rb (d, false)).2 = true from c), wm, if_neg (by omega), wn r (by omega)]; rfl) (ih (r + 1) xs' _ (by omega) h' (rbs_bf l G.ok _ hb) (fun k hk => ?_))
      have := hlow' k hk
      show _ ≤ (l.foldl rb (d, false)).1 k
      omega
    · rw [if_neg c]
      have e : l.foldl rb (d, false) = (d, false) := rbs_no l (d, false) (by simpa [rnd] using c)
      rw [e] at h'
      exact to_some 0 (fun n => by rw [if_neg (show ¬ (l.foldl rb (d, false)).2 = true from c)]) ⟨fun _ => ⟨rfl, h'⟩, fun e => absurd e (by simp)⟩
theorem lng_l0 (hm : m ≤ 12) {s : Nat} (hs : s < m) {Q : List Int × Bool → Prop} : ∀ (j i : Nat) (xs : List Int), i + j = m → RepV m xs (fun k => if k < i then 1000000000 else 0) → (∀ xs', RepV m xs' (d0 s) → To (fun n => ephemerisref2_Longest.l1 n m l xs' ((0 : Nat) : Int)) Q) → To (fun n => ephemerisref2_Longest.l0 n m l s xs m i) Q := by
  intro j
  induction j with
  | zero =>
    intro i xs hi h hc
    have hl := h.len
    refine to_step 1 (fun n => ?_) (hc (xs.set s 0) ((h.put hs 0).congr (fun k hk => ?_)))
    · rw [ephemerisref2_Longest.l0, if_neg (by omega), if_pos (by omega), if_pos (by omega)]; rfl
    · unfold up1 d0
      by_cases c : k = s
      · rw [if_pos c, if_pos c]
      · rw [if_neg c, if_neg c]
        show (if k < i then (1000000000 : Int) else 0) = _
        rw [if_pos (by omega)]
  | succ j ih =>
    intro i xs hi h hc
    have hl := h.len
    refine to_step 1 (fun n => ?_) (ih (i + 1) _ (by omega) ((h.put (show i < m by omega) 1000000000).congr (fun k hk => ?_)) hc)
    · rw [ephemerisref2_Longest.l0, if_pos (by omega), if_pos (by omega), if_pos (by omega), wn i (by omega)]; rfl
    · unfold up1
      by_cases c : k = i
      · rw [if_pos c, if_pos (by omega)]
      · rw [if_neg c]
        show (if k < i then (1000000000 : Int) else 0) = _
        by_cases c2 : k < i
        · rw [if_pos c2, if_pos (by omega)]
        · rw [if_neg c2, if_neg (by omega)]
theorem lng_ev (G : GoodB m l) {s : Nat} (hs : s < m) : To (fun n => ephemerisref2_Longest.f n m l s) (OutV m (lng m l s)) := by
  have hm := G.n2
  refine to_step 0 (f := fun n => ephemerisref2_Longest.l0 n m l s (List.replicate m 0) m ((0 : Nat) : Int)) (fun n => ?_) (lng_l0 (by omega) hs m 0 _ (by omega) ⟨List.length_replicate, fun k hk => ?_⟩ (fun xs h => ?_))
  · show ephemerisref2_Longest.f n m l s = _
    unfold ephemerisref2_Longest.f
    rw [if_pos (by omega), if_pos (by omega), Option.bind_some]
    show ephemerisref2_Longest.l0 n m l s (List.replicate m 0) ((List.replicate m (0 : Int)).length : Int) 0 = _
    rw [List.length_replicate]; rfl
  · rw [getD_rep hk, if_neg (by omega)]
  · exact lng_l1 G (s := s) (2 * m + 1) 0 xs (d0 s) (by omega) h (bf_zero hs) (fun k hk => by rcases d0_at s k with ⟨_, e⟩ | ⟨_, e⟩ <;> omega)
/-- whether all relaxations end -/
def slv (m : Nat) (l : List S43) : Bool := (List.range m).all (fun s => (lng m l s).2)
theorem slv_loop (G : GoodB m l) : ∀ (j i : Nat), i + j = m → (∀ s, s < i → (lng m l s).2 = true) → Ev (fun n => ephemerisref2_Solvable.l0 n m l m i) (slv m l) := by
  have hm := G.n2
  intro j
  induction j with
  | zero =>
    intro i hi h
    have : slv m l = true := List.all_eq_true.2 (fun s hs => h s (by have := List.mem_range.1 hs; omega))
    rw [this]
    exact ev_some 1 (fun n => by rw [ephemerisref2_Solvable.l0, if_neg (by omega)])
  | succ j ih =>
    intro i hi h
    obtain ⟨r, hr, h1, h2⟩ := lng_ev G (show i < m by omega)
    by_cases c : (lng m l i).2 = true
    · have e := (h1 c).1
      have := ih (i + 1) (by omega) (fun s hs => by
        by_cases c2 : s = i
        · rw [c2]; exact c
        · exact h s (by omega))
      refine ev_step 1 (f := fun n => (ephemerisref2_Longest.f n m l i).bind fun bt => if bt.2 = true then ephemerisref2_Solvable.l0 n m l m ((i + 1 : Nat) : Int) else some false) (fun n => by rw [ephemerisref2_Solvable.l0, if_pos (by omega), wn i (by omega)]) (ev_bind hr ?_)
      exact ev_step 0 (f := fun n => ephemerisref2_Solvable.l0 n m l m ((i + 1 : Nat) : Int)) (fun n => if_pos e) this
    · have e := h2 (by simpa using c)
      have : slv m l = false := by
        apply Bool.eq_false_iff.2
        intro ha
        exact c (List.all_eq_true.1 ha i (List.mem_range.2 (by omega)))
      rw [this]
      refine ev_step 1 (f := fun n => (ephemerisref2_Longest.f n m l i).bind fun bt => if bt.2 = true then ephemerisref2_Solvable.l0 n m l m ((i + 1 : Nat) : Int) else some false) (fun n => by rw [ephemerisref2_Solvable.l0, if_pos (by omega), wn i (by omega)]) (ev_bind hr ?_)
      rw [e]
      exact ev_some 0 (fun n => by simp)
theorem slv_ev (G : GoodB m l) : Ev (fun n => ephemerisref2_Solvable.f n m l) (slv m l) := by
  have := slv_loop G m 0 (by omega) (fun s hs => by omega)
  exact this
/-- Both tell the same. -/
theorem both (G : GoodB m l) : (∃ g, fw m m 0 (ini l) = some g ∧ Stg l m m g ∧ slv m l = true ∧ ∀ s, s < m → (lng m l s).2 = true ∧ ∀ k, k < m → (lng m l s).1 k = g s k) ∨ (fw m m 0 (ini l) = none ∧ slv m l = false) := by
  rcases sol_or G with ⟨g, e, h, hs⟩ | ⟨e, s, hs, hf⟩
  · exact Or.inl ⟨g, e, h, List.all_eq_true.2 (fun s h' => (hs s (List.mem_range.1 h')).1), hs⟩
  · refine Or.inr ⟨e, ?_⟩
    apply Bool.eq_false_iff.2
    intro ha
    have := List.all_eq_true.1 ha s (List.mem_range.2 hs)
    rw [hf] at this; cases this
end
end Go.Proofs.Ytfbjpdiaicaagaa.ChrD
