/- Chronologies: what the program's three loops and the reference's relaxation come to. -/
import Derived.Test.YtfbjpdiaicaagaaTopContradictn15
import Derived.Test.YtfbjpdiaicaagaaTopContradictn4
import Derived.Test.YtfbjpdiaicaagaaTopContradictn8
import Derived.Test.YtfbjpdiaicaagaaTopContradictn3
namespace Go.Proofs.Ytfbjpdiaicaagaa.ChrD
open Go.RowKit Go.Proofs.YtfbjpdiaicaagaaW.PrintWords Go.Proofs.YtfbjpdiaicaagaaW.PrintLast Go.Proofs.YtfbjpdiaicaagaaW.PrintMore Go.Proofs.Ytfbjpdiaicaagaa.Opn Go.Proofs.Ytfbjpdiaicaagaa.PAll Go.Proofs.Ytfbjpdiaicaagaa.Base Go.Proofs.Ytfbjpdiaicaagaa.ChrA Go.Proofs.Ytfbjpdiaicaagaa.ChrB Go.Proofs.Ytfbjpdiaicaagaa.ChrC
set_option linter.unusedVariables false
set_option linter.unusedSimpArgs false
/-- comes to something of a kind -/
def To {α : Type} (g : Nat → Option α) (Q : α → Prop) : Prop := ∃ r, Ev g r ∧ Q r
theorem to_step {α : Type} {g f : Nat → Option α} {Q : α → Prop} (n : Nat) (h : ∀ k, g (k + n) = f k) : To f Q → To g Q := fun ⟨r, hr, hq⟩ => ⟨r, ev_step n h hr, hq⟩
theorem to_some {α : Type} {g : Nat → Option α} {Q : α → Prop} {r : α} (n : Nat) (h : ∀ k, g (k + n) = some r) (hq : Q r) : To g Q := ⟨r, ev_some n h, hq⟩
theorem wn (i : Nat) (h : i ≤ 1000000) : wrap64 ((i : Int) + 1) = ((i + 1 : Nat) : Int) := by rw [w64 (by omega) (by omega)]; omega
theorem gset_eq {α : Type} {X : List α} {i : Nat} {y d : α} (h : i < X.length) : (X.set i y).getD i d = y := by
  rw [List.getD_eq_getElem?_getD, List.getElem?_set_self h]; rfl
theorem gset_ne {α : Type} {X : List α} {i j : Nat} {y d : α} (h : i ≠ j) : (X.set i y).getD j d = X.getD j d := by
  rw [List.getD_eq_getElem?_getD, List.getElem?_set_ne h, ← List.getD_eq_getElem?_getD]
theorem getD_rep {α : Type} {m k : Nat} {z d : α} (h : k < m) : (List.replicate m z).getD k d = z := by
  rw [List.getD_eq_getElem?_getD, List.getElem?_replicate, if_pos h]; rfl
/-- The first r rows of X are those of f. -/
structure Rep (m r : Nat) (X : List (List Int)) (f : Nat → Nat → Int) : Prop where
  len : X.length = m
  row : ∀ i, i < r → (X.getD i []).length = m
  get : ∀ i k, i < r → k < m → (X.getD i []).getD k 0 = f i k
section
variable {m r : Nat} {X : List (List Int)} {f g : Nat → Nat → Int}
theorem Rep.congr (h : Rep m r X f) (e : ∀ i k, i < r → k < m → f i k = g i k) : Rep m r X g := ⟨h.len, h.row, fun i k hi hk => (h.get i k hi hk).trans (e i k hi hk)⟩
theorem Rep.put (h : Rep m r X f) (hr : r ≤ m) {i k : Nat} (hi : i < r) (hk : k < m) (x : Int) : Rep m r (X.set i ((X.getD i []).set k x)) (upd f i k x) := by
  have hl := h.len
  refine ⟨by rw [List.length_set]; exact hl, fun a ha => ?_, fun a b ha hb => ?_⟩
  · by_cases c : i = a
    · subst c; rw [gset_eq (by omega), List.length_set]; exact h.row i ha
    · rw [gset_ne c]; exact h.row a ha
  · by_cases c : i = a
    · subst c
      rw [gset_eq (by omega)]
      by_cases c2 : k = b
      · subst c2
        rw [gset_eq (by rw [h.row i ha]; exact hb)]
        simp [upd]
      · rw [gset_ne c2, h.get i b ha hb]
        unfold upd; rw [if_neg (by omega)]
    · rw [gset_ne c, h.get a b ha hb]
      unfold upd; rw [if_neg (by omega)]
theorem Rep.new (h : Rep m r X f) (hr : r < m) (z : Int) : Rep m (r + 1) (X.set r (List.replicate m z)) (fun a b => if a = r then z else f a b) := by
  have hl := h.len
  refine ⟨by rw [List.length_set]; exact hl, fun a ha => ?_, fun a b ha hb => ?_⟩
  · by_cases c : r = a
    · subst c; rw [gset_eq (by omega), List.length_replicate]
    · rw [gset_ne c]; exact h.row a (by omega)
  · by_cases c : r = a
    · subst c; rw [gset_eq (by omega), getD_rep hb]; simp
    · rw [gset_ne c, h.get a b (by omega) hb, if_neg (by omega)]
theorem Rep.len_at (h : Rep m r X f) {i : Nat} (hi : i < r) : ((rd_L2 X (i : Int)).length : Int) = m := by
  have := h.row i hi
  show ((X.getD i []).length : Int) = m
  omega
theorem Rep.rd_at (h : Rep m r X f) {i k : Nat} (hi : i < r) (hk : k < m) : rd (rd_L2 X (i : Int)) (k : Int) = f i k := h.get i k hi hk
theorem Rep.len_toNat (h : Rep m r X f) {i : Int} (hi : i.toNat < r) : ((rd_L2 X i).length : Int) = m := by
  have := h.row i.toNat hi
  show ((X.getD i.toNat []).length : Int) = m
  omega
theorem Rep.rd_toNat (h : Rep m r X f) {i k : Int} (hi : i.toNat < r) (hk : k.toNat < m) : rd (rd_L2 X i) k = f i.toNat k.toNat := h.get i.toNat k.toNat hi hk
end
section
variable {m : Nat} {l : List S43} {Q : List (List Int) × Bool → Prop}
def part (f : Nat → Nat → Int) (v i k : Nat) : Nat → Nat → Int := fun a b => if a < i ∨ (a = i ∧ b < k) then st f v a b else f a b
theorem l5_step (hm : m ≤ 12) {h' : Nat → Nat → Int} {v i k : Nat} {X : List (List Int)} (hv : v < m) (hi : i < m) (hk2 : k < m) (h : Rep m m X h') (n : Nat) :
    chron_most.l5 (n + 1) m X v i m v m i m k = if h' i v < 1000000000 then (if h' v k < 1000000000 then chron_most.l5 n m (X.set i ((X.getD i []).set k (mn (h' i k) (wrap64 (h' i v + h' v k))))) v i m v m i m ((k + 1 : Nat) : Int) else chron_most.l5 n m X v i m v m i m ((k + 1 : Nat) : Int)) else chron_most.l5 n m X v i m v m i m ((k + 1 : Nat) : Int) := by
  have hl := h.len
  have hw := wn k (by omega)
  have e1 := h.len_at hi
  have e2 := h.len_at hv
  have e3 := h.rd_at hi hv
  have e4 := h.rd_at hv hk2
  have e5 := h.rd_at hi hk2
  have p1 : (k : Int) < m := by omega
  have p2 : (0 : Int) ≤ (i : Int) := by omega
  have p3 : (i : Int) < (X.length : Int) := by omega
  have p4 : (0 : Int) ≤ (v : Int) := by omega
  have p5 : (v : Int) < ((rd_L2 X (i : Int)).length : Int) := by omega
  have p6 : (v : Int) < (X.length : Int) := by omega
  have p7 : (0 : Int) ≤ (k : Int) := by omega
  have p8 : (k : Int) < ((rd_L2 X (v : Int)).length : Int) := by omega
  have p9 : (k : Int) < ((rd_L2 X (i : Int)).length : Int) := by omega
  rw [chron_most.l5, if_pos p1, if_pos p2, if_pos p3, if_pos p4, if_pos p5, e3, if_pos p6, if_pos p7, if_pos p8, e4, if_pos p9, e5, hw]
  rfl
theorem most_l5 (hm : m ≤ 12) {f : Nat → Nat → Int} {v i : Nat} (hv : v < m) (hi : i < m) (hd : f v v = 0) (hlo : ∀ a b, a < m → b < m → -100000000000 ≤ f a b) :
    ∀ (j k : Nat) (X : List (List Int)), k + j = m → Rep m m X (part f v i k) → (∀ X', Rep m m X' (part f v (i + 1) 0) → To (fun n => chron_most.l4 n m X' v m v m ((i + 1 : Nat) : Int)) Q) → To (fun n => chron_most.l5 n m X v i m v m i m k) Q := by
  intro j
  induction j with
  | zero =>
    intro k X hk h hc
    refine to_step 1 (fun n => ?_) (hc X (h.congr (fun a b ha hb => ?_)))
    · rw [chron_most.l5, if_neg (by omega), wn i (by omega)]
    · unfold part
      by_cases c : a < i ∨ a = i ∧ b < k
      · rw [if_pos c, if_pos (by omega)]
      · rw [if_neg c, if_neg (by omega)]
  | succ j ih =>
    intro k X hk h hc
    have hk2 : k < m := by omega
    have hl := h.len
    have eiv : part f v i k i v = f i v := by unfold part; split; exact st_col hd i; rfl
    have evk : part f v i k v k = f v k := by unfold part; split; exact st_row hd k; rfl
    have eik : part f v i k i k = f i k := by unfold part; rw [if_neg (by omega)]
    have nxt : ∀ a b, a < m → b < m → upd (part f v i k) i k (st f v i k) a b = part f v i (k + 1) a b := by
      intro a b ha hb
      unfold upd part
      by_cases c : a = i ∧ b = k
      · rw [if_pos c, if_pos (by omega), c.1, c.2]
      · rw [if_neg c]
        by_cases c2 : a < i ∨ a = i ∧ b < k
        · rw [if_pos c2, if_pos (by omega)]
        · rw [if_neg c2, if_neg (by omega)]
    have hw := wn k (by omega)
    by_cases c1 : f i v < 1000000000
    · by_cases c2 : f v k < 1000000000
      · have e1 := hlo i v hi hv
        have e2 := hlo v k hv hk2
        have es : st f v i k = mn (f i k) (f i v + f v k) := by unfold st; rw [if_pos ⟨c1, c2⟩]
        have hp := h.put (Nat.le_refl m) hi hk2 (st f v i k)
        refine to_step 1 (fun n => ?_) (ih (k + 1) _ (by omega) (hp.congr nxt) hc)
        rw [l5_step hm hv hi hk2 h, eiv, evk, eik, if_pos c1, if_pos c2, w64 (by omega) (by omega), ← es]
      · have es : st f v i k = f i k := by unfold st; rw [if_neg (by omega)]
        refine to_step 1 (fun n => ?_) (ih (k + 1) X (by omega) (h.congr (fun a b ha hb => ?_)) hc)
        · rw [l5_step hm hv hi hk2 h, eiv, evk, eik, if_pos c1, if_neg c2]
        · rw [← nxt a b ha hb]; unfold upd
          by_cases c : a = i ∧ b = k
          · rw [if_pos c, es, c.1, c.2, eik]
          · rw [if_neg c]
    · have es : st f v i k = f i k := by unfold st; rw [if_neg (by omega)]
      refine to_step 1 (fun n => ?_) (ih (k + 1) X (by omega) (h.congr (fun a b ha hb => ?_)) hc)
      · rw [l5_step hm hv hi hk2 h, eiv, if_neg c1]
      · rw [← nxt a b ha hb]; unfold upd
        by_cases c : a = i ∧ b = k
        · rw [if_pos c, es, c.1, c.2, eik]
        · rw [if_neg c]
theorem most_l4 (hm : m ≤ 12) {f : Nat → Nat → Int} {v : Nat} (hv : v < m) (hd : f v v = 0) (hlo : ∀ a b, a < m → b < m → -100000000000 ≤ f a b) :
    ∀ (j i : Nat) (X : List (List Int)), i + j = m → Rep m m X (part f v i 0) → (∀ X', Rep m m X' (st f v) → To (fun n => chron_most.l6 n m X' m v m ((0 : Nat) : Int)) Q) → To (fun n => chron_most.l4 n m X v m v m i) Q := by
  intro j
  induction j with
  | zero =>
    intro i X hi h hc
    refine to_step 1 (fun n => ?_) (hc X (h.congr (fun a b ha hb => ?_)))
    · rw [chron_most.l4, if_neg (by omega)]; rfl
    · unfold part; rw [if_pos (by omega)]
  | succ j ih =>
    intro i X hi h hc
    refine to_step 1 (fun n => ?_) (most_l5 hm hv (show i < m by omega) hd hlo m 0 X (by omega) h (fun X' h' => ih (i + 1) X' (by omega) h' hc))
    rw [chron_most.l4, if_pos (by omega)]; rfl
theorem most_l6 (hm : m ≤ 12) {g : Nat → Nat → Int} {X : List (List Int)} {v : Nat} (hv : v < m) (h : Rep m m X g) (hno : ngs m g = true → Q ([], false)) (hyes : ngs m g = false → To (fun n => chron_most.l3 n m X m ((v + 1 : Nat) : Int)) Q) :
    ∀ (j i : Nat), i + j = m → (∀ a, a < i → 0 ≤ g a a) → To (fun n => chron_most.l6 n m X m v m i) Q := by
  have hl := h.len
  intro j
  induction j with
  | zero =>
    intro i hi hp
    refine to_step 1 (fun n => ?_) (hyes ?_)
    · rw [chron_most.l6, if_neg (by omega), wn v (by omega)]
    · apply Bool.eq_false_iff.2
      intro hn
      obtain ⟨a, ha, hn⟩ := ngs_yes hn
      have := hp a (by omega)
      omega
  | succ j ih =>
    intro i hi hp
    have him : i < m := by omega
    have hun : ∀ n, chron_most.l6 (n + 1) m X m v m i = if g i i < 0 then some ([], false) else chron_most.l6 n m X m v m ((i + 1 : Nat) : Int) := by
      intro n
      rw [chron_most.l6, if_pos (by omega), if_pos (by omega), if_pos (by omega), if_pos (by rw [h.len_at him]; omega), h.rd_at him him, wn i (by omega)]
    by_cases c : g i i < 0
    · refine to_some 1 (fun n => by rw [hun, if_pos c]) (hno ?_)
      exact List.any_eq_true.2 ⟨i, List.mem_range.2 him, decide_eq_true c⟩
    · exact to_step 1 (fun n => by rw [hun, if_neg c]) (ih (i + 1) (by omega) (fun a ha => by
        by_cases c2 : a = i
        · subst c2; omega
        · exact hp a (by omega)))
/-- what the stages tell -/
def Out (m : Nat) (o : Option (Nat → Nat → Int)) (r : List (List Int) × Bool) : Prop := match o with
  | some g => r.2 = true ∧ Rep m m r.1 g
  | none => r = ([], false)
theorem most_l3 (G : GoodB m l) : ∀ (j v : Nat) (X : List (List Int)) (f : Nat → Nat → Int), v + j = m → Stg l m v f → Rep m m X f → To (fun n => chron_most.l3 n m X m v) (Out m (fw m j v f)) := by
  have hm := G.n2
  intro j
  induction j with
  | zero =>
    intro v X f hv hs h
    exact to_some 1 (fun n => by rw [chron_most.l3, if_neg (by omega)]) ⟨rfl, h⟩
  | succ j ih =>
    intro v X f hv hs h
    have hvm : v < m := by omega
    have hlo : ∀ a b, a < m → b < m → -100000000000 ≤ f a b := fun a b ha hb => by
      have h1 := hs.low a b ha hb
      have h2 : (2 : Int) ^ v ≤ 2 ^ 12 := by
        have : (2 : Nat) ^ v ≤ 2 ^ 12 := Nat.pow_le_pow_right (by omega) (by omega)
        exact_mod_cast this
      omega
    refine to_step 1 (fun n => ?_) (most_l4 (by omega) hvm (hs.diag v hvm) hlo m 0 X (by omega) (h.congr (fun a b ha hb => by unfold part; rw [if_neg (by omega)])) (fun X' h' => ?_))
    · rw [chron_most.l3, if_pos (by omega)]; rfl
    · refine most_l6 (by omega) hvm h' (fun hn => ?_) (fun hn => ?_) m 0 (by omega) (fun a ha => by omega)
      · unfold fw; rw [if_pos hn]; rfl
      · unfold fw; rw [if_neg (by rw [hn]; simp)]
        exact ih (v + 1) X' _ (by omega) (stg_next G hvm hs (ngs_no hn)) h'
theorem most_l2 (G : GoodB m l) : ∀ (t : List S43) (i : Int) (X : List (List Int)) (f : Nat → Nat → Int), 0 ≤ i → l.drop i.toNat = t → Rep m m X f → (∀ X', Rep m m X' (t.foldl ub f) → To (fun n => chron_most.l3 n m X' m ((0 : Nat) : Int)) Q) → To (fun n => chron_most.l2 n m X l (l.length : Int) i) Q := by
  have hl := G.len
  intro t
  induction t with
  | nil =>
    intro i X f h0 hd h hc
    have hle := drop_nil h0 hd
    exact to_step 1 (fun n => by rw [chron_most.l2, if_neg (by omega)]; rfl) (hc X h)
  | cons b t ih =>
    intro i X f h0 hd h hc
    obtain ⟨hlt, hs, ht⟩ := drop_cons z43 h0 hd
    have hs' : rd_T43 l i = b := hs
    have a9 : wrap64 (i + 1) = i + 1 := w64 (by omega) (by omega)
    obtain ⟨o1, o2, o3, o4, o5, o6, o7, o8⟩ := G.ok b (drop_mem hd)
    have hne : b.f0.toNat ≠ b.f1.toNat := by omega
    have b0 : b.f0.toNat < m := by omega
    have b1 : b.f1.toNat < m := by omega
    have p1 := h.put (Nat.le_refl m) b0 b1 (mn (f b.f0.toNat b.f1.toNat) b.f3)
    have p2 := p1.put (Nat.le_refl m) b1 b0 (mn (f b.f1.toNat b.f0.toNat) (-b.f2))
    have e2 : upd f b.f0.toNat b.f1.toNat (mn (f b.f0.toNat b.f1.toNat) b.f3) b.f1.toNat b.f0.toNat = f b.f1.toNat b.f0.toNat := by unfold upd; rw [if_neg (by omega)]
    have hX := h.len
    have hw : wrap64 (-b.f2) = -b.f2 := w64 (by omega) (by omega)
    refine to_step 1 (fun n => ?_) (ih (i + 1) _ _ (by omega) ht p2 hc)
    rw [chron_most.l2, if_pos hlt, if_pos h0, if_pos hlt, hs', if_pos o1, if_pos (by omega), if_pos o3, if_pos (by rw [h.len_toNat b0]; omega), Option.bind_some, if_pos (by omega), h.rd_toNat b0 b1]
    have q1 := p1.len_toNat b1
    have q2 := p1.rd_toNat b1 b0
    show (if b.f0 < ((rd_L2 (X.set b.f0.toNat ((X.getD b.f0.toNat []).set b.f1.toNat (mn (f b.f0.toNat b.f1.toNat) b.f3))) b.f1).length : Int) then _ else _) = _
    rw [if_pos (by rw [q1]; omega), a9, hw]
    show chron_most.l2 n m (List.set (X.set b.f0.toNat ((X.getD b.f0.toNat []).set b.f1.toNat (mn (f b.f0.toNat b.f1.toNat) b.f3))) _ (List.set _ _ (mn (rd (rd_L2 (X.set b.f0.toNat ((X.getD b.f0.toNat []).set b.f1.toNat (mn (f b.f0.toNat b.f1.toNat) b.f3))) b.f1) b.f0) _))) _ _ _ = _
    rw [q2, e2]
    rfl
theorem most_l1 (hm : m ≤ 12) {i : Nat} (hi : i < m) : ∀ (j k : Nat) (X : List (List Int)), k + j = m → Rep m (i + 1) X (fun a b => if a = i then (if b < k then g0 i b else 0) else g0 a b) → (∀ X', Rep m (i + 1) X' g0 → To (fun n => chron_most.l0 n m l X' m ((i + 1 : Nat) : Int)) Q) → To (fun n => chron_most.l1 n m l X i m i m k) Q := by
  intro j
  induction j with
  | zero =>
    intro k X hk h hc
    refine to_step 1 (fun n => ?_) (hc X (h.congr (fun a b ha hb => ?_)))
    · rw [chron_most.l1, if_neg (by omega), wn i (by omega)]
    · show (if a = i then (if b < k then g0 i b else 0) else g0 a b) = _
      by_cases c : a = i
      · rw [if_pos c, if_pos (by omega), c]
      · rw [if_neg c]
  | succ j ih =>
    intro k X hk h hc
    have hl := h.len
    have hw := wn k (by omega)
    by_cases c : i = k
    · refine to_step 1 (fun n => ?_) (ih (k + 1) X (by omega) (h.congr (fun a b ha hb => ?_)) hc)
      · rw [chron_most.l1, if_pos (by omega), if_pos (by omega), hw]
      · show (if a = i then (if b < k then g0 i b else 0) else g0 a b) = (if a = i then (if b < k + 1 then g0 i b else 0) else g0 a b)
        by_cases c2 : a = i
        · rw [if_pos c2, if_pos c2]
          by_cases c3 : b < k
          · rw [if_pos c3, if_pos (by omega)]
          · rw [if_neg c3]
            by_cases c4 : b = k
            · rw [if_pos (by omega)]; unfold g0; rw [if_pos (by omega)]
            · rw [if_neg (by omega)]
        · rw [if_neg c2, if_neg c2]
    · have hp := h.put (by omega) (show i < i + 1 by omega) (show k < m by omega) 1000000000
      refine to_step 1 (fun n => ?_) (ih (k + 1) _ (by omega) (hp.congr (fun a b ha hb => ?_)) hc)
      · rw [chron_most.l1, if_pos (by omega), if_neg (by omega), if_pos (by omega), if_pos (by omega), if_pos (by omega), if_pos (by rw [h.len_at (by omega)]; omega), hw]; rfl
      · unfold upd
        by_cases c2 : a = i
        · by_cases c4 : b = k
          · rw [if_pos ⟨c2, c4⟩, if_pos c2, if_pos (by omega)]; unfold g0; rw [if_neg (by omega)]
          · rw [if_neg (by omega), if_pos c2]
            show (if a = i then (if b < k then g0 i b else 0) else g0 a b) = _
            rw [if_pos c2]
            by_cases c3 : b < k
            · rw [if_pos c3, if_pos (by omega)]
            · rw [if_neg c3, if_neg (by omega)]
        · rw [if_neg (by omega), if_neg c2]
          show (if a = i then (if b < k then g0 i b else 0) else g0 a b) = _
          rw [if_neg c2]
theorem most_l0 (hm : m ≤ 12) : ∀ (j i : Nat) (X : List (List Int)), i + j = m → Rep m i X g0 → (∀ X', Rep m m X' g0 → To (fun n => chron_most.l2 n m X' l (l.length : Int) 0) Q) → To (fun n => chron_most.l0 n m l X m i) Q := by
  intro j
  induction j with
  | zero =>
    intro i X hi h hc
    obtain rfl : i = m := by omega
    exact to_step 1 (fun n => by rw [chron_most.l0, if_neg (by omega)]) (hc X h)
  | succ j ih =>
    intro i X hi h hc
    have hl := h.len
    have hn := h.new (show i < m by omega) 0
    refine to_step 1 (fun n => ?_) (most_l1 hm (show i < m by omega) m 0 _ (by omega) (hn.congr (fun a b ha hb => ?_)) (fun X' h' => ih (i + 1) X' (by omega) h' hc))
    · have e := hn.len_at (show i < i + 1 by omega)
      rw [chron_most.l0, if_pos (by omega), if_pos (by omega), if_pos (by omega), if_pos (by omega), if_pos (by omega), Option.bind_some]
      show chron_most.l1 n m l (X.set i (List.replicate m 0)) i m i ((rd_L2 (X.set i (List.replicate m 0)) (i : Int)).length : Int) 0 = _
      rw [e]; rfl
    · simp
theorem most_ev (G : GoodB m l) : To (fun n => chron_most.f n m l) (Out m (fw m m 0 (ini l))) := by
  have hm := G.n2
  refine to_step 0 (f := fun n => chron_most.l0 n m l (List.replicate m []) m ((0 : Nat) : Int)) (fun n => ?_) (most_l0 (by omega) m 0 _ (by omega) ⟨List.length_replicate, fun i hi => by omega, fun i k hi => by omega⟩ (fun X h => ?_))
  · show chron_most.f n m l = _
    unfold chron_most.f
    rw [if_pos (by omega), if_pos (by omega), Option.bind_some]
    show chron_most.l0 n m l (List.replicate m []) ((List.replicate m []).length : Int) 0 = _
    rw [List.length_replicate]; rfl
  · exact most_l2 G l 0 X g0 (by omega) rfl h (fun X' h' => most_l3 G m 0 X' _ (by omega) (ini_ok G) h')
end
structure RepV (m : Nat) (xs : List Int) (d : Nat → Int) : Prop where
  len : xs.length = m
  get : ∀ k, k < m → xs.getD k 0 = d k
section
variable {m : Nat} {l : List S43} {xs : List Int} {d : Nat → Int}
theorem RepV.congr {e : Nat → Int} (h : RepV m xs d) (he : ∀ k, k < m → d k = e k) : RepV m xs e := ⟨h.len, fun k hk => (h.get k hk).trans (he k hk)⟩
theorem RepV.put (h : RepV m xs d) {b : Nat} (hb : b < m) (x : Int) : RepV m (xs.set b x) (up1 d b x) := by
  have hl := h.len
  refine ⟨by rw [List.length_set]; exact hl, fun k hk => ?_⟩
  rcases up1_at d b k x with ⟨e1, e⟩ | ⟨e1, e⟩
  · subst e1; rw [gset_eq (by omega), e]
  · rw [gset_ne (fun e => e1 e.symm), h.get k hk, e]
theorem RepV.at_ (h : RepV m xs d) {i : Int} (hi : i.toNat < m) : rd xs i = d i.toNat := h.get i.toNat hi
/-- whether all relaxations end -/
def slv (m : Nat) (l : List S43) : Bool := (List.range m).all (fun s => (lng m l s).2)
/-- Both tell the same. -/
theorem both (G : GoodB m l) : (∃ g, fw m m 0 (ini l) = some g ∧ Stg l m m g ∧ slv m l = true ∧ ∀ s, s < m → (lng m l s).2 = true ∧ ∀ k, k < m → (lng m l s).1 k = g s k) ∨ (fw m m 0 (ini l) = none ∧ slv m l = false) := by
  rcases sol_or G with ⟨g, e, h, hs⟩ | ⟨e, s, hs, hf⟩
  · exact Or.inl ⟨g, e, h, List.all_eq_true.2 (fun s h' => (hs s (List.mem_range.1 h')).1), hs⟩
  · refine Or.inr ⟨e, ?_⟩
    apply Bool.eq_false_iff.2
    intro ha
    have := List.all_eq_true.1 ha s (List.mem_range.2 hs)
    rw [hf] at this; cases this
end
end Go.Proofs.Ytfbjpdiaicaagaa.ChrD
