/- TopContradict: a bound beyond a tightest one yields a contradiction that contains it, and without its first bound there is none; for all days, bounds and numbers. -/
import Derived.Test.YtfbjpdiaicaagaaTopContradictn11
import Derived.Test.YtfbjpdiaicaagaaTopContradictn18
import Derived.Test.YtfbjpdiaicaagaaTopContradictn5
import Derived.Test.YtfbjpdiaicaagaaTopContradictn6
import Derived.Test.YtfbjpdiaicaagaaTopContradictn7
import Derived.Test.YtfbjpdiaicaagaaTopContradictn9
namespace Go.Proofs.Ytfbjpdiaicaagaa.Pure
open Go.RowKit Go.Proofs.YtfbjpdiaicaagaaW.PrintWords Go.Proofs.YtfbjpdiaicaagaaW.PrintLast Go.Proofs.YtfbjpdiaicaagaaW.PrintMore Go.Proofs.Ytfbjpdiaicaagaa.Opn Go.Proofs.Ytfbjpdiaicaagaa.PAll Go.Proofs.Ytfbjpdiaicaagaa.Base Go.Proofs.Ytfbjpdiaicaagaa.ChrA Go.Proofs.Ytfbjpdiaicaagaa.ChrB Go.Proofs.Ytfbjpdiaicaagaa.ChrC Go.Proofs.Ytfbjpdiaicaagaa.ChrD Go.Proofs.Ytfbjpdiaicaagaa.ChrE Go.Proofs.Ytfbjpdiaicaagaa.ConT
set_option linter.unusedVariables false
set_option linter.unusedSimpArgs false
theorem chron_works : Ev (fun k => ephemeristop_sChron.f k) true := Ev.of ephemeristop_sChron.mono (k := 200) (by decide +kernel)
/-- the bounds whose sign is true -/
def filt : List S43 → List Bool → List S43
  | b :: t, x :: v => if x = true then b :: filt t v else filt t v
  | _, _ => []
theorem filt_mem : ∀ (t : List S43) (v : List Bool), ∀ b ∈ filt t v, b ∈ t
  | [], v, b, h => by cases v <;> simp [filt] at h
  | s :: t, [], b, h => by simp [filt] at h
  | s :: t, x :: v, b, h => by
    rw [filt] at h
    by_cases c : x = true
    · rw [if_pos c] at h
      rcases List.mem_cons.1 h with rfl | h
      · exact List.mem_cons_self
      · exact List.mem_cons_of_mem _ (filt_mem t v b h)
    · rw [if_neg c] at h; exact List.mem_cons_of_mem _ (filt_mem t v b h)
theorem filt_len : ∀ (t : List S43) (v : List Bool), (filt t v).length ≤ t.length
  | [], v => by cases v <;> simp [filt]
  | s :: t, [] => by simp [filt]
  | s :: t, x :: v => by
    have := filt_len t v
    rw [filt]
    split
    · simp; omega
    · simp; omega
/-- which bounds stay -/
def decs (m : Nat) : List S43 → List S43 → List Bool
  | [], _ => []
  | b :: t, kept => slv m (kept ++ t) :: decs m t (if slv m (kept ++ t) = true then kept ++ [b] else kept)
/-- the numbers of the trues -/
def idx : List Bool → Nat → List Int
  | [], _ => []
  | x :: v, j => if x = true then (j : Int) :: idx v (j + 1) else idx v (j + 1)
theorem idx_len : ∀ (v : List Bool) (j : Nat), (idx v j).length ≤ v.length
  | [], _ => Nat.le_refl _
  | x :: v, j => by
    have := idx_len v (j + 1)
    rw [idx]
    split
    · simp; omega
    · simp; omega
section
variable {m : Nat} {l : List S43}
theorem least_l0 (G : GoodB m l) : ∀ (t kept : List S43) (i : Nat) (out : List Int), kept.length = out.length → (∀ b ∈ kept ++ t, b ∈ l) → out.length ≤ i → i + t.length = l.length → Ev (fun k => contradict_Least.l0 k m (kept ++ t) out (l.length : Int) i) (out ++ idx (decs m t kept) i, 0) := by
  have hl := G.len
  intro t
  induction t with
  | nil =>
    intro kept i out hk hm ho hi
    simp only [List.length_nil] at hi
    exact ev_some 1 (fun k => by rw [contradict_Least.l0, if_neg (by omega)]; simp [decs, idx])
  | cons b t ih =>
    intro kept i out hk hm ho hi
    simp only [List.length_cons] at hi
    have her : (kept ++ b :: t).eraseIdx kept.length = kept ++ t := by
      rw [List.eraseIdx_append_of_length_le (Nat.le_refl _), Nat.sub_self]; rfl
    have hlen : (kept ++ b :: t).length ≤ 40 := by rw [List.length_append, List.length_cons]; omega
    have hw := without_ev hlen (i := kept.length) (by rw [List.length_append, List.length_cons]; omega)
    rw [her, hk] at hw
    have hm' : ∀ x ∈ kept ++ t, x ∈ l := fun x hx => hm x (by
      rcases List.mem_append.1 hx with hx | hx
      · exact List.mem_append.2 (Or.inl hx)
      · exact List.mem_append.2 (Or.inr (List.mem_cons_of_mem _ hx)))
    have hG : GoodB m (kept ++ t) := sub_good G hm' (by rw [List.length_append]; omega)
    obtain ⟨r, hr, hq⟩ := tt_ev hG
    have hlt : (i : Int) < (l.length : Int) := by omega
    rcases hq with ⟨hv, e⟩ | ⟨hv, e, _⟩
    · have h := ih kept (i + 1) out hk hm' (by omega) (by omega)
      have e2 : idx (decs m (b :: t) kept) i = idx (decs m t kept) (i + 1) := by
        rw [decs, hv, if_neg (by simp), idx, if_neg (by simp)]
      rw [e2]
      refine ev_step 1 (f := fun k => (contradict_without.f k (kept ++ b :: t) (out.length : Int)).bind fun t291 => ((chron_Tightest.f k m t291).bind fun bt294 => (if bt294.2 = 10 then ((contradict_without.f k (kept ++ b :: t) (out.length : Int)).bind fun t298 => (contradict_Least.l0 k m t298 out (l.length : Int) (wrap64 ((i : Int) + 1)))) else (if out.length < 17592186044416 then (contradict_Least.l0 k m (kept ++ b :: t) (out ++ [(i : Int)]) (l.length : Int) (wrap64 ((i : Int) + 1))) else (none))))) (fun k => by rw [contradict_Least.l0, if_pos hlt]) (ev_bind hw (ev_bind hr ?_))
      rw [e, wn i (by omega)]
      exact ev_step 0 (f := fun k => (contradict_without.f k (kept ++ b :: t) (out.length : Int)).bind fun t298 => contradict_Least.l0 k m t298 out (l.length : Int) ((i + 1 : Nat) : Int)) (fun k => by rw [if_pos rfl]; rfl) (ev_bind hw h)
    · have h := ih (kept ++ [b]) (i + 1) (out ++ [(i : Int)]) (by simp [hk]) (by rw [List.append_assoc]; exact hm) (by simp; omega) (by omega)
      have e2 : idx (decs m (b :: t) kept) i = (i : Int) :: idx (decs m t (kept ++ [b])) (i + 1) := by
        rw [decs, hv, if_pos rfl, idx, if_pos rfl]
      rw [e2]
      refine ev_step 1 (f := fun k => (contradict_without.f k (kept ++ b :: t) (out.length : Int)).bind fun t291 => ((chron_Tightest.f k m t291).bind fun bt294 => (if bt294.2 = 10 then ((contradict_without.f k (kept ++ b :: t) (out.length : Int)).bind fun t298 => (contradict_Least.l0 k m t298 out (l.length : Int) (wrap64 ((i : Int) + 1)))) else (if out.length < 17592186044416 then (contradict_Least.l0 k m (kept ++ b :: t) (out ++ [(i : Int)]) (l.length : Int) (wrap64 ((i : Int) + 1))) else (none))))) (fun k => by rw [contradict_Least.l0, if_pos hlt]) (ev_bind hw (ev_bind hr ?_))
      rw [wn i (by omega)]
      rw [show kept ++ [b] ++ t = kept ++ b :: t by simp, show out ++ [(i : Int)] ++ idx (decs m t (kept ++ [b])) (i + 1) = out ++ (i : Int) :: idx (decs m t (kept ++ [b])) (i + 1) by simp] at h
      refine ev_step 0 (fun k => ?_) h
      rw [if_neg (by omega), if_pos (by omega)]; rfl
theorem clone_eq (h : l.length ≤ 40) : api_ChronBound_29.f l = some l := by
  unfold api_ChronBound_29.f; rw [Option.bind_some, if_pos (by simp; omega)]; rfl
theorem least_ev (G : GoodB m l) : (slv m l = true → Ev (fun k => contradict_Least.f k m l) ([], 6)) ∧ (slv m l = false → Ev (fun k => contradict_Least.f k m l) (idx (decs m l []) 0, 0)) := by
  have hl := G.len
  obtain ⟨r, hr, hq⟩ := tt_ev G
  rcases hq with ⟨hv, e⟩ | ⟨hv, e, _⟩
  · refine ⟨fun h => (by rw [hv] at h; cases h), fun _ => ?_⟩
    unfold contradict_Least.f
    refine ev_bind hr ?_
    rw [e]
    refine ev_step 0 (fun k => ?_) (least_l0 G l [] 0 [] rfl (fun b hb => hb) (by simp) (by omega))
    rw [if_pos rfl, clone_eq hl, Option.bind_some]; rfl
  · refine ⟨fun _ => ?_, fun h => (by rw [hv] at h; cases h)⟩
    unfold contradict_Least.f
    refine ev_bind hr ?_
    exact ev_some 0 (fun k => by rw [if_neg (by omega), if_pos e])
end
theorem ed_sub {l l' : List S43} (h : ∀ b ∈ l', b ∈ l) {i k : Nat} {w : Int} (he : Ed l' i k w) : Ed l i k w := by
  obtain ⟨b, hb, e⟩ := he
  exact ⟨b, h b hb, e⟩
theorem wk_sub {l l' : List S43} (h : ∀ b ∈ l', b ∈ l) : ∀ {p : List Nat} {i k : Nat} {w : Int}, Wk l' i p k w → Wk l i p k w
  | [], _, _, _, he => ed_sub h he
  | x :: p, _, _, _, ⟨u, h1, h2⟩ => ⟨u, ed_sub h h1, wk_sub h h2⟩
section
variable {m : Nat} {l : List S43}
theorem slv_walk (G : GoodB m l) (h : slv m l = true) {s : Nat} {p : List Nat} {w : Int} (hw : Wk l s p s w) : 0 ≤ w := by
  rcases both G with ⟨g, _, hS, _, _⟩ | ⟨_, hv⟩
  · exact wk_cyc G hS hw
  · rw [hv] at h; cases h
theorem slv_of (G : GoodB m l) (h : ∀ s p w, Wk l s p s w → 0 ≤ w) : slv m l = true := by
  rcases fw_tells G m 0 (ini l) (by omega) (ini_ok G) with ⟨g, e, hS⟩ | ⟨e, s, p, w, hs, hw, hp⟩
  · rcases both G with ⟨_, _, _, hv, _⟩ | ⟨e', _⟩
    · exact hv
    · rw [e] at e'; cases e'
  · have := h s p w hp; omega
theorem slv_sub (G : GoodB m l) (h : slv m l = true) {l' : List S43} (hs : ∀ b ∈ l', b ∈ l) (hl : l'.length ≤ l.length) : slv m l' = true :=
  slv_of (sub_good G hs hl) (fun s p w hw => slv_walk G h (wk_sub hs hw))
/-- a solution -/
def Sat (P : Nat → Int) (l : List S43) : Prop := ∀ b ∈ l, b.f2 ≤ P b.f1.toNat - P b.f0.toNat ∧ P b.f1.toNat - P b.f0.toNat ≤ b.f3
theorem sat_walk {P : Nat → Int} (h : Sat P l) : ∀ {p : List Nat} {i k : Nat} {w : Int}, Wk l i p k w → P k - P i ≤ w
  | [], i, k, w, he => by
    obtain ⟨b, hb, e⟩ := he
    have := h b hb
    rcases e with ⟨rfl, rfl, rfl⟩ | ⟨rfl, rfl, rfl⟩ <;> omega
  | x :: p, i, k, w, ⟨u, h1, h2⟩ => by
    have a := sat_walk h h2
    obtain ⟨b, hb, e⟩ := h1
    have := h b hb
    rcases e with ⟨rfl, rfl, rfl⟩ | ⟨rfl, rfl, rfl⟩ <;> omega
theorem slv_sat (G : GoodB m l) {P : Nat → Int} (h : Sat P l) : slv m l = true := slv_of G (fun s p w hw => by have := sat_walk h hw; omega)
theorem decs_last {c : S43} (hsub : ∀ K : List S43, (∀ b ∈ K, b ∈ l) → K.length ≤ l.length → slv m K = true) : ∀ (t kept : List S43), (∀ b ∈ kept ++ t, b ∈ l) → (kept ++ t).length ≤ l.length → ∃ R, decs m (t ++ [c]) kept = R ++ [true] ∧ R.length = t.length
  | [], kept, hm, hl => by
    refine ⟨[], ?_, rfl⟩
    show slv m (kept ++ []) :: _ = _
    rw [hsub (kept ++ []) hm hl]; rfl
  | b :: t, kept, hm, hl => by
    rw [List.length_append, List.length_cons] at hl
    by_cases c2 : slv m (kept ++ (t ++ [c])) = true
    · obtain ⟨R, e, hR⟩ := decs_last hsub t (kept ++ [b]) (fun x hx => hm x (by simpa using hx)) (by simp; omega)
      refine ⟨true :: R, ?_, by simp [hR]⟩
      show decs m (b :: (t ++ [c])) kept = _
      rw [decs, c2, if_pos rfl, e]; rfl
    · obtain ⟨R, e, hR⟩ := decs_last hsub t kept (fun x hx => hm x (by rcases List.mem_append.1 hx with h | h; exact List.mem_append.2 (Or.inl h); exact List.mem_append.2 (Or.inr (List.mem_cons_of_mem _ h)))) (by rw [List.length_append]; omega)
      have c3 : slv m (kept ++ (t ++ [c])) = false := by simpa using c2
      refine ⟨false :: R, ?_, by simp [hR]⟩
      show decs m (b :: (t ++ [c])) kept = _
      rw [decs, c3, if_neg (by simp), e]; rfl
theorem decs_first {c : S43} (hc : slv m [c] = true) : ∀ (t : List S43), slv m (t ++ [c]) = false → ∃ u b v, t = u ++ b :: v ∧ slv m (v ++ [c]) = true ∧ decs m (t ++ [c]) [] = List.replicate u.length false ++ true :: decs m (v ++ [c]) [b]
  | [], h => by rw [List.nil_append, hc] at h; cases h
  | b :: t, h => by
    by_cases c2 : slv m (t ++ [c]) = true
    · refine ⟨[], b, t, rfl, c2, ?_⟩
      show decs m (b :: (t ++ [c])) [] = _
      rw [decs, List.nil_append, c2, if_pos rfl]; rfl
    · have c3 : slv m (t ++ [c]) = false := by simpa using c2
      obtain ⟨u, b', v, e, h1, h2⟩ := decs_first hc t c3
      refine ⟨b :: u, b', v, by rw [e]; rfl, h1, ?_⟩
      show decs m (b :: (t ++ [c])) [] = _
      rw [decs, List.nil_append, c3, if_neg (by simp), h2]; rfl
theorem idx_rep : ∀ (n : Nat) (v : List Bool) (j : Nat), idx (List.replicate n false ++ v) j = idx v (j + n)
  | 0, v, j => rfl
  | n + 1, v, j => by
    show idx (false :: (List.replicate n false ++ v)) j = _
    rw [idx, if_neg (by simp), idx_rep n, show j + 1 + n = j + (n + 1) by omega]
theorem idx_end : ∀ (v : List Bool) (j : Nat), idx (v ++ [true]) j = idx v j ++ [((j + v.length : Nat) : Int)]
  | [], j => rfl
  | x :: v, j => by
    show idx (x :: (v ++ [true])) j = _
    rw [idx, idx, idx_end v, List.length_cons, show j + 1 + v.length = j + (v.length + 1) by omega]
    split <;> rfl
/-- the bounds of these numbers -/
theorem less_l0 {n : Nat} {all : List S43} (hall : all.length ≤ 40) {L : List Int} (hL : L.length ≤ 40) {b : Bool} : ∀ (v : List Bool) (j : Nat) (t : List S43) (i : Nat) (acc : List S43), all.drop j = t → v.length = t.length → L.drop i = idx v j → acc.length ≤ i →
    Ev (fun k => (chron_Tightest.f k n (acc ++ filt t v)).bind fun bt => some (bt.2 == 0)) b → Ev (fun k => ephemeristop_TopContradict.l0 k n all acc L (L.length : Int) i) b := by
  intro v
  induction v with
  | nil =>
    intro j t i acc hd hv hi ha h
    have hle := drop_nil (l := L) (i := (i : Int)) (by omega) (by simpa [idx] using hi)
    have e : acc ++ filt t [] = acc := by cases t <;> simp [filt]
    rw [e] at h
    refine ev_step 1 (fun k => ?_) h
    rw [ephemeristop_TopContradict.l0, if_neg (by omega)]
  | cons x v ih =>
    intro j t i acc hd hv hi ha h
    cases t with
    | nil => simp at hv
    | cons s t =>
      obtain ⟨hlt, hs, ht⟩ := drop_cons (l := all) (i := (j : Int)) z43 (by omega) (by simpa using hd)
      have hs' : rd_T43 all (j : Int) = s := hs
      have e1 : ((j : Int) + 1).toNat = j + 1 := by omega
      rw [e1] at ht
      by_cases c : x = true
      · rw [idx, if_pos c] at hi
        obtain ⟨hlt2, hx, hi'⟩ := drop_cons (l := L) (i := (i : Int)) 0 (by omega) (by simpa using hi)
        have hx' : rd L (i : Int) = j := hx
        have e2 : ((i : Int) + 1).toNat = i + 1 := by omega
        rw [e2] at hi'
        have e : acc ++ filt (s :: t) (x :: v) = acc ++ [s] ++ filt t v := by rw [filt, if_pos c, List.append_assoc]; rfl
        rw [e] at h
        refine ev_step 1 (fun k => ?_) (ih (j + 1) t (i + 1) (acc ++ [s]) ht (by simpa using hv) hi' (by simp; omega) h)
        rw [ephemeristop_TopContradict.l0, if_pos hlt2, if_pos (by omega), if_pos hlt2, hx', if_neg (by omega), if_neg (by omega), if_pos (by omega), if_pos hlt, hs', eta, Option.bind_some, if_pos (by simp; omega), wn i (by omega)]
      · rw [idx, if_neg c] at hi
        have e : acc ++ filt (s :: t) (x :: v) = acc ++ filt t v := by rw [filt, if_neg c]
        rw [e] at h
        exact ih (j + 1) t i acc ht (by simpa using hv) hi ha h
end
theorem at_ev {a n : Int} (h0 : 0 < n) (h1 : n ≤ 1000) : ∃ r, ephemeristop_sAt.f a n = some r ∧ 0 ≤ r ∧ r < n := by
  have b1 := Int.lt_tmod_of_pos a h0
  have b2 := Int.tmod_lt_of_pos a h0
  unfold ephemeristop_sAt.f
  rw [if_neg (by omega), w64 (by omega) (by omega), Int.tmod_eq_emod_of_nonneg (by omega)]
  exact ⟨_, rfl, Int.emod_nonneg _ (by omega), Int.emod_lt_of_pos _ h0⟩
theorem tmod_at {a n : Int} (ha : 0 ≤ a) : Int.tmod a n = a % n := Int.tmod_eq_emod_of_nonneg ha
/-- events in order, with a solution -/
structure EvOk (m : Nat) (P : Nat → Int) (l : List S43) : Prop where
  ok : ∀ b ∈ l, Ok m b
  sat : Sat P l
theorem sEvents_l0 {m : Nat} (m0 : 2 ≤ m) (m1 : m ≤ 8) {D : List Int} (hD : m ≤ D.length) {L : List S43} : ∀ (t : List S43) (i : Nat) (acc : List S43), L.drop i = t → i ≤ 20 → acc.length = i → EvOk m (fun k => Int.tmod (rd D (k : Int)) 10000) acc →
    To (fun k => ephemeristop_sEvents.l0 k D m acc L (L.length : Int) i) (fun r => r.1 = m ∧ r.2.length ≤ 20 ∧ EvOk m (fun k => Int.tmod (rd D (k : Int)) 10000) r.2) := by
  intro t
  induction t with
  | nil =>
    intro i acc hd hi ha h
    have hle := drop_nil (l := L) (i := (i : Int)) (by omega) (by simpa using hd)
    exact to_some 1 (fun k => by rw [ephemeristop_sEvents.l0, if_neg (by omega)]) ⟨rfl, (show acc.length ≤ 20 by omega), h⟩
  | cons b t ih =>
    intro i acc hd hi ha h
    obtain ⟨hlt, hs, ht⟩ := drop_cons (l := L) (i := (i : Int)) z43 (by omega) (by simpa using hd)
    have hs' : rd_T43 L (i : Int) = b := hs
    have e1 : ((i : Int) + 1).toNat = i + 1 := by omega
    rw [e1] at ht
    by_cases c : i = 20
    · exact to_some 2 (fun k => by rw [ephemeristop_sEvents.l0, if_pos hlt, if_pos (by omega), if_pos hlt, if_pos (by omega), ephemeristop_sEvents.j1, if_pos rfl]) ⟨rfl, (show acc.length ≤ 20 by omega), h⟩
    · obtain ⟨p, hp, p0, p1⟩ := at_ev (a := b.f0) (n := (m : Int)) (by omega) (by omega)
      obtain ⟨q, hq, q0, q1⟩ := at_ev (a := b.f1) (n := (m : Int) - 1) (by omega) (by omega)
      obtain ⟨x, hx, x0, x1⟩ := at_ev (a := b.f2) (n := 50) (by omega) (by omega)
      obtain ⟨y, hy, y0, y1⟩ := at_ev (a := b.f3) (n := 50) (by omega) (by omega)
      have B0 := Int.emod_nonneg (p + 1 + q) (show (m : Int) ≠ 0 by omega)
      have B1 := Int.emod_lt_of_pos (p + 1 + q) (show (0 : Int) < m by omega)
      have B2 : (p + 1 + q) % (m : Int) ≠ p := by
        by_cases k : p + 1 + q < m
        · rw [Int.emod_eq_of_lt (by omega) k]; omega
        · rw [show p + 1 + q = (p + 1 + q - m) + m by omega, Int.add_emod_right, Int.emod_eq_of_lt (by omega) (by omega)]; omega
      have hw1 : wrap64 (wrap64 (p + 1) + q) = p + 1 + q := by rw [w64 (x := p + 1) (by omega) (by omega), w64 (by omega) (by omega)]
      have hw2 : Int.tmod (p + 1 + q) m = (p + 1 + q) % m := tmod_at (by omega)
      generalize hB : (p + 1 + q) % (m : Int) = B at *
      have T1 : ∀ z : Int, -10000 < Int.tmod z 10000 ∧ Int.tmod z 10000 < 10000 := fun z => ⟨by have := Int.lt_tmod_of_pos z (show (0 : Int) < 10000 by omega); omega, Int.tmod_lt_of_pos z (by omega)⟩
      have t1 := T1 (rd D B)
      have t2 := T1 (rd D p)
      have hw3 : wrap64 (Int.tmod (rd D B) 10000 - Int.tmod (rd D p) 10000) = Int.tmod (rd D B) 10000 - Int.tmod (rd D p) 10000 := w64 (by omega) (by omega)
      have hw4 : wrap64 (Int.tmod (rd D B) 10000 - Int.tmod (rd D p) 10000 - x) = Int.tmod (rd D B) 10000 - Int.tmod (rd D p) 10000 - x := w64 (by omega) (by omega)
      have hw5 : wrap64 (Int.tmod (rd D B) 10000 - Int.tmod (rd D p) 10000 + y) = Int.tmod (rd D B) 10000 - Int.tmod (rd D p) 10000 + y := w64 (by omega) (by omega)
      have hw6 : wrap64 ((m : Int) - 1) = m - 1 := w64 (by omega) (by omega)
      refine to_step 2 (fun k => ?_) (ih (i + 1) (acc ++ [⟨p, B, Int.tmod (rd D B) 10000 - Int.tmod (rd D p) 10000 - x, Int.tmod (rd D B) 10000 - Int.tmod (rd D p) 10000 + y⟩]) ht (by omega) (by simp [ha]) ⟨fun b' hb' => ?_, fun b' hb' => ?_⟩)
      · rw [ephemeristop_sEvents.l0, if_pos hlt, if_pos (by omega), if_pos hlt, if_neg (by omega), hs', ephemeristop_sEvents.j1, if_neg (by simp; omega), hp, Option.bind_some, hw6, hq, Option.bind_some, if_neg (by omega), hw1, hw2, if_pos B0, if_pos (by omega), if_pos p0, if_pos (by omega), hx, Option.bind_some, hy, Option.bind_some, if_pos (by omega), hw3, hw4, hw5, wn i (by omega)]
      · rcases List.mem_append.1 hb' with hb' | hb'
        · exact h.ok b' hb'
        · obtain rfl : b' = _ := by simpa using hb'
          unfold Ok
          simp only
          omega
      · rcases List.mem_append.1 hb' with hb' | hb'
        · exact h.sat b' hb'
        · obtain rfl : b' = _ := by simpa using hb'
          simp only
          rw [show ((B.toNat : Nat) : Int) = B by omega, show ((p.toNat : Nat) : Int) = p by omega]
          omega
theorem sEvents_ev (D : List Int) (hD : D.length ≤ 9223372036854775807) (L : List S43) : ∃ r, Ev (fun k => ephemeristop_sEvents.f k D L) r ∧ (r.1 < 2 ∨ ∃ m : Nat, r.1 = m ∧ 2 ≤ m ∧ m ≤ 8 ∧ r.2.length ≤ 20 ∧ EvOk m (fun k => Int.tmod (rd D (k : Int)) 10000) r.2) := by
  by_cases c : D.length < 2
  · refine ⟨((D.length : Int), []), ?_, Or.inl (by simp only; omega)⟩
    have hm : mn (D.length : Int) 8 = D.length := by unfold mn; rw [if_neg (by omega)]
    cases L with
    | nil => exact ev_some 1 (fun k => by unfold ephemeristop_sEvents.f; rw [hm, ephemeristop_sEvents.l0, if_neg (by simp)])
    | cons b t => exact ev_some 2 (fun k => by
        unfold ephemeristop_sEvents.f
        rw [hm, ephemeristop_sEvents.l0, if_pos (by simp), if_pos (by omega), if_pos (by simp), if_neg (by omega), decide_eq_true (show (D.length : Int) < 2 by omega), ephemeristop_sEvents.j1, if_pos rfl])
  · obtain ⟨m, hm⟩ : ∃ m : Nat, mn (D.length : Int) 8 = m := ⟨(mn (D.length : Int) 8).toNat, by unfold mn; split <;> omega⟩
    have hb : 2 ≤ m ∧ m ≤ 8 ∧ m ≤ D.length := by unfold mn at hm; split at hm <;> omega
    obtain ⟨r, hr, h1, h2, h3⟩ := sEvents_l0 hb.1 hb.2.1 hb.2.2 L 0 [] rfl (by omega) rfl ⟨fun b hb => (by cases hb), fun b hb => (by cases hb)⟩
    refine ⟨r, ?_, Or.inr ⟨m, h1, hb.1, hb.2.1, h2, h3⟩⟩
    refine ev_step 0 (fun k => ?_) hr
    show ephemeristop_sEvents.f k D L = _
    unfold ephemeristop_sEvents.f
    rw [hm]; rfl
theorem TopContradict : PureX := by
  intro D L a2 a3 hD hL _ _
  apply ev_k
  unfold ephemeristop_TopContradict.f
  refine ev_bind chron_works ?_
  simp only [if_true]
  obtain ⟨r, hr, hcase⟩ := sEvents_ev D hD.1 L
  refine ev_bind hr ?_
  rcases hcase with hlt | ⟨m, hm, m2, m8, hlen, hok⟩
  · exact ev_some 0 (fun k => by rw [if_pos hlt])
  rw [hm]
  obtain ⟨l, hl⟩ : ∃ l, r.2 = l := ⟨_, rfl⟩
  rw [hl] at hlen hok ⊢
  have G : GoodB m l := ⟨by omega, by omega, by omega, hok.ok⟩
  obtain ⟨i', hi, i0, i1⟩ := at_ev (a := a2) (n := (m : Int)) (by omega) (by omega)
  obtain ⟨q, hq, q0, q1⟩ := at_ev (a := a3) (n := (m : Int) - 1) (by omega) (by omega)
  obtain ⟨i, rfl⟩ : ∃ i : Nat, i' = i := ⟨i'.toNat, by omega⟩
  have hw1 : wrap64 (wrap64 ((i : Int) + 1) + q) = i + 1 + q := by rw [w64 (x := (i : Int) + 1) (by omega) (by omega), w64 (by omega) (by omega)]
  have hw2 : Int.tmod ((i : Int) + 1 + q) m = ((i : Int) + 1 + q) % m := tmod_at (by omega)
  have hw6 : wrap64 ((m : Int) - 1) = m - 1 := w64 (by omega) (by omega)
  have B0 := Int.emod_nonneg ((i : Int) + 1 + q) (show (m : Int) ≠ 0 by omega)
  have B1 := Int.emod_lt_of_pos ((i : Int) + 1 + q) (show (0 : Int) < m by omega)
  have B2 : ((i : Int) + 1 + q) % (m : Int) ≠ i := by
    by_cases k : (i : Int) + 1 + q < m
    · rw [Int.emod_eq_of_lt (by omega) k]; omega
    · rw [show (i : Int) + 1 + q = (i + 1 + q - m) + m by omega, Int.add_emod_right, Int.emod_eq_of_lt (by omega) (by omega)]; omega
  obtain ⟨k, hk⟩ : ∃ k : Nat, ((i : Int) + 1 + q) % m = k := ⟨(((i : Int) + 1 + q) % m).toNat, by omega⟩
  rw [hk] at B1 B2
  have im : i < m := by omega
  have km : k < m := by omega
  obtain ⟨s, hs, hq2⟩ := tt_ev G
  have hsl := slv_sat G hok.sat
  rcases hq2 with ⟨hv, _⟩ | ⟨_, e, g, hS, hR, _⟩
  · rw [hsl] at hv; cases hv
  have hrl := hR.len
  have hrow := hR.row i im
  rw [if_pos im] at hrow
  have hrow' : ((rd_L4 s.1 (i : Int)).length : Int) = m := by
    show ((s.1.getD i []).length : Int) = m
    omega
  have hget : rd_T35 (rd_L4 s.1 (i : Int)) (k : Int) = ⟨-g k i, g i k⟩ := hR.get i k im (Or.inl ⟨im, km⟩)
  suffices hj : Ev (fun n => ephemeristop_TopContradict.j0 n l i k m s.1 false) true by
    refine ev_step 0 (f := fun n => (chron_Tightest.f n m l).bind fun bt477 => (if bt477.2 = 0 then (if (bt477.1.length : Int) = m then (if 0 ≤ (i : Int) then (if (i : Int) < (bt477.1.length : Int) then (ephemeristop_TopContradict.j0 n l i k m bt477.1 (((rd_L4 bt477.1 i).length : Int) != m)) else (none)) else (none)) else (ephemeristop_TopContradict.j0 n l i k m bt477.1 true)) else (ephemeristop_TopContradict.j0 n l i k m bt477.1 true))) (fun n => ?_) (ev_bind hs (ev_step 0 (fun n => ?_) hj))
    · rw [if_neg (by omega), hi, Option.bind_some, hw6, hq, Option.bind_some, if_neg (by omega), hw1, hw2, hk]; rfl
    · rw [if_pos e, if_pos (by omega), if_pos (by omega), if_pos (by omega), hrow']; simp
  have hin := stg_in G hS i k im km
  by_cases hfar : g i k ≥ 1000000
  · exact ev_some 1 (fun n => by rw [ephemeristop_TopContradict.j0, if_neg (by simp), if_pos (by omega), if_pos (by omega), if_pos (by omega), if_pos (by omega), hget, if_pos hfar])
  obtain ⟨p, hp, hpw⟩ := hS.walk i k im km (by omega) (by omega)
  have hlow := sat_walk hok.sat hpw
  have T1 : ∀ z : Int, -10000 < Int.tmod z 10000 ∧ Int.tmod z 10000 < 10000 := fun z => ⟨by have := Int.lt_tmod_of_pos z (show (0 : Int) < 10000 by omega); omega, Int.tmod_lt_of_pos z (by omega)⟩
  have t1 := T1 (rd D (k : Int))
  have t2 := T1 (rd D (i : Int))
  have hlow : Int.tmod (rd D (k : Int)) 10000 - Int.tmod (rd D (i : Int)) 10000 ≤ g i k := hlow
  obtain ⟨c, hc⟩ : ∃ c : S43, c = ⟨(i : Int), (k : Int), g i k + 1, g i k + 2⟩ := ⟨_, rfl⟩
  have hcok : Ok m c := by rw [hc]; unfold Ok; simp only; omega
  have Gall : GoodB m (l ++ [c]) := ⟨by omega, by omega, by simp; omega, fun b hb => by
    rcases List.mem_append.1 hb with hb | hb
    · exact hok.ok b hb
    · obtain rfl : b = c := by simpa using hb
      exact hcok⟩
  have hcin : c ∈ l ++ [c] := by simp
  have hlin : ∀ b ∈ l, b ∈ l ++ [c] := fun b hb => List.mem_append.2 (Or.inl hb)
  have hbad : slv m (l ++ [c]) = false := by
    apply Bool.eq_false_iff.2
    intro ht
    have he : Ed (l ++ [c]) k i (-(g i k + 1)) := ⟨c, hcin, Or.inr ⟨by rw [hc]; simp, by rw [hc]; simp, by rw [hc]⟩⟩
    have hwk : Wk (l ++ [c]) k (i :: p) k (-1) := ⟨-(g i k + 1), he, by rw [show -1 - -(g i k + 1) = g i k by omega]; exact wk_sub hlin hpw⟩
    have := slv_walk Gall ht hwk
    omega
  have hone : slv m [c] = true := by
    refine slv_sat (P := fun x => if x = k then g i k + 1 else 0) (sub_good Gall (fun b hb => by simp at hb; rw [hb]; exact hcin) (by simp)) (fun b hb => ?_)
    obtain rfl : b = c := by simpa using hb
    rw [hc]
    simp only [Int.toNat_natCast, if_true]
    rw [if_neg (by omega)]
    omega
  have hsub : ∀ K : List S43, (∀ b ∈ K, b ∈ l) → K.length ≤ l.length → slv m K = true := fun K h1 h2 => slv_sub G hsl h1 h2
  obtain ⟨u, b, v, hu, hv, hd⟩ := decs_first hone l hbad
  obtain ⟨R, hR1, hR2⟩ := decs_last (c := c) hsub v [b] (fun x hx => by rw [hu]; rcases List.mem_append.1 hx with h | h; exact List.mem_append.2 (Or.inr (by simp at h; rw [h]; exact List.mem_cons_self)); exact List.mem_append.2 (Or.inr (List.mem_cons_of_mem _ h))) (by rw [hu]; simp)
  have hul : l.length = u.length + (v.length + 1) := by rw [hu]; simp
  have hout : idx (decs m (l ++ [c]) []) 0 = (u.length : Int) :: (idx R (u.length + 1) ++ [(l.length : Int)]) := by
    rw [hd, idx_rep, Nat.zero_add, idx, if_pos rfl, hR1, idx_end, hR2, show u.length + 1 + v.length = l.length by omega]
  have hil := idx_len R (u.length + 1)
  obtain ⟨h1, _⟩ := least_ev G
  obtain ⟨_, h2⟩ := least_ev Gall
  have hA := h2 hbad
  have hB := h1 hsl
  rw [hout] at hA
  obtain ⟨O, hO⟩ : ∃ O, O = (u.length : Int) :: (idx R (u.length + 1) ++ [(l.length : Int)]) := ⟨_, rfl⟩
  rw [← hO] at hA
  have hOl : O.length = (idx R (u.length + 1)).length + 2 := by rw [hO]; simp
  have hlast : rd O ((O.length : Int) - 1) = l.length := by
    have e2 : ((O.length : Int) - 1).toNat = (idx R (u.length + 1)).length + 1 := by omega
    show O.getD ((O.length : Int) - 1).toNat 0 = _
    rw [e2, hO, List.getD_cons_succ, List.getD_eq_getElem?_getD, List.getElem?_append_right (Nat.le_refl _), Nat.sub_self]; rfl
  obtain ⟨K1, hK1⟩ := ev_and hA hB
  have hdrop : O.drop 1 = idx (R ++ [true]) (u.length + 1) := by rw [hO, idx_end, hR2, show u.length + 1 + v.length = l.length by omega]; rfl
  have hall : (l ++ [c]).drop (u.length + 1) = v ++ [c] := by rw [hu]; simp
  have hfin : Ev (fun n => (chron_Tightest.f n m (filt (v ++ [c]) (R ++ [true]))).bind fun bt => some (bt.2 == 0)) true := by
    have hsv : slv m (filt (v ++ [c]) (R ++ [true])) = true := by
      refine slv_sub (l := v ++ [c]) (sub_good Gall (fun x hx => ?_) (by simp; omega)) hv (fun x hx => filt_mem _ _ x hx) (filt_len _ _)
      rw [hu]
      rcases List.mem_append.1 hx with h | h
      · exact List.mem_append.2 (Or.inl (List.mem_append.2 (Or.inr (List.mem_cons_of_mem _ h))))
      · exact List.mem_append.2 (Or.inr h)
    obtain ⟨z, hz, hz2⟩ := tt_ev (m := m) (l := filt (v ++ [c]) (R ++ [true])) (sub_good Gall (fun x hx => by
      have h := filt_mem _ _ x hx
      rw [hu]
      rcases List.mem_append.1 h with h | h
      · exact List.mem_append.2 (Or.inl (List.mem_append.2 (Or.inr (List.mem_cons_of_mem _ h))))
      · exact List.mem_append.2 (Or.inr h)) (by have := filt_len (v ++ [c]) (R ++ [true]); simp at this ⊢; omega))
    rcases hz2 with ⟨hv2, _⟩ | ⟨_, e2, _⟩
    · rw [hsv] at hv2; cases hv2
    · exact ev_bind hz (ev_some 0 (fun n => by rw [e2]; rfl))
  have hloop : Ev (fun n => ephemeristop_TopContradict.l0 n m (l ++ [c]) [] (O.drop 1) ((O.drop 1).length : Int) 0) true := by
    refine less_l0 (n := m) (all := l ++ [c]) (by simp; omega) (L := O.drop 1) (by simp; omega) (R ++ [true]) (u.length + 1) (v ++ [c]) 0 [] hall (by simp [hR2]) hdrop (by simp) ?_
    rw [List.nil_append]; exact hfin
  obtain ⟨K2, hK2⟩ := hloop
  refine ⟨K1 + K2 + 2, fun n hn => ?_⟩
  obtain ⟨n, rfl⟩ : ∃ x, n = x + 2 := ⟨n - 2, by omega⟩
  obtain ⟨k1, k2⟩ := hK1 (n + 1) (by omega)
  have k3 := hK2 n (by omega)
  have e3 : wrap64 (g i k + 1) = g i k + 1 := w64 (by omega) (by omega)
  have e4 : wrap64 (g i k + 2) = g i k + 2 := w64 (by omega) (by omega)
  have e5 : wrap64 ((O.length : Int) - 1) = (O.length : Int) - 1 := w64 (by omega) (by omega)
  show ephemeristop_TopContradict.j0 (n + 2) l i k m s.1 false = _
  rw [ephemeristop_TopContradict.j0, if_neg (by simp), if_pos (by omega), if_pos (by omega), if_pos (by omega), if_pos (by omega), hget, if_neg hfar, Option.bind_some, if_pos (by simp; omega), Option.bind_some, e3, e4, ← hc, Option.bind_some, if_pos (by simp; omega), Option.bind_some, List.nil_append, k1, Option.bind_some, k2, Option.bind_some]
  dsimp only
  rw [if_pos rfl, if_pos rfl, if_neg (by omega), e5, if_pos (by omega), if_pos (by omega), hlast, ephemeristop_TopContradict.j1, if_neg (by simp), if_pos (by omega), Option.bind_some]
  exact k3
end Go.Proofs.Ytfbjpdiaicaagaa.Pure
