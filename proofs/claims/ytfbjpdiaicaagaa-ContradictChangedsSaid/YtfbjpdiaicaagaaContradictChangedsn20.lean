/- ContradictChangeds: Changed lists the pairs whose intervals a further bound changes; for every n, bounds and bound. -/
import Derived.Test.YtfbjpdiaicaagaaContradictChangedsn12
import Derived.Test.YtfbjpdiaicaagaaContradictChangedsn19
namespace Go.Proofs.Ytfbjpdiaicaagaa.Pure
open Go.RowKit Go.Proofs.YtfbjpdiaicaagaaW.PrintWords Go.Proofs.YtfbjpdiaicaagaaW.PrintLast Go.Proofs.YtfbjpdiaicaagaaW.PrintMore Go.Proofs.Ytfbjpdiaicaagaa.Opn Go.Proofs.Ytfbjpdiaicaagaa.PAll Go.Proofs.Ytfbjpdiaicaagaa.Base Go.Proofs.Ytfbjpdiaicaagaa.ChrA Go.Proofs.Ytfbjpdiaicaagaa.ChrB Go.Proofs.Ytfbjpdiaicaagaa.ChrC Go.Proofs.Ytfbjpdiaicaagaa.ChrD Go.Proofs.Ytfbjpdiaicaagaa.ChrE Go.Proofs.Ytfbjpdiaicaagaa.ConT
set_option linter.unusedVariables false
set_option linter.unusedSimpArgs false
theorem works_ev : Ev (fun k => ephemerislaw2_contradictWorks.f k) true := Ev.of ephemerislaw2_contradictWorks.mono (k := 200) (by decide +kernel)
/-- a square of intervals -/
structure Sqr (m : Nat) (X : List (List S35)) : Prop where
  len : X.length = m
  row : ∀ i, i < m → (X.getD i []).length = m
/-- whether the pair i, k differs -/
def dif (X Y : List (List S35)) (i k : Nat) : Bool := (!((rd_T35 (rd_L4 X (i : Int)) (k : Int)).f0 == (rd_T35 (rd_L4 Y (i : Int)) (k : Int)).f0)) || (!((rd_T35 (rd_L4 X (i : Int)) (k : Int)).f1 == (rd_T35 (rd_L4 Y (i : Int)) (k : Int)).f1))
/-- the pairs of row i from k on, j of them left -/
def prow (X Y : List (List S35)) (i : Nat) : Nat → Nat → List S57
  | 0, _ => []
  | j + 1, k => if dif X Y i k = true then ⟨(i : Int), (k : Int)⟩ :: prow X Y i j (k + 1) else prow X Y i j (k + 1)
/-- the pairs of the rows from i on, j rows left -/
def prows (X Y : List (List S35)) (m : Nat) : Nat → Nat → List S57
  | 0, _ => []
  | j + 1, i => prow X Y i (m - (i + 1)) (i + 1) ++ prows X Y m j (i + 1)
theorem prow_len (X Y : List (List S35)) (i : Nat) : ∀ j k, (prow X Y i j k).length ≤ j
  | 0, k => Nat.le_refl _
  | j + 1, k => by
    have := prow_len X Y i j (k + 1)
    unfold prow
    split
    · simp; omega
    · omega
section
variable {m : Nat} {X Y : List (List S35)}
theorem at_len (h : Sqr m X) {i : Nat} (hi : i < m) : ((rd_L4 X (i : Int)).length : Int) = m := by
  have := h.row i hi
  show ((X.getD i []).length : Int) = m
  omega
theorem chg_l1 (hm : m ≤ 12) (hX : Sqr m X) (hY : Sqr m Y) {i : Nat} (hi : i < m) {r : List S57 × Int} : ∀ (j k : Nat) (out : List S57), k + j = m → out.length ≤ 1000000 * i + k → Ev (fun n => contradict_Changed.l0 n m X Y (out ++ prow X Y i j k) m ((i + 1 : Nat) : Int)) r → Ev (fun n => contradict_Changed.l1 n m X Y out i k m i) r := by
  have xl := hX.len
  have yl := hY.len
  intro j
  induction j with
  | zero =>
    intro k out hk ho h
    refine ev_step 1 (fun n => ?_) h
    rw [contradict_Changed.l1, if_neg (by omega), wn i (by omega)]
    show _ = contradict_Changed.l0 n m X Y (out ++ []) m _
    rw [List.append_nil]
  | succ j ih =>
    intro k out hk ho h
    have hkm : k < m := by omega
    have r1 := at_len hX hi
    have r2 := at_len hY hi
    have p1 : (k : Int) < m := by omega
    have p2 : (0 : Int) ≤ (i : Int) := by omega
    have p3 : (i : Int) < (X.length : Int) := by omega
    have p4 : (0 : Int) ≤ (k : Int) := by omega
    have p5 : (k : Int) < ((rd_L4 X (i : Int)).length : Int) := by omega
    have p6 : (i : Int) < (Y.length : Int) := by omega
    have p7 : (k : Int) < ((rd_L4 Y (i : Int)).length : Int) := by omega
    have hun : ∀ n, contradict_Changed.l1 (n + 1) m X Y out i k m i = if dif X Y i k = true then contradict_Changed.l1 n m X Y (out ++ [⟨(i : Int), (k : Int)⟩]) i ((k + 1 : Nat) : Int) m i else contradict_Changed.l1 n m X Y out i ((k + 1 : Nat) : Int) m i := by
      intro n
      rw [contradict_Changed.l1, if_pos p1, if_pos p2, if_pos p3, if_pos p4, if_pos p5, if_pos p6, if_pos p7, wn k (by omega)]
      by_cases c : dif X Y i k = true
      · rw [if_pos c]
        unfold dif at c
        rw [if_pos c, Option.bind_some, if_pos (by simp; omega)]
      · rw [if_neg c]
        unfold dif at c
        rw [if_neg c]
    by_cases c : dif X Y i k = true
    · refine ev_step 1 (fun n => by rw [hun, if_pos c]) (ih (k + 1) _ (by omega) (by simp; omega) ?_)
      have e : prow X Y i (j + 1) k = ⟨(i : Int), (k : Int)⟩ :: prow X Y i j (k + 1) := by
        rw [prow, if_pos c]
      rw [e] at h
      rw [List.append_assoc]
      exact h
    · refine ev_step 1 (fun n => by rw [hun, if_neg c]) (ih (k + 1) _ (by omega) (by omega) ?_)
      have e : prow X Y i (j + 1) k = prow X Y i j (k + 1) := by
        rw [prow, if_neg c]
      rw [e] at h
      exact h
theorem chg_l0 (hm : m ≤ 12) (hX : Sqr m X) (hY : Sqr m Y) : ∀ (j i : Nat) (out : List S57), i + j = m → out.length ≤ 1000000 * i → Ev (fun n => contradict_Changed.l0 n m X Y out m i) (out ++ prows X Y m j i, 0) := by
  intro j
  induction j with
  | zero =>
    intro i out hi ho
    exact ev_some 1 (fun n => by rw [contradict_Changed.l0, if_neg (by omega)]; show some (out, 0) = some (out ++ [], 0); rw [List.append_nil])
  | succ j ih =>
    intro i out hi ho
    have hl := prow_len X Y i (m - (i + 1)) (i + 1)
    have h := ih (i + 1) (out ++ prow X Y i (m - (i + 1)) (i + 1)) (by omega) (by simp; omega)
    rw [List.append_assoc] at h
    exact ev_step 1 (fun n => by rw [contradict_Changed.l0, if_pos (by omega), wn i (by omega)]) (chg_l1 hm hX hY (show i < m by omega) (m - (i + 1)) (i + 1) out (by omega) (by omega) h)
theorem law_l1 (hm : m ≤ 12) (hX : Sqr m X) (hY : Sqr m Y) {L : List S57} (hL : L.length ≤ 1000000000) {e : Int} {i : Nat} (hi : i < m) : ∀ (j k : Nat) (d : List S57) (t : List S57), k + j = m → L = d ++ (prow X Y i j k ++ t) → (∀ d', L = d' ++ t → Ev (fun n => ephemerislaw2_ContradictChangeds.l0 n m L e X Y (d'.length : Int) m ((i + 1 : Nat) : Int)) true) → Ev (fun n => ephemerislaw2_ContradictChangeds.l1 n m L e X Y (d.length : Int) i k m i) true := by
  have xl := hX.len
  have yl := hY.len
  intro j
  induction j with
  | zero =>
    intro k d t hk hLd h
    refine ev_step 1 (fun n => ?_) (h d hLd)
    rw [ephemerislaw2_ContradictChangeds.l1, if_neg (by omega), wn i (by omega)]
  | succ j ih =>
    intro k d t hk hLd h
    have hkm : k < m := by omega
    have r1 := at_len hX hi
    have r2 := at_len hY hi
    have hdl : d.length ≤ L.length := by rw [hLd]; simp
    have p1 : (k : Int) < m := by omega
    have p2 : (0 : Int) ≤ (i : Int) := by omega
    have p3 : (i : Int) < (X.length : Int) := by omega
    have p4 : (0 : Int) ≤ (k : Int) := by omega
    have p5 : (k : Int) < ((rd_L4 X (i : Int)).length : Int) := by omega
    have p6 : (i : Int) < (Y.length : Int) := by omega
    have p7 : (k : Int) < ((rd_L4 Y (i : Int)).length : Int) := by omega
    have hun : ∀ n, ephemerislaw2_ContradictChangeds.l1 (n + 2) m L e X Y (d.length : Int) i k m i = if dif X Y i k = true then (if (d.length : Int) ≥ (L.length : Int) then (some false) else (if (!(((rd_T57 L (d.length : Int)).f0) == (i : Int)) || (!(((rd_T57 L (d.length : Int)).f1) == (k : Int)))) = true then (some false) else (ephemerislaw2_ContradictChangeds.l1 n m L e X Y ((d.length + 1 : Nat) : Int) i ((k + 1 : Nat) : Int) m i))) else ephemerislaw2_ContradictChangeds.l1 n m L e X Y (d.length : Int) i ((k + 1 : Nat) : Int) m i := by
      intro n
      rw [ephemerislaw2_ContradictChangeds.l1, if_pos p1, if_pos p2, if_pos p3, if_pos r1, if_pos p6, ephemerislaw2_ContradictChangeds.j4, if_neg (by simp [r2]), if_pos p2, if_pos p3, if_pos p4, if_pos p5, if_pos p6, if_pos p7, wn k (by omega)]
      by_cases c : dif X Y i k = true
      · rw [if_pos c]
        unfold dif at c
        rw [if_pos c]
        by_cases c2 : (d.length : Int) ≥ (L.length : Int)
        · rw [if_pos c2, if_pos c2]
        · rw [if_neg c2, if_neg c2, if_pos (by omega), if_pos (by omega), w64 (by omega) (by omega)]
          rfl
      · rw [if_neg c]
        unfold dif at c
        rw [if_neg c]
    by_cases c : dif X Y i k = true
    · have e1 : prow X Y i (j + 1) k = ⟨(i : Int), (k : Int)⟩ :: prow X Y i j (k + 1) := by
        rw [prow, if_pos c]
      rw [e1] at hLd
      have hlt : d.length < L.length := by rw [hLd]; simp
      have hat : rd_T57 L (d.length : Int) = ⟨(i : Int), (k : Int)⟩ := by
        show L.getD d.length z57 = _
        rw [hLd, List.getD_eq_getElem?_getD, List.getElem?_append_right (Nat.le_refl _), Nat.sub_self]; rfl
      have := ih (k + 1) (d ++ [⟨(i : Int), (k : Int)⟩]) t (by omega) (by rw [List.append_assoc]; exact hLd) h
      rw [List.length_append] at this
      refine ev_step 2 (fun n => ?_) this
      rw [hun, if_pos c, if_neg (by omega), hat, if_neg (by simp)]
      rfl
    · have e1 : prow X Y i (j + 1) k = prow X Y i j (k + 1) := by
        rw [prow, if_neg c]
      rw [e1] at hLd
      exact ev_step 2 (fun n => by rw [hun, if_neg c]) (ih (k + 1) d t (by omega) hLd h)
theorem law_l0 (hm : m ≤ 12) (hX : Sqr m X) (hY : Sqr m Y) {L : List S57} (hL : L.length ≤ 1000000000) : ∀ (j i : Nat) (d : List S57), i + j = m → L = d ++ prows X Y m j i → Ev (fun n => ephemerislaw2_ContradictChangeds.l0 n m L 0 X Y (d.length : Int) m i) true := by
  intro j
  induction j with
  | zero =>
    intro i d hi hd
    have e : L = d := by rw [hd]; show d ++ [] = d; rw [List.append_nil]
    exact ev_some 1 (fun n => by rw [ephemerislaw2_ContradictChangeds.l0, if_neg (by omega), if_pos rfl, e]; simp)
  | succ j ih =>
    intro i d hi hd
    exact ev_step 1 (fun n => by rw [ephemerislaw2_ContradictChangeds.l0, if_pos (by omega), wn i (by omega)]) (law_l1 hm hX hY hL (show i < m by omega) (m - (i + 1)) (i + 1) d (prows X Y m j (i + 1)) (by omega) hd (fun d' hd' => ih (i + 1) d' (by omega) hd'))
theorem prows_len (X Y : List (List S35)) (m : Nat) : ∀ j i, (prows X Y m j i).length ≤ m * j
  | 0, i => Nat.le_refl _
  | j + 1, i => by
    have h1 := prow_len X Y i (m - (i + 1)) (i + 1)
    have h2 := prows_len X Y m j (i + 1)
    unfold prows
    rw [List.length_append, Nat.mul_succ]
    omega
end
/-- what Tightest tells: an error without rows, or a square -/
theorem tight_two (n : Int) (l : List S43) : ∃ r, Ev (fun k => chron_Tightest.f k n l) r ∧ ((r.2 ≠ 0 ∧ r.1 = []) ∨ (r.2 = 0 ∧ ∃ m : Nat, n = m ∧ m ≤ 12 ∧ l.length ≤ 40 ∧ Sqr m r.1)) := by
  by_cases c : ce n l = 0
  · have G := ce_zero c
    obtain ⟨m, rfl⟩ : ∃ m : Nat, n = m := ⟨n.toNat, by have := G.n1; omega⟩
    obtain ⟨r, hr, hq⟩ := tt_ev G
    refine ⟨r, hr, ?_⟩
    have hm := G.n2
    rcases hq with ⟨_, e⟩ | ⟨_, e, g, _, hR, _⟩
    · left; rw [e]; simp
    · right
      exact ⟨e, m, rfl, by omega, G.len, hR.len, fun i hi => by have := hR.row i hi; rw [if_pos hi] at this; exact this⟩
  · exact ⟨_, tight_err c, Or.inl ⟨c, rfl⟩⟩
theorem ContradictChangeds : PureX := by
  intro n l b _ hL hbig _
  obtain ⟨b0, b1, b2, b3⟩ := b
  apply ev_k
  unfold ephemerislaw2_ContradictChangeds.f
  refine ev_bind works_ev ?_
  simp only [if_true]
  obtain ⟨r, hr, hq⟩ := tight_two n l
  obtain ⟨s, hs, hp⟩ := tight_two n (l ++ [⟨b0, b1, b2, b3⟩])
  have hch : (r.2 ≠ 0 → Ev (fun k => contradict_Changed.f k n l b0 b1 b2 b3) ([], r.2)) ∧ (r.2 = 0 → s.2 ≠ 0 → Ev (fun k => contradict_Changed.f k n l b0 b1 b2 b3) ([], s.2)) ∧ (∀ m : Nat, n = m → m ≤ 12 → l.length ≤ 40 → r.2 = 0 → s.2 = 0 → Sqr m r.1 → Sqr m s.1 → Ev (fun k => contradict_Changed.f k n l b0 b1 b2 b3) (prows r.1 s.1 m m 0, 0)) := by
    have hcl : l.length ≤ 40 → api_ChronBound_29.f l = some l := fun h => by
      unfold api_ChronBound_29.f; rw [Option.bind_some, if_pos (by simp; omega)]; rfl
    refine ⟨fun h => ?_, fun h1 h2 => ?_, fun m hn hm hl h1 h2 hX hY => ?_⟩
    · unfold contradict_Changed.f
      exact ev_bind hr (ev_some 0 (fun k => by rw [if_neg h]))
    · rcases hq with ⟨e, _⟩ | ⟨_, m, rfl, hm, hl, hX⟩
      · exact absurd h1 e
      · unfold contradict_Changed.f
        refine ev_bind hr ?_
        refine ev_step 0 (f := fun k => (chron_Tightest.f k m (l ++ [⟨b0, b1, b2, b3⟩])).bind fun bt402 => (if bt402.2 = 0 then (contradict_Changed.l0 k m r.1 bt402.1 ([] : List S57) m 0) else (some (([] : List S57), bt402.2)))) (fun k => ?_) (ev_bind hs (ev_some 0 (fun k => by rw [if_neg h2])))
        rw [if_pos h1, hcl hl, Option.bind_some, Option.bind_some, if_pos (by simp; omega)]; rfl
    · subst hn
      unfold contradict_Changed.f
      refine ev_bind hr ?_
      refine ev_step 0 (f := fun k => (chron_Tightest.f k m (l ++ [⟨b0, b1, b2, b3⟩])).bind fun bt402 => (if bt402.2 = 0 then (contradict_Changed.l0 k m r.1 bt402.1 ([] : List S57) m 0) else (some (([] : List S57), bt402.2)))) (fun k => ?_) (ev_bind hs ?_)
      · rw [if_pos h1, hcl hl, Option.bind_some, Option.bind_some, if_pos (by simp; omega)]; rfl
      · refine ev_step 0 (fun k => by show (if s.2 = 0 then _ else _) = _; rw [if_pos h2]; rfl) (chg_l0 hm hX hY m 0 [] (by omega) (by simp))
  obtain ⟨h1, h2, h3⟩ := hch
  have body : ∀ (L : List S57) (e : Int), Ev (fun k => contradict_Changed.f k n l b0 b1 b2 b3) (L, e) → Ev (fun k => if r.2 = 0 then ephemerislaw2_ContradictChangeds.j0 k n L e r.1 s.2 s.1 else ephemerislaw2_ContradictChangeds.j0 k n L e r.1 r.2 s.1) true → Ev (fun k => (contradict_Changed.f k n l b0 b1 b2 b3).bind fun bt418 => ((chron_Tightest.f k n l).bind fun bt422 => ((some (([] : List (S43)) : List (S43))).bind fun y426 => (if y426.length + l.length < 4398046511104 then ((some (y426 ++ l : List (S43))).bind fun y429 => ((some (([(⟨b0, b1, b2, b3⟩ : S43)] : List (S43)) : List (S43))).bind fun y432 => (if y429.length + y432.length < 4398046511104 then ((chron_Tightest.f k n (y429 ++ y432)).bind fun bt438 => (if bt422.2 = 0 then (ephemerislaw2_ContradictChangeds.j0 k n bt418.1 bt418.2 bt422.1 bt438.2 bt438.1) else (ephemerislaw2_ContradictChangeds.j0 k n bt418.1 bt418.2 bt422.1 bt422.2 bt438.1))) else (none)))) else (none))))) true := by
    intro L e hLe hgo
    refine ev_bind hLe (ev_bind hr ?_)
    refine ev_step 0 (f := fun k => (chron_Tightest.f k n (l ++ [⟨b0, b1, b2, b3⟩])).bind fun bt438 => (if r.2 = 0 then (ephemerislaw2_ContradictChangeds.j0 k n L e r.1 bt438.2 bt438.1) else (ephemerislaw2_ContradictChangeds.j0 k n L e r.1 r.2 bt438.1))) (fun k => ?_) (ev_bind hs hgo)
    show (some (([] : List (S43)) : List (S43))).bind _ = _
    rw [Option.bind_some, if_pos (by simp; omega), Option.bind_some, Option.bind_some, if_pos (by simp; omega)]; rfl
  rcases hq with ⟨e, ee⟩ | ⟨e, m, rfl, hm, hl, hX⟩
  · refine body _ _ (h1 e) (ev_some 2 (fun k => ?_))
    rw [if_neg e, ephemerislaw2_ContradictChangeds.j0, if_neg e, ephemerislaw2_ContradictChangeds.j1, if_pos rfl, if_pos rfl]; rfl
  · rcases hp with ⟨e2, _⟩ | ⟨e2, m', hmm, _, _, hY⟩
    · refine body _ _ (h2 e e2) (ev_some 2 (fun k => ?_))
      rw [if_pos e, ephemerislaw2_ContradictChangeds.j0, if_neg e2, ephemerislaw2_ContradictChangeds.j1, if_pos rfl, if_pos rfl]; rfl
    · obtain rfl : m = m' := by omega
      have xl := hX.len
      have yl := hY.len
      have hpl := prows_len r.1 s.1 m m 0
      have hmm : m * m ≤ 12 * 12 := Nat.mul_le_mul hm hm
      refine body _ _ (h3 m rfl hm hl e e2 hX hY) (ev_step 2 (fun k => ?_) (law_l0 hm hX hY (L := prows r.1 s.1 m m 0) (by omega) m 0 [] (by omega) rfl))
      rw [if_pos e, ephemerislaw2_ContradictChangeds.j0, if_pos e2, if_pos (by omega), ephemerislaw2_ContradictChangeds.j1, if_neg (by simp [yl])]
      rfl
end Go.Proofs.Ytfbjpdiaicaagaa.Pure
