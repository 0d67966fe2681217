/- ContradictLeasts: Least tells the bounds that are left when each is left out that can be, with the errors of the document; for every n and bounds. -/
import Derived.Test.YtfbjpdiaicaagaaContradictLeastsn14
import Derived.Test.YtfbjpdiaicaagaaContradictLeastsn21
import Derived.Test.YtfbjpdiaicaagaaContradictLeastsn8
import Derived.Test.YtfbjpdiaicaagaaContradictLeastsn6
import Derived.Test.YtfbjpdiaicaagaaContradictLeastsn9
import Derived.Test.YtfbjpdiaicaagaaContradictLeastsn11
import Derived.Test.YtfbjpdiaicaagaaContradictLeastsn12
namespace Go.Proofs.Ytfbjpdiaicaagaa.Pure
open Go.RowKit Go.Proofs.YtfbjpdiaicaagaaW.PrintWords Go.Proofs.YtfbjpdiaicaagaaW.PrintLast Go.Proofs.YtfbjpdiaicaagaaW.PrintMore Go.Proofs.Ytfbjpdiaicaagaa.Opn Go.Proofs.Ytfbjpdiaicaagaa.PAll Go.Proofs.Ytfbjpdiaicaagaa.Base Go.Proofs.Ytfbjpdiaicaagaa.ChrA Go.Proofs.Ytfbjpdiaicaagaa.ChrB Go.Proofs.Ytfbjpdiaicaagaa.ChrC Go.Proofs.Ytfbjpdiaicaagaa.ChrD Go.Proofs.Ytfbjpdiaicaagaa.ChrE Go.Proofs.Ytfbjpdiaicaagaa.ConT
set_option linter.unusedVariables false
set_option linter.unusedSimpArgs false
theorem works_ev : Ev (fun k => ephemerislaw2_contradictWorks.f k) true := Ev.of ephemerislaw2_contradictWorks.mono (k := 200) (by decide +kernel)
/-- the bounds whose sign is true -/
def filt : List S43 → List Bool → List S43
  | b :: t, x :: v => if x = true then b :: filt t v else filt t v
  | _, _ => []
theorem filt_app : ∀ {a : List S43} {x : List Bool} {b : List S43} {y : List Bool}, a.length = x.length → filt (a ++ b) (x ++ y) = filt a x ++ filt b y
  | [], [], b, y, _ => rfl
  | s :: a, q :: x, b, y, h => by
    have ih := filt_app (a := a) (x := x) (b := b) (y := y) (by simpa using h)
    show filt (s :: (a ++ b)) (q :: (x ++ y)) = _
    rw [filt, filt]
    by_cases c : q = true
    · rw [if_pos c, if_pos c, ih]; rfl
    · rw [if_neg c, if_neg c, ih]
theorem filt_all : ∀ (t : List S43), filt t (List.replicate t.length true) = t
  | [] => rfl
  | s :: t => by
    show filt (s :: t) (true :: List.replicate t.length true) = _
    rw [filt, if_pos rfl, filt_all t]
theorem filt_mem : ∀ (t : List S43) (v : List Bool), ∀ b ∈ filt t v, b ∈ t
  | [], v, b, h => by cases v <;> simp [filt] at h
  | s :: t, [], b, h => by simp [filt] at h
  | s :: t, x :: v, b, h => by
    rw [filt] at h
    by_cases c : x = true
    · rw [if_pos c] at h
      rcases List.mem_cons.1 h with rfl | h
      · exact List.mem_cons_self
      · exact List.mem_cons_of_mem _ (filt_mem t v b h)
    · rw [if_neg c] at h; exact List.mem_cons_of_mem _ (filt_mem t v b h)
theorem filt_len : ∀ (t : List S43) (v : List Bool), (filt t v).length ≤ t.length
  | [], v => by cases v <;> simp [filt]
  | s :: t, [] => by simp [filt]
  | s :: t, x :: v => by
    have := filt_len t v
    rw [filt]
    split
    · simp; omega
    · simp; omega
/-- which bounds stay -/
def decs (m : Nat) : List S43 → List S43 → List Bool
  | [], _ => []
  | b :: t, kept => slv m (kept ++ t) :: decs m t (if slv m (kept ++ t) = true then kept ++ [b] else kept)
theorem decs_len (m : Nat) : ∀ (t kept : List S43), (decs m t kept).length = t.length
  | [], _ => rfl
  | b :: t, kept => by rw [decs, List.length_cons, decs_len m t, List.length_cons]
/-- the numbers of the trues -/
def idx : List Bool → Nat → List Int
  | [], _ => []
  | x :: v, j => if x = true then (j : Int) :: idx v (j + 1) else idx v (j + 1)
theorem idx_len : ∀ (v : List Bool) (j : Nat), (idx v j).length ≤ v.length
  | [], _ => Nat.le_refl _
  | x :: v, j => by
    have := idx_len v (j + 1)
    rw [idx]
    split
    · simp; omega
    · simp; omega
section
variable {m : Nat} {l : List S43}
theorem least_l0 (G : GoodB m l) : ∀ (t kept : List S43) (i : Nat) (out : List Int), kept.length = out.length → (∀ b ∈ kept ++ t, b ∈ l) → out.length ≤ i → i + t.length = l.length → Ev (fun k => contradict_Least.l0 k m (kept ++ t) out (l.length : Int) i) (out ++ idx (decs m t kept) i, 0) := by
  have hl := G.len
  intro t
  induction t with
  | nil =>
    intro kept i out hk hm ho hi
    simp only [List.length_nil] at hi
    exact ev_some 1 (fun k => by rw [contradict_Least.l0, if_neg (by omega)]; simp [decs, idx])
  | cons b t ih =>
    intro kept i out hk hm ho hi
    simp only [List.length_cons] at hi
    have her : (kept ++ b :: t).eraseIdx kept.length = kept ++ t := by
      rw [List.eraseIdx_append_of_length_le (Nat.le_refl _), Nat.sub_self]; rfl
    have hlen : (kept ++ b :: t).length ≤ 40 := by rw [List.length_append, List.length_cons]; omega
    have hw := without_ev hlen (i := kept.length) (by rw [List.length_append, List.length_cons]; omega)
    rw [her, hk] at hw
    have hm' : ∀ x ∈ kept ++ t, x ∈ l := fun x hx => hm x (by
      rcases List.mem_append.1 hx with hx | hx
      · exact List.mem_append.2 (Or.inl hx)
      · exact List.mem_append.2 (Or.inr (List.mem_cons_of_mem _ hx)))
    have hG : GoodB m (kept ++ t) := sub_good G hm' (by rw [List.length_append]; omega)
    obtain ⟨r, hr, hq⟩ := tt_ev hG
    have hlt : (i : Int) < (l.length : Int) := by omega
    rcases hq with ⟨hv, e⟩ | ⟨hv, e, _⟩
    · have h := ih kept (i + 1) out hk hm' (by omega) (by omega)
      have e2 : idx (decs m (b :: t) kept) i = idx (decs m t kept) (i + 1) := by
        rw [decs, hv, if_neg (by simp), idx, if_neg (by simp)]
      rw [e2]
      refine ev_step 1 (f := fun k => (contradict_without.f k (kept ++ b :: t) (out.length : Int)).bind fun t291 => ((chron_Tightest.f k m t291).bind fun bt294 => (if bt294.2 = 10 then ((contradict_without.f k (kept ++ b :: t) (out.length : Int)).bind fun t298 => (contradict_Least.l0 k m t298 out (l.length : Int) (wrap64 ((i : Int) + 1)))) else (if out.length < 17592186044416 then (contradict_Least.l0 k m (kept ++ b :: t) (out ++ [(i : Int)]) (l.length : Int) (wrap64 ((i : Int) + 1))) else (none))))) (fun k => by rw [contradict_Least.l0, if_pos hlt]) (ev_bind hw (ev_bind hr ?_))
      rw [e, wn i (by omega)]
      exact ev_step 0 (f := fun k => (contradict_without.f k (kept ++ b :: t) (out.length : Int)).bind fun t298 => contradict_Least.l0 k m t298 out (l.length : Int) ((i + 1 : Nat) : Int)) (fun k => by rw [if_pos rfl]; rfl) (ev_bind hw h)
    · have h := ih (kept ++ [b]) (i + 1) (out ++ [(i : Int)]) (by simp [hk]) (by rw [List.append_assoc]; exact hm) (by simp; omega) (by omega)
      have e2 : idx (decs m (b :: t) kept) i = (i : Int) :: idx (decs m t (kept ++ [b])) (i + 1) := by
        rw [decs, hv, if_pos rfl, idx, if_pos rfl]
      rw [e2]
      refine ev_step 1 (f := fun k => (contradict_without.f k (kept ++ b :: t) (out.length : Int)).bind fun t291 => ((chron_Tightest.f k m t291).bind fun bt294 => (if bt294.2 = 10 then ((contradict_without.f k (kept ++ b :: t) (out.length : Int)).bind fun t298 => (contradict_Least.l0 k m t298 out (l.length : Int) (wrap64 ((i : Int) + 1)))) else (if out.length < 17592186044416 then (contradict_Least.l0 k m (kept ++ b :: t) (out ++ [(i : Int)]) (l.length : Int) (wrap64 ((i : Int) + 1))) else (none))))) (fun k => by rw [contradict_Least.l0, if_pos hlt]) (ev_bind hw (ev_bind hr ?_))
      rw [wn i (by omega)]
      rw [show kept ++ [b] ++ t = kept ++ b :: t by simp, show out ++ [(i : Int)] ++ idx (decs m t (kept ++ [b])) (i + 1) = out ++ (i : Int) :: idx (decs m t (kept ++ [b])) (i + 1) by simp] at h
      refine ev_step 0 (fun k => ?_) h
      rw [if_neg (by omega), if_pos (by omega)]; rfl
theorem clone_eq (h : l.length ≤ 40) : api_ChronBound_29.f l = some l := by
  unfold api_ChronBound_29.f; rw [Option.bind_some, if_pos (by simp; omega)]; rfl
theorem least_ev (G : GoodB m l) : (slv m l = true → Ev (fun k => contradict_Least.f k m l) ([], 6)) ∧ (slv m l = false → Ev (fun k => contradict_Least.f k m l) (idx (decs m l []) 0, 0)) := by
  have hl := G.len
  obtain ⟨r, hr, hq⟩ := tt_ev G
  rcases hq with ⟨hv, e⟩ | ⟨hv, e, _⟩
  · refine ⟨fun h => (by rw [hv] at h; cases h), fun _ => ?_⟩
    unfold contradict_Least.f
    refine ev_bind hr ?_
    rw [e]
    refine ev_step 0 (fun k => ?_) (least_l0 G l [] 0 [] rfl (fun b hb => hb) (by simp) (by omega))
    rw [if_pos rfl, clone_eq hl, Option.bind_some]; rfl
  · refine ⟨fun _ => ?_, fun h => (by rw [hv] at h; cases h)⟩
    unfold contradict_Least.f
    refine ev_bind hr ?_
    exact ev_some 0 (fun k => by rw [if_neg (by omega), if_pos e])
theorem least_err {n : Int} (hz : ce n l ≠ 0) : Ev (fun k => contradict_Least.f k n l) ([], ce n l) := by
  unfold contradict_Least.f
  refine ev_bind (tight_err hz) ?_
  have : ce n l ≠ 10 := by
    unfold ce
    split
    · omega
    · split
      · omega
      · have : ∀ t : List S43, bes n t ≠ 10 := by
          intro t
          induction t with
          | nil => simp [bes]
          | cons b t ih =>
            unfold bes
            split
            · exact ih
            · unfold be
              split
              · omega
              · split
                · omega
                · split <;> omega
        exact this l
  exact ev_some 0 (fun k => by rw [if_neg this, if_neg hz])
end
section
variable {m : Nat} {l : List S43}
theorem law_l2 (hl : l.length ≤ 40) {x5 : List Int} {x6 : Int} {I : List Bool} (hI : I.length = l.length) {i : Nat} (hi : i < l.length) {b : Bool} : ∀ (t : List S43) (j : Nat) (v : List Bool) (acc : List S43), l.drop j = t → I.drop j = v → acc.length ≤ j →
    Ev (fun k => (ephemerisref2_Solvable.f k m (acc ++ filt t v)).bind fun q => if q = true then ephemerislaw2_ContradictLeasts.l1 k m l x5 x6 (I.set i true) (l.length : Int) ((i + 1 : Nat) : Int) else ephemerislaw2_ContradictLeasts.l1 k m l x5 x6 I (l.length : Int) ((i + 1 : Nat) : Int)) b →
    Ev (fun k => ephemerislaw2_ContradictLeasts.l2 k m l x5 x6 I i acc (l.length : Int) i l (l.length : Int) j) b := by
  intro t
  induction t with
  | nil =>
    intro j v acc hd hv ha h
    have hle := drop_nil (l := l) (i := (j : Int)) (by omega) (by simpa using hd)
    have e : acc ++ filt [] v = acc := by cases v <;> simp [filt]
    rw [e] at h
    refine ev_step 1 (fun k => ?_) h
    rw [ephemerislaw2_ContradictLeasts.l2, if_neg (by omega), if_pos (by omega), if_pos (by omega), wn i (by omega)]
    rfl
  | cons s t ih =>
    intro j v acc hd hv ha h
    obtain ⟨hlt, hs, ht⟩ := drop_cons (l := l) (i := (j : Int)) z43 (by omega) (by simpa using hd)
    have hs' : rd_T43 l (j : Int) = s := hs
    have e1 : ((j : Int) + 1).toNat = j + 1 := by omega
    rw [e1] at ht
    obtain ⟨x, v', rfl⟩ : ∃ x v', v = x :: v' := by
      cases v with
      | nil => have := List.drop_eq_nil_iff.1 hv; omega
      | cons x v' => exact ⟨x, v', rfl⟩
    obtain ⟨_, hx, hv'⟩ := drop_cons (l := I) (i := (j : Int)) false (by omega) (by simpa using hv)
    have hx' : rdOf false I (j : Int) = x := hx
    rw [e1] at hv'
    have hun : ∀ k, ephemerislaw2_ContradictLeasts.l2 (k + 1) m l x5 x6 I i acc (l.length : Int) i l (l.length : Int) j = if x = true then ephemerislaw2_ContradictLeasts.l2 k m l x5 x6 I i (acc ++ [s]) (l.length : Int) i l (l.length : Int) ((j + 1 : Nat) : Int) else ephemerislaw2_ContradictLeasts.l2 k m l x5 x6 I i acc (l.length : Int) i l (l.length : Int) ((j + 1 : Nat) : Int) := by
      intro k
      rw [ephemerislaw2_ContradictLeasts.l2, if_pos hlt, if_pos (by omega), if_pos hlt, if_pos (by omega), hx', hs', eta, wn j (by omega)]
      by_cases c : x = true
      · rw [if_pos c, if_pos c, if_pos (by omega)]
      · rw [if_neg c, if_neg c]
    by_cases c : x = true
    · have e : acc ++ filt (s :: t) (x :: v') = acc ++ [s] ++ filt t v' := by rw [filt, if_pos c, List.append_assoc]; rfl
      rw [e] at h
      exact ev_step 1 (fun k => by rw [hun, if_pos c]) (ih (j + 1) v' (acc ++ [s]) ht hv' (by simp; omega) h)
    · have e : acc ++ filt (s :: t) (x :: v') = acc ++ filt t v' := by rw [filt, if_neg c]
      rw [e] at h
      exact ev_step 1 (fun k => by rw [hun, if_neg c]) (ih (j + 1) v' acc ht hv' (by omega) h)
theorem law_l1 (G : GoodB m l) {x5 : List Int} {x6 : Int} {b : Bool} : ∀ (t pre : List S43) (D : List Bool), l = pre ++ t → D.length = pre.length →
    Ev (fun k => ephemerislaw2_ContradictLeasts.l3 k x5 x6 0 (D ++ decs m t (filt pre D)) ((D ++ decs m t (filt pre D)).length : Int) 0) b →
    Ev (fun k => ephemerislaw2_ContradictLeasts.l1 k m l x5 x6 (D ++ List.replicate t.length true) (l.length : Int) ((pre.length : Nat) : Int)) b := by
  have hl := G.len
  intro t
  induction t with
  | nil =>
    intro pre D hp hD h
    have e : l.length = pre.length := by rw [hp]; simp
    refine ev_step 1 (fun k => ?_) h
    rw [ephemerislaw2_ContradictLeasts.l1, if_neg (by omega)]
    rfl
  | cons s t ih =>
    intro pre D hp hD h
    have e : l.length = pre.length + (t.length + 1) := by rw [hp]; simp
    have hIl : (D ++ List.replicate (s :: t).length true).length = l.length := by rw [List.length_append, List.length_replicate, e, hD]; rfl
    have hset : (D ++ List.replicate (s :: t).length true).set pre.length false = D ++ false :: List.replicate t.length true := by
      rw [← hD, List.set_append_right _ _ (Nat.le_refl _), Nat.sub_self]; rfl
    have hset2 : (D ++ false :: List.replicate t.length true).set pre.length true = D ++ true :: List.replicate t.length true := by
      rw [← hD, List.set_append_right _ _ (Nat.le_refl _), Nat.sub_self]; rfl
    have hfil : filt l (D ++ false :: List.replicate t.length true) = filt pre D ++ t := by
      rw [hp, filt_app hD.symm, filt, if_neg (by simp), filt_all]
    have hG : GoodB m (filt pre D ++ t) := by
      refine sub_good G (fun x hx => ?_) ?_
      · rw [hp]
        rcases List.mem_append.1 hx with hx | hx
        · exact List.mem_append.2 (Or.inl (filt_mem pre D x hx))
        · exact List.mem_append.2 (Or.inr (List.mem_cons_of_mem _ hx))
      · have := filt_len pre D
        rw [List.length_append]; omega
    refine ev_step 1 (fun k => ?_) (law_l2 (m := m) (x5 := x5) (x6 := x6) (b := b) hl (I := D ++ false :: List.replicate t.length true) (by rw [← hset, List.length_set]; exact hIl) (i := pre.length) (by omega) l 0 _ [] rfl rfl (by simp) ?_)
    · rw [ephemerislaw2_ContradictLeasts.l1, if_pos (by omega), if_pos (by omega), if_pos (by omega), Int.toNat_natCast, hset]
      rfl
    · rw [List.nil_append, List.drop_zero, hfil, hset2]
      refine ev_bind (slv_ev hG) ?_
      by_cases c : slv m (filt pre D ++ t) = true
      · have h' := ih (pre ++ [s]) (D ++ [true]) (by rw [hp]; simp) (by simp [hD])
        have e2 : filt (pre ++ [s]) (D ++ [true]) = filt pre D ++ [s] := by rw [filt_app hD.symm]; simp [filt]
        have e3 : D ++ [true] ++ decs m t (filt (pre ++ [s]) (D ++ [true])) = D ++ decs m (s :: t) (filt pre D) := by
          rw [e2, decs, c, if_pos rfl, List.append_assoc]; rfl
        rw [e3] at h'
        have h'' := h' h
        rw [List.length_append] at h''
        refine ev_step 0 (fun k => ?_) h''
        rw [if_pos c, List.append_assoc]; rfl
      · have h' := ih (pre ++ [s]) (D ++ [false]) (by rw [hp]; simp) (by simp [hD])
        have c' : slv m (filt pre D ++ t) = false := by simpa using c
        have e2 : filt (pre ++ [s]) (D ++ [false]) = filt pre D := by rw [filt_app hD.symm]; simp [filt]
        have e3 : D ++ [false] ++ decs m t (filt (pre ++ [s]) (D ++ [false])) = D ++ decs m (s :: t) (filt pre D) := by
          rw [e2, decs, c', if_neg (by simp), List.append_assoc]; rfl
        rw [e3] at h'
        have h'' := h' h
        rw [List.length_append] at h''
        refine ev_step 0 (fun k => ?_) h''
        rw [if_neg c, List.append_assoc]; rfl
theorem law_l3 {I : List Bool} (hI : I.length ≤ 40) {out : List Int} (ho : out.length ≤ 40) : ∀ (v : List Bool) (j : Nat) (d : List Int), I.drop j = v → out = d ++ idx v j → Ev (fun k => ephemerislaw2_ContradictLeasts.l3 k out 0 (d.length : Int) I (I.length : Int) j) true := by
  intro v
  induction v with
  | nil =>
    intro j d hv hd
    have hle := drop_nil (l := I) (i := (j : Int)) (by omega) (by simpa using hv)
    have e : out = d := by rw [hd]; simp [idx]
    exact ev_some 1 (fun k => by rw [ephemerislaw2_ContradictLeasts.l3, if_neg (by omega), if_pos rfl, e]; simp)
  | cons x v ih =>
    intro j d hv hd
    obtain ⟨hlt, hx, hv'⟩ := drop_cons (l := I) (i := (j : Int)) false (by omega) (by simpa using hv)
    have hx' : rdOf false I (j : Int) = x := hx
    have e1 : ((j : Int) + 1).toNat = j + 1 := by omega
    rw [e1] at hv'
    have hdl : d.length ≤ out.length := by rw [hd]; simp
    by_cases c : x = true
    · have e2 : idx (x :: v) j = (j : Int) :: idx v (j + 1) := by rw [idx, if_pos c]
      rw [e2] at hd
      have hlt2 : d.length < out.length := by rw [hd]; simp
      have hat : rd out (d.length : Int) = j := by
        show out.getD d.length 0 = _
        rw [hd, List.getD_eq_getElem?_getD, List.getElem?_append_right (Nat.le_refl _), Nat.sub_self]; rfl
      have := ih (j + 1) (d ++ [(j : Int)]) hv' (by rw [List.append_assoc]; exact hd)
      rw [List.length_append] at this
      refine ev_step 1 (fun k => ?_) this
      rw [ephemerislaw2_ContradictLeasts.l3, if_pos hlt, if_pos (by omega), if_pos hlt, hx', if_pos c, if_neg (by omega), if_pos (by omega), if_pos (by omega), hat, if_pos rfl, wn j (by omega), wn d.length (by omega)]
      rfl
    · have e2 : idx (x :: v) j = idx v (j + 1) := by rw [idx, if_neg c]
      rw [e2] at hd
      exact ev_step 1 (fun k => by rw [ephemerislaw2_ContradictLeasts.l3, if_pos hlt, if_pos (by omega), if_pos hlt, hx', if_neg c, wn j (by omega)]) (ih (j + 1) d hv' hd)
theorem law_l0 (hl : l.length ≤ 40) {x5 : List Int} {x6 : Int} {b : Bool} (h : Ev (fun k => ephemerislaw2_ContradictLeasts.l1 k m l x5 x6 (List.replicate l.length true) (l.length : Int) 0) b) : ∀ (r j : Nat), j + r = l.length → Ev (fun k => ephemerislaw2_ContradictLeasts.l0 k m l x5 x6 (List.replicate j true ++ List.replicate r false) (l.length : Int) j) b := by
  intro r
  induction r with
  | zero =>
    intro j hj
    refine ev_step 1 (fun k => ?_) h
    rw [ephemerislaw2_ContradictLeasts.l0, if_neg (by omega)]
    show ephemerislaw2_ContradictLeasts.l1 k m l x5 x6 (List.replicate j true ++ []) _ _ = _
    rw [List.append_nil, show j = l.length by omega]
  | succ r ih =>
    intro j hj
    have hset : (List.replicate j true ++ List.replicate (r + 1) false).set j true = List.replicate (j + 1) true ++ List.replicate r false := by
      have := List.set_append_right (s := List.replicate j true) (t := List.replicate (r + 1) false) j true (by simp)
      rw [this, List.length_replicate, Nat.sub_self, List.replicate_succ' (n := j), List.append_assoc]; rfl
    refine ev_step 1 (fun k => ?_) (ih (j + 1) (by omega))
    rw [ephemerislaw2_ContradictLeasts.l0, if_pos (by omega), if_pos (by omega), if_pos (by simp; omega), Int.toNat_natCast, hset, wn j (by omega)]
end
theorem ContradictLeasts : PureX := by
  intro n l _ hL
  apply ev_k
  unfold ephemerislaw2_ContradictLeasts.f
  refine ev_bind works_ev ?_
  simp only [if_true]
  by_cases c : ce n l = 0
  · have G := ce_zero c
    obtain ⟨m, rfl⟩ : ∃ m : Nat, n = m := ⟨n.toNat, by have := G.n1; omega⟩
    have hl := G.len
    have he := err_ev m l
    rw [c] at he
    have hsv := slv_ev G
    obtain ⟨h1, h2⟩ := least_ev G
    by_cases cs : slv m l = true
    · refine ev_bind (h1 cs) (ev_bind he ?_)
      simp only [if_true]
      refine ev_bind hsv ?_
      exact ev_some 2 (fun k => by rw [cs, ephemerislaw2_ContradictLeasts.j0, if_pos rfl, ephemerislaw2_ContradictLeasts.j1, if_neg (by omega), if_pos rfl]; rfl)
    · have cs' : slv m l = false := by simpa using cs
      refine ev_bind (h2 cs') (ev_bind he ?_)
      simp only [if_true]
      refine ev_bind hsv ?_
      rw [cs']
      have hdl := decs_len m l []
      have hil := idx_len (decs m l []) 0
      refine ev_step 2 (fun k => ?_) (law_l0 (m := m) (x5 := idx (decs m l []) 0) (x6 := 0) (b := true) hl ?_ l.length 0 (by omega))
      · rw [ephemerislaw2_ContradictLeasts.j0, if_neg (by simp), ephemerislaw2_ContradictLeasts.j1, if_pos rfl, if_pos (by omega), if_pos (by omega), Option.bind_some, Int.toNat_natCast]
        show ephemerislaw2_ContradictLeasts.l0 k m l _ _ (List.replicate l.length false) ((List.replicate l.length false).length : Int) 0 = _
        rw [List.length_replicate]; rfl
      · have := law_l1 G (x5 := idx (decs m l []) 0) (x6 := 0) (b := true) l [] [] rfl rfl ?_
        · exact this
        · have e : ([] : List Bool) ++ decs m l (filt [] []) = decs m l [] := rfl
          rw [e]
          exact law_l3 (I := decs m l []) (by omega) (out := idx (decs m l []) 0) (by omega) (decs m l []) 0 [] rfl rfl
  · have hle : Ev (fun k => contradict_Least.f k n l) ([], ce n l) := least_err c
    refine ev_bind hle (ev_bind (err_ev n l) ?_)
    simp only [c, if_false]
    exact ev_some 2 (fun k => by rw [ephemerislaw2_ContradictLeasts.j0, if_neg (by simp), ephemerislaw2_ContradictLeasts.j1, if_neg c, if_pos rfl]; rfl)
end Go.Proofs.Ytfbjpdiaicaagaa.Pure
