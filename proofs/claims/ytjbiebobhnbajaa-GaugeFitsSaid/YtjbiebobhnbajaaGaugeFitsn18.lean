/- Gauge: the greatest common divisor, the determinants, the fit. -/
import Derived.Test.YtjbiebobhnbajaaGaugeFitsn17
import Derived.Test.YtjbiebobhnbajaaGaugeFitsn3
import Derived.Test.YtjbiebobhnbajaaGaugeFitsn5
import Derived.Test.YtjbiebobhnbajaaGaugeFitsn6
import Derived.Test.YtjbiebobhnbajaaGaugeFitsn7
import Derived.Test.YtjbiebobhnbajaaGaugeFitsn11
namespace Go.Proofs.Ytjbiebobhnbajaa.GauC
open Go.RowKit Go.Proofs.YtjbiebobhnbajaaW.PrintWords Go.Proofs.YtjbiebobhnbajaaW.PrintLast Go.Proofs.YtjbiebobhnbajaaW.PrintMore Go.Proofs.Ytjbiebobhnbajaa.Opn Go.Proofs.Ytjbiebobhnbajaa.PAll Go.Proofs.Ytjbiebobhnbajaa.Base Go.Proofs.Ytjbiebobhnbajaa.GauA Go.Proofs.Ytjbiebobhnbajaa.GauB
set_option linter.unusedVariables false
set_option linter.unusedSimpArgs false
theorem tmodn (x y : Nat) : Int.tmod (x : Int) (y : Int) = ((x % y : Nat) : Int) := rfl
theorem ggcd_ev : ∀ (y x : Nat), Ev (fun k => gauge_gcd.l0 k (x : Int) (y : Int)) ((Nat.gcd x y : Nat) : Int) := by
  intro y
  induction y using Nat.strongRecOn with
  | _ y ih =>
    intro x
    by_cases c : y = 0
    · subst c
      exact ev_some 1 (fun k => by rw [gauge_gcd.l0, if_pos (by omega), Nat.gcd_zero_right])
    · have e : Nat.gcd x y = Nat.gcd y (x % y) := by rw [Nat.gcd_comm x y, Nat.gcd_rec y x, Nat.gcd_comm]
      rw [e]
      exact ev_step 1 (fun k => by rw [gauge_gcd.l0, if_neg (by omega), tmodn]) (ih (x % y) (Nat.mod_lt _ (by omega)) y)
def rg (x y : Nat) : Int := if Nat.gcd x y = 0 then 1 else ((Nat.gcd x y : Nat) : Int)
theorem rend (x y : Nat) (h : x + y ≤ 4611686018427387904) (hz : x = 0 ∨ y = 0) (k : Nat) : ephemerisref2_Gcd.l0 (k + 2) (x : Int) (y : Int) = some (rg x y) := by
  have hw : wrap64 ((x : Int) + y) = ((x + y : Nat) : Int) := by rw [w64 (by omega) (by omega)]; omega
  have hg : Nat.gcd x y = x + y := by rcases hz with rfl | rfl <;> simp
  have e : (if wrap64 ((x : Int) + y) = 0 then some (1:Int) else some (wrap64 ((x : Int) + y))) = some (rg x y) := by
    unfold rg
    rw [hw, hg]
    by_cases c : x + y = 0
    · rw [if_pos (by omega), if_pos c]
    · rw [if_neg (by omega), if_neg c]
  by_cases c : x = 0
  · rw [ephemerisref2_Gcd.l0, if_pos (by omega), ephemerisref2_Gcd.j1, if_neg (by simp)]; exact e
  · have y0 : y = 0 := by omega
    rw [ephemerisref2_Gcd.l0, if_neg (by omega), show ((y : Int) != 0) = false by (subst y0; rfl), ephemerisref2_Gcd.j1, if_neg (by simp)]; exact e
theorem rgcd_ev : ∀ (m x y : Nat), x + y ≤ m → m ≤ 4611686018427387904 → Ev (fun k => ephemerisref2_Gcd.l0 k (x : Int) (y : Int)) (rg x y) := by
  intro m
  induction m with
  | zero => intro x y h _; exact ev_some 2 (rend x y (by omega) (by omega))
  | succ m ih =>
    intro x y h hm
    by_cases hz : x = 0 ∨ y = 0
    · exact ev_some 2 (rend x y (by omega) hz)
    · have hy : ((y : Int) != 0) = true := bne_iff_ne.2 (by omega)
      by_cases c : x < y
      · have e : rg x y = rg (y % x) x := by unfold rg; rw [Nat.gcd_rec x y]
        rw [e]
        have := Nat.mod_lt y (show 0 < x by omega)
        refine ev_step 2 (fun k => ?_) (ih (y % x) x (by omega) (by omega))
        rw [ephemerisref2_Gcd.l0, if_neg (by omega), hy, ephemerisref2_Gcd.j1, if_pos rfl, if_pos (by omega), if_neg (by omega), tmodn]
      · have e : rg x y = rg (x % y) y := by unfold rg; rw [Nat.gcd_comm x y, Nat.gcd_rec y x]
        rw [e]
        have := Nat.mod_lt x (show 0 < y by omega)
        refine ev_step 2 (fun k => ?_) (ih (x % y) y (by omega) (by omega))
        rw [ephemerisref2_Gcd.l0, if_neg (by omega), hy, ephemerisref2_Gcd.j1, if_pos rfl, if_neg (by omega), if_neg (by omega), tmodn]
theorem absmx {x : Int} (h : bd x 2000000000000000000) : mx x (wrap64 (-x)) = (x.natAbs : Int) := by
  unfold bd at h
  rw [w64 (by omega) (by omega)]
  unfold mx
  split <;> omega
theorem gabs {x : Int} (h : bd x 2000000000000000000) : gauge_abs.f x = some (x.natAbs : Int) := by
  unfold bd at h
  unfold gauge_abs.f
  by_cases c : x < 0
  · rw [if_pos c, w64 (by omega) (by omega)]; congr 1; omega
  · rw [if_neg c]; congr 1; omega
theorem rGcd_ev {a b : Int} (ha : bd a 2000000000000000000) (hb : bd b 2000000000000000000) : Ev (fun k => ephemerisref2_Gcd.f k a b) (rg a.natAbs b.natAbs) := by
  refine ev_step 0 (fun k => ?_) (rgcd_ev 4000000000000000000 a.natAbs b.natAbs (by unfold bd at ha hb; omega) (by decide))
  show ephemerisref2_Gcd.f k a b = _
  unfold ephemerisref2_Gcd.f
  rw [absmx ha, absmx hb]
theorem d2_eq {a b c d : Int} {P Q : Nat} (ha : bd a P) (hb : bd b Q) (hc : bd c P) (hd : bd d Q) (hm : P * Q ≤ 100000000000000) : d2 a b c d = a * d - b * c ∧ bd (a * d - b * c) (2 * (P * Q)) := by
  have h1 := bd_mul ha hd
  have h2 : bd (b * c) (P * Q) := by rw [Nat.mul_comm P Q]; exact bd_mul hb hc
  have h3 : bd (a * d - b * c) (2 * (P * Q)) := bd_le (bd_sub h1 h2) (by omega)
  unfold d2
  rw [wb h1 (by omega), wb h2 (by omega), wb h3 (by omega)]
  exact ⟨rfl, h3⟩
theorem d3_eq {t : Int → Int → Int} {T : Nat → Nat → Int} {A B C : Nat} (ht : ∀ i j : Nat, i < 3 → j < 3 → t i j = T i j) (hA : ∀ i, i < 3 → bd (T i 0) A) (hB : ∀ i, i < 3 → bd (T i 1) B) (hC : ∀ i, i < 3 → bd (T i 2) C) (hm : A * (B * C) ≤ 100000000000000) (h0 : 1 ≤ A) (h1 : 1 ≤ B) (h2 : 1 ≤ C) :
    d3 t = dt3 (T 0 0) (T 0 1) (T 0 2) (T 1 0) (T 1 1) (T 1 2) (T 2 0) (T 2 1) (T 2 2) ∧ bd (dt3 (T 0 0) (T 0 1) (T 0 2) (T 1 0) (T 1 1) (T 1 2) (T 2 0) (T 2 1) (T 2 2)) (6 * (A * (B * C))) := by
  have eB : B * (A * C) = A * (B * C) := Nat.mul_left_comm _ _ _
  have eC : C * (A * B) = A * (B * C) := by rw [Nat.mul_comm C, Nat.mul_assoc]
  have lA : B * C ≤ A * (B * C) := Nat.le_mul_of_pos_left _ h0
  have lB : A * C ≤ A * (B * C) := by rw [← eB]; exact Nat.le_mul_of_pos_left _ h1
  have lC : A * B ≤ A * (B * C) := by rw [← eC]; exact Nat.le_mul_of_pos_left _ h2
  have e00 : t 0 0 = T 0 0 := ht 0 0 (by omega) (by omega)
  have e01 : t 0 1 = T 0 1 := ht 0 1 (by omega) (by omega)
  have e02 : t 0 2 = T 0 2 := ht 0 2 (by omega) (by omega)
  have e10 : t 1 0 = T 1 0 := ht 1 0 (by omega) (by omega)
  have e11 : t 1 1 = T 1 1 := ht 1 1 (by omega) (by omega)
  have e12 : t 1 2 = T 1 2 := ht 1 2 (by omega) (by omega)
  have e20 : t 2 0 = T 2 0 := ht 2 0 (by omega) (by omega)
  have e21 : t 2 1 = T 2 1 := ht 2 1 (by omega) (by omega)
  have e22 : t 2 2 = T 2 2 := ht 2 2 (by omega) (by omega)
  obtain ⟨f0, b0⟩ := d2_eq (hB 1 (by omega)) (hC 1 (by omega)) (hB 2 (by omega)) (hC 2 (by omega)) (by omega)
  obtain ⟨f1, b1⟩ := d2_eq (hA 1 (by omega)) (hC 1 (by omega)) (hA 2 (by omega)) (hC 2 (by omega)) (by omega)
  obtain ⟨f2, b2⟩ := d2_eq (hA 1 (by omega)) (hB 1 (by omega)) (hA 2 (by omega)) (hB 2 (by omega)) (by omega)
  have m0 := bd_le (bd_mul (hA 0 (by omega)) b0) (Nat.le_of_eq (Nat.mul_left_comm A 2 (B * C)))
  have m1 := bd_le (bd_mul (hB 0 (by omega)) b1) (Nat.le_of_eq (show B * (2 * (A * C)) = 2 * (A * (B * C)) by rw [Nat.mul_left_comm, eB]))
  have m2 := bd_le (bd_mul (hC 0 (by omega)) b2) (Nat.le_of_eq (show C * (2 * (A * B)) = 2 * (A * (B * C)) by rw [Nat.mul_left_comm, eC]))
  have m3 := bd_sub m0 m1
  have m4 := bd_add m3 m2
  unfold d3 dt3
  rw [e00, e01, e02, e10, e11, e12, e20, e21, e22, f0, f1, f2, wb m0 (by omega), wb m1 (by omega), wb m2 (by omega), wb m3 (by omega), wb m4 (by omega)]
  exact ⟨rfl, bd_le m4 (by omega)⟩
theorem det_gen {X : List (List Int)} {k : Nat} (hk : k = 1 ∨ k = 2 ∨ k = 3) (hl : X.length = k) (hr : ∀ i, i < k → (X.getD i []).length = k + 1) {c : Int} {T : Nat → Nat → Int} {C : Nat → Nat} (hT : ∀ i j : Nat, i < k → j < k → atv X c k i j = T i j) (hb : ∀ i j, i < k → j < k → bd (T i j) (C j)) (c0 : ∀ j, 1 ≤ C j) (hm : C 0 * (C 1 * C 2) ≤ 100000000000000) : dets X c = some (dP k T) ∧ bd (dP k T) (6 * (C 0 * (C 1 * C 2))) := by
  have hall : (X.all fun r => decide (r.length = X.length + 1)) = true := by
    rw [List.all_eq_true]
    intro r hrm
    obtain ⟨i, hi, e⟩ := List.getElem_of_mem hrm
    have := hr i (by omega)
    rw [List.getD_eq_getElem?_getD, List.getElem?_eq_getElem hi, Option.getD_some, e] at this
    exact decide_eq_true (by omega)
  have l1 : C 0 ≤ C 0 * (C 1 * C 2) := Nat.le_mul_of_pos_right _ (Nat.mul_pos (c0 1) (c0 2))
  have l2 : C 0 * C 1 ≤ C 0 * (C 1 * C 2) := by rw [← Nat.mul_assoc]; exact Nat.le_mul_of_pos_right _ (c0 2)
  unfold dets
  rw [if_pos hall]
  rcases hk with rfl | rfl | rfl
  · rw [if_pos hl]
    have e : atv X c 1 0 0 = T 0 0 := hT 0 0 (by omega) (by omega)
    rw [e]
    exact ⟨rfl, bd_le (hb 0 0 (by omega) (by omega)) (by omega)⟩
  · rw [if_neg (by omega), if_pos hl]
    have e00 : atv X c 2 0 0 = T 0 0 := hT 0 0 (by omega) (by omega)
    have e01 : atv X c 2 0 1 = T 0 1 := hT 0 1 (by omega) (by omega)
    have e10 : atv X c 2 1 0 = T 1 0 := hT 1 0 (by omega) (by omega)
    have e11 : atv X c 2 1 1 = T 1 1 := hT 1 1 (by omega) (by omega)
    obtain ⟨f0, b0⟩ := d2_eq (hb 0 0 (by omega) (by omega)) (hb 0 1 (by omega) (by omega)) (hb 1 0 (by omega) (by omega)) (hb 1 1 (by omega) (by omega)) (by omega)
    rw [e00, e01, e10, e11, f0]
    exact ⟨rfl, bd_le b0 (by omega)⟩
  · rw [if_neg (by omega), if_neg (by omega), if_pos hl]
    obtain ⟨f0, b0⟩ := d3_eq (t := fun i j => atv X c 3 i j) (T := T) (A := C 0) (B := C 1) (C := C 2) hT (fun i hi => hb i 0 hi (by omega)) (fun i hi => hb i 1 hi (by omega)) (fun i hi => hb i 2 hi (by omega)) hm (c0 0) (c0 1) (c0 2)
    rw [f0]
    exact ⟨rfl, b0⟩
section
variable {R : List (List Int)} {H : List Int} {k : Nat}
theorem den_ev (G : Gauged R H k) {X : List (List Int)} (M : MR R H k X) : dets X (-1) = some (den (ea R) R.length k) ∧ bd (den (ea R) R.length k) 3072000000 :=
  det_gen (T := gm (ea R) R.length) (C := fun _ => 800) G.kk M.len M.row (fun i j hi hj => by unfold atv; rw [if_neg (by omega)]; exact M.mat i j hi hj) (fun i j hi hj => gm_bd G (Nat.le_refl _) hi hj) (fun _ => by decide) (by decide)
theorem num_ev (G : Gauged R H k) {X : List (List Int)} (M : MR R H k X) {c : Nat} (hc : c < k) : dets X (c : Int) = some (num (ea R) (eh H) R.length k c) ∧ bd (num (ea R) (eh H) R.length k c) 307200000000 := by
  have kk := G.kk
  have c3 : c = 0 ∨ c = 1 ∨ c = 2 := by omega
  have hm : (fun j => if j = c then 80000 else 800) 0 * ((fun j => if j = c then 80000 else 800) 1 * (fun j => if j = c then 80000 else 800) 2) = 51200000000 := by
    rcases c3 with rfl | rfl | rfl <;> decide
  have := det_gen (T := fun i j => if j = c then bv (ea R) (eh H) R.length i else gm (ea R) R.length i j) (C := fun j => if j = c then 80000 else 800) (c := (c : Int)) G.kk M.len M.row (fun i j hi hj => by
    unfold atv
    by_cases q : j = c
    · rw [if_pos (by omega), if_pos q]; exact M.vec i hi
    · rw [if_neg (by omega), if_neg q]; exact M.mat i j hi hj) (fun i j hi hj => by
    by_cases q : j = c
    · rw [if_pos q, if_pos q]; exact bv_bd G (Nat.le_refl _) hi
    · rw [if_neg q, if_neg q]; exact gm_bd G (Nat.le_refl _) hi hj) (fun j => by show 1 ≤ (if j = c then 80000 else 800); split <;> decide) (by rw [hm]; decide)
  rw [hm] at this
  exact this
theorem den_pos (G : Gauged R H k) : 0 ≤ den (ea R) R.length k := by
  rcases G.kk with rfl | rfl | rfl
  · exact sumN_nonneg (fun s => sq0 _) _
  · exact D2_pos (ea R) R.length
  · have := D3_pos (ea R) R.length
    unfold D3 at this
    unfold den dP
    rw [if_neg (by omega), if_neg (by omega), gm_comm (ea R) R.length 1 0, gm_comm (ea R) R.length 2 0, gm_comm (ea R) R.length 2 1]
    exact this
def fg (g : Nat) (l : List Int) : Nat := l.foldl (fun g x => Nat.gcd g x.natAbs) g
theorem fg_snoc (g : Nat) (l : List Int) (x : Int) : fg g (l ++ [x]) = Nat.gcd (fg g l) x.natAbs := by unfold fg; rw [List.foldl_append]; rfl
theorem fg_dvd : ∀ (l : List Int) (g : Nat), fg g l ∣ g ∧ ∀ x ∈ l, fg g l ∣ x.natAbs
  | [], g => ⟨Nat.dvd_refl _, by simp⟩
  | x :: t, g => by
    have ih := fg_dvd t (Nat.gcd g x.natAbs)
    refine ⟨Nat.dvd_trans ih.1 (Nat.gcd_dvd_left _ _), fun y hy => ?_⟩
    rcases List.mem_cons.1 hy with rfl | hy
    · exact Nat.dvd_trans ih.1 (Nat.gcd_dvd_right _ _)
    · exact ih.2 y hy
theorem fg_mul (g : Nat) : ∀ (l : List Int) (d : Nat), fg (g * d) (l.map (fun x => (g : Int) * x)) = g * fg d l
  | [], d => rfl
  | x :: t, d => by
    show fg (Nat.gcd (g * d) ((g : Int) * x).natAbs) (t.map _) = g * fg (Nat.gcd d x.natAbs) t
    rw [Int.natAbs_mul, Int.natAbs_natCast, Nat.gcd_mul_left]
    exact fg_mul g t _
theorem list_eq {l : List Int} {k : Nat} {q : Nat → Int} (hl : l.length = k) (h : ∀ j, j < k → l.getD j 0 = q j) : l = (List.range k).map q := by
  refine List.ext_getElem (by simp [hl]) (fun i h1 h2 => ?_)
  have := h i (by omega)
  rw [List.getD_eq_getElem?_getD, List.getElem?_eq_getElem h1, Option.getD_some] at this
  simp [this]
theorem getD_range (q : Nat → Int) {j k : Nat} (h : j < k) : ((List.range k).map q).getD j 0 = q j := by
  rw [List.getD_eq_getElem?_getD, List.getElem?_eq_getElem (by simp; exact h), Option.getD_some]; simp
theorem bd_div {g d : Int} {B : Nat} (hg : g ≠ 0) (h : bd (g * d) B) : bd d B := by
  unfold bd at *
  rw [Int.natAbs_mul] at h
  exact Nat.le_trans (Nat.le_mul_of_pos_left _ (Int.natAbs_pos.2 hg)) h
theorem sumN_congr {f f' : Nat → Int} : ∀ k, (∀ j, j < k → f j = f' j) → sumN f k = sumN f' k
  | 0, _ => rfl
  | k + 1, h => by unfold sumN; rw [sumN_congr k (fun j hj => h j (by omega)), h k (by omega)]
/-- the columns' numbers -/
def NN (R : List (List Int)) (H : List Int) (k c : Nat) : Int := num (ea R) (eh H) R.length k c
def nl (R : List (List Int)) (H : List Int) (k i : Nat) : List Int := (List.range i).map (NN R H k)
theorem nl_succ (i : Nat) : nl R H k (i + 1) = nl R H k i ++ [NN R H k i] := by unfold nl; rw [List.range_succ, List.map_append]; rfl
theorem nl_len (i : Nat) : (nl R H k i).length = i := by unfold nl; simp
theorem fit_l0 (G : Gauged R H k) {X : List (List Int)} (M : MR R H k X) {D : Int} {D0 : Nat} (hD : ¬ D < 0) {Q : List Int × Int × Int → Prop} (hc : To (fun n => gauge_Fit.j1 n (fg D0 (nl R H k k) : Nat) (nl R H k k) D) Q) : ∀ (r i : Nat), i + r = k → To (fun n => gauge_Fit.l0 n X (fg D0 (nl R H k i) : Nat) (k : Int) (i : Int) (nl R H k i) D) Q := by
  have kk := G.kk
  intro r
  induction r with
  | zero =>
    intro i hi
    obtain rfl : i = k := by omega
    exact to_step 1 (fun n => by rw [gauge_Fit.l0, if_neg (by omega), if_neg hD]) hc
  | succ r ih =>
    intro i hi
    obtain ⟨nb, nd⟩ := num_ev G M (show i < k by omega)
    have hl := nl_len (R := R) (H := H) (k := k) i
    have hl1 := nl_len (R := R) (H := H) (k := k) (i + 1)
    have e1 : rd (nl R H k (i + 1)) (i : Int) = NN R H k i := getD_range (NN R H k) (by omega)
    obtain ⟨res, hr, hq⟩ := ih (i + 1) (by omega)
    have hg := ggcd_ev (NN R H k i).natAbs (fg D0 (nl R H k i))
    rw [show Nat.gcd (fg D0 (nl R H k i)) (NN R H k i).natAbs = fg D0 (nl R H k (i + 1)) by rw [nl_succ, fg_snoc]] at hg
    refine ⟨res, ev_step 1 (fun n => ?_) (ev_bind (f := fun n t => gauge_Fit.l0 n X t (k : Int) ((i + 1 : Nat) : Int) (nl R H k (i + 1)) D) hg hr), hq⟩
    have ed : gauge_det.f n X (i : Int) = some (NN R H k i) := nb
    rw [gauge_Fit.l0, if_pos (by omega), ed, Option.bind_some, if_pos (by omega), Option.bind_some, ← nl_succ, if_pos (by omega), if_pos (by omega), e1, gabs (x := NN R H k i) (bd_le nd (by decide)), Option.bind_some, wn i (by omega)]
    rfl
theorem fit_l1 {g : Nat} (hg : 1 ≤ g) {Dq : Int} {q : Nat → Int} {k : Nat} (hk : k ≤ 3) (hq : ∀ j, j < k → bd (q j) 307200000000) : ∀ (r i : Nat) (Y : List Int), i + r = k → Y.length = k → (∀ j, j < i → Y.getD j 0 = q j) → (∀ j, i ≤ j → j < k → Y.getD j 0 = (g : Int) * q j) → To (fun n => gauge_Fit.l1 n (g : Int) (k : Int) (i : Int) Y Dq) (fun p => p.2 = (Dq, 0) ∧ p.1.length = k ∧ ∀ j, j < k → p.1.getD j 0 = q j) := by
  intro r
  induction r with
  | zero =>
    intro i Y hi hl h1 h2
    obtain rfl : i = k := by omega
    exact to_some 1 (fun n => by rw [gauge_Fit.l1, if_neg (by omega)]) ⟨rfl, hl, h1⟩
  | succ r ih =>
    intro i Y hi hl h1 h2
    have e1 : rd Y (i : Int) = (g : Int) * q i := h2 i (Nat.le_refl _) (by omega)
    refine to_step 1 (fun n => ?_) (ih (i + 1) (Y.set i (q i)) (by omega) (by rw [List.length_set]; exact hl) (fun j hj => ?_) (fun j h0 hj => ?_))
    · rw [gauge_Fit.l1, if_pos (by omega), if_pos (by omega), if_pos (by omega), if_neg (by omega), e1, Int.mul_tdiv_cancel_left _ (by omega), wb (hq i (by omega)) (by decide), wn i (by omega)]
      rfl
    · by_cases c : j = i
      · subst c; exact gset_eq (by omega)
      · rw [gset_ne (fun e => c e.symm)]; exact h1 j (by omega)
    · rw [gset_ne (by omega)]; exact h2 j (by omega) hj
structure FitR (R : List (List Int)) (H : List Int) (k : Nat) (r : List Int × Int × Int) : Prop where
  e : r.2.2 = 0
  len : r.1.length = k
  dpos : 1 ≤ r.2.1
  dbd : bd r.2.1 3072000000
  nbd : ∀ j, j < k → bd (r.1.getD j 0) 307200000000
  ort : ∀ c, c < k → r.2.1 * bv (ea R) (eh H) R.length c = sumN (fun j => r.1.getD j 0 * gm (ea R) R.length j c) k
  one : fg r.2.1.natAbs r.1 = 1
theorem fit_ev (G : Gauged R H k) (hC : Ev (fun n => gauge_Check.f n R H) 0) (hD : den (ea R) R.length k ≠ 0) : To (fun n => gauge_Fit.f n R H) (FitR R H k) := by
  have kk := G.kk
  obtain ⟨X, hX, M⟩ := normal_ev G
  obtain ⟨d0, db⟩ := den_ev G M
  have dp := den_pos G
  generalize eD : den (ea R) R.length k = D at *
  have hdv := fg_dvd (nl R H k k) D.natAbs
  generalize eg : fg D.natAbs (nl R H k k) = g at *
  have g1 : 1 ≤ g := by
    rcases Nat.eq_zero_or_pos g with z | z
    · rw [z] at hdv; have := Nat.eq_zero_of_zero_dvd hdv.1; omega
    · exact z
  have gi : (g : Int) ≠ 0 := by omega
  have hDq : (g : Int) * (D / g) = D := Int.mul_ediv_cancel' (Int.ofNat_dvd_left.2 hdv.1)
  have hNq : ∀ j, j < k → (g : Int) * (NN R H k j / g) = NN R H k j := fun j hj => Int.mul_ediv_cancel' (Int.ofNat_dvd_left.2 (hdv.2 _ (List.mem_map.2 ⟨j, List.mem_range.2 hj, rfl⟩)))
  generalize eDq : D / (g : Int) = Dq at *
  have hNb : ∀ j, j < k → bd (NN R H k j / g) 307200000000 := fun j hj => bd_div gi (by rw [hNq j hj]; exact (num_ev G M hj).2)
  have hDb : bd Dq 3072000000 := bd_div gi (by rw [hDq]; exact db)
  have hDp : 1 ≤ Dq := by
    rcases Int.lt_or_le Dq 1 with z | z
    · have := Int.mul_le_mul_of_nonneg_left (show Dq ≤ 0 by omega) (show (0 : Int) ≤ g by omega)
      rw [hDq, Int.mul_zero] at this
      omega
    · exact z
  have hl := nl_len (R := R) (H := H) (k := k) k
  have hlast : To (fun n => gauge_Fit.j1 n (fg D.natAbs (nl R H k k) : Nat) (nl R H k k) D) (FitR R H k) := by
    rw [eg]
    obtain ⟨p, hp, p1, p2, p3⟩ := fit_l1 (Dq := Dq) (q := fun j => NN R H k j / g) (k := k) g1 (by omega) hNb k 0 (nl R H k k) (by omega) hl (fun j hj => by omega) (fun j _ hj => by rw [hNq j hj]; exact getD_range (NN R H k) hj)
    refine ⟨p, ev_step 1 (fun n => ?_) hp, ?_⟩
    · rw [gauge_Fit.j1, if_neg gi, hl]
      have : wrap64 (Int.tdiv D g) = Dq := by rw [← hDq, Int.mul_tdiv_cancel_left _ gi, wb hDb (by decide)]
      rw [this]
      rfl
    · obtain ⟨y, d, e⟩ := p
      obtain ⟨rfl, rfl⟩ : d = Dq ∧ e = 0 := by simpa using p1
      refine ⟨rfl, p2, hDp, hDb, fun j hj => by rw [p3 j hj]; exact hNb j hj, fun c hc => ?_, ?_⟩
      · have cr := cramer (ea R) (eh H) (n := R.length) G.kk hc
        rw [eD, ← hDq, Int.mul_assoc] at cr
        have e2 : sumN (fun j => num (ea R) (eh H) R.length k j * gm (ea R) R.length j c) k = g * sumN (fun j => y.getD j 0 * gm (ea R) R.length j c) k := by
          rw [Int.mul_comm, sumN_mul]
          refine sumN_congr k (fun j hj => ?_)
          have a := hNq j hj
          have b := p3 j hj
          show NN R H k j * _ = _
          rw [← a]
          show _ = y.getD j 0 * _ * _
          rw [show y.getD j 0 = NN R H k j / g from b]
          generalize NN R H k j / (g : Int) = u
          generalize gm (ea R) R.length j c = v
          grind
        rw [e2] at cr
        exact Int.eq_of_mul_eq_mul_left gi cr
      · have ey : y = (List.range k).map (fun j => NN R H k j / g) := list_eq p2 p3
        have en : nl R H k k = y.map (fun x => (g : Int) * x) := by
          rw [ey, List.map_map]
          unfold nl
          exact List.map_congr_left (fun j hj => (hNq j (List.mem_range.1 hj)).symm)
        have := fg_mul g y d.natAbs
        rw [← en, show g * d.natAbs = D.natAbs by rw [← hDq, Int.natAbs_mul, Int.natAbs_natCast], eg] at this
        exact Nat.eq_of_mul_eq_mul_left g1 (by rw [← this, Nat.mul_one])
  obtain ⟨res, hr, hq⟩ := fit_l0 G M (D := D) (D0 := D.natAbs) (by omega) hlast k 0 (by omega)
  refine ⟨res, ?_, hq⟩
  refine ev_bind hC ?_
  refine Ev.congr (fun n => if_pos rfl) ?_
  refine ev_bind hX ?_
  refine ev_step 0 (fun n => ?_) hr
  have ed : gauge_det.f n X (-1) = some D := d0
  show (gauge_det.f n X (-1)).bind _ = _
  rw [ed, Option.bind_some, if_neg hD, gabs (bd_le db (by decide)), Option.bind_some, M.len]
  rfl
theorem fit_zero (G : Gauged R H k) (hC : Ev (fun n => gauge_Check.f n R H) 0) (hD : den (ea R) R.length k = 0) : Ev (fun n => gauge_Fit.f n R H) ([], 0, 6) := by
  obtain ⟨X, hX, M⟩ := normal_ev G
  obtain ⟨d0, db⟩ := den_ev G M
  refine ev_bind hC ?_
  refine Ev.congr (fun n => if_pos rfl) ?_
  refine ev_bind hX ?_
  refine ev_some 0 (fun n => ?_)
  have ed : gauge_det.f n X (-1) = some (den (ea R) R.length k) := d0
  show (gauge_det.f n X (-1)).bind _ = _
  rw [ed, Option.bind_some, if_pos hD]
theorem fit_err {e : Int} (he : e ≠ 0) (hC : Ev (fun n => gauge_Check.f n R H) e) : Ev (fun n => gauge_Fit.f n R H) ([], 0, e) :=
  ev_bind hC (ev_some 0 (fun n => if_neg he))
def lf (R : List (List Int)) (H : List Int) (k : Nat) (r : List Int × Int × Int) : Int := sumN (fun s => df (ea R) (eh H) r.2.1 (fun j => r.1.getD j 0) k s * eh H s) R.length
theorem df_bd (G : Gauged R H k) {r : List Int × Int × Int} (F : FitR R H k r) {j s : Nat} (hj : j ≤ k) (hs : s < R.length) : bd (r.2.1 * eh H s - sumN (fun j => ea R s j * r.1.getD j 0) j) 20000000000000 := by
  have kk := G.kk
  exact bd_le (bd_sub (bd_mul F.dbd (G.hgt s hs)) (bd_sumN (B := 10 * 307200000000) j (fun i hi => bd_mul (G.ent s i hs (by omega)) (F.nbd i (by omega))))) (by omega)
theorem lf_bd (G : Gauged R H k) {r : List Int × Int × Int} (F : FitR R H k r) {n : Nat} (hn : n ≤ R.length) : bd (sumN (fun s => df (ea R) (eh H) r.2.1 (fun j => r.1.getD j 0) k s * eh H s) n) 200000000000000000 := by
  have n8 := G.n8
  exact bd_le (bd_sumN (B := 20000000000000 * 1000) n (fun s hs => bd_mul (df_bd G F (Nat.le_refl _) (show s < R.length by omega)) (G.hgt s (by omega)))) (by omega)
theorem res_l1 (G : Gauged R H k) {X : List (List Int)} (M : MR R H k X) {r : List Int × Int × Int} (F : FitR R H k r) : ∀ (m j : Nat), j + m = k → ∀ acc, acc = sumN (fun s => r.2.1 * eh H s * eh H s) R.length - sumN (fun j => r.1.getD j 0 * bv (ea R) (eh H) R.length j) j → Ev (fun n => gauge_Residual.l1 n X acc r.1 (k : Int) (j : Int) r.1 r.2.1) (wrap64 (Int.tdiv (lf R H k r) ((Nat.gcd r.2.1.natAbs (lf R H k r).natAbs : Nat) : Int)), wrap64 (Int.tdiv r.2.1 ((Nat.gcd r.2.1.natAbs (lf R H k r).natAbs : Nat) : Int)), 0) := by
  have kk := G.kk
  have n8 := G.n8
  have rl := F.len
  have xl := M.len
  have dp := F.dpos
  intro m
  induction m with
  | zero =>
    intro j hj acc ha
    obtain rfl : j = k := by omega
    have e : acc = lf R H j r := by rw [ha]; unfold lf; rw [left_eq]
    have hb : bd (lf R H j r) 200000000000000000 := lf_bd G F (Nat.le_refl _)
    rw [e]
    refine ev_step 1 (f := fun n => (gauge_gcd.f n r.2.1 ((lf R H j r).natAbs : Int)).bind fun t162 => if t162 = 0 then none else some (wrap64 (Int.tdiv (lf R H j r) t162), wrap64 (Int.tdiv r.2.1 t162), 0)) (fun n => ?_) (ev_bind (a := ((Nat.gcd r.2.1.natAbs (lf R H j r).natAbs : Nat) : Int)) ?_ (ev_some 0 (fun n => ?_)))
    · rw [gauge_Residual.l1, if_neg (by omega), gabs (bd_le hb (by decide)), Option.bind_some]
    · have := ggcd_ev (lf R H j r).natAbs r.2.1.natAbs
      rw [show ((r.2.1.natAbs : Nat) : Int) = r.2.1 by omega] at this
      exact this
    · have := Nat.gcd_pos_of_pos_left (lf R H j r).natAbs (show 0 < r.2.1.natAbs by omega)
      rw [if_neg (by omega)]
  | succ m ih =>
    intro j hj acc ha
    have hw := (bd_mul (F.nbd j (by omega)) (bv_bd G (Nat.le_refl _) (show j < k by omega)))
    have hs1 : bd (sumN (fun s => r.2.1 * eh H s * eh H s) R.length) (8 * 3072000000000000) := bd_le (bd_sumN (B := 3072000000 * 1000 * 1000) R.length (fun s hs => bd_mul (bd_mul F.dbd (G.hgt s hs)) (G.hgt s hs))) (by omega)
    have hs2 : bd (sumN (fun j => r.1.getD j 0 * bv (ea R) (eh H) R.length j) j) (3 * (307200000000 * 80000)) := bd_le (bd_sumN (B := 307200000000 * 80000) j (fun i hi => bd_mul (F.nbd i (by omega)) (bv_bd G (Nat.le_refl _) (show i < k by omega)))) (by omega)
    have hacc : bd acc (8 * 3072000000000000 + 3 * (307200000000 * 80000)) := by rw [ha]; exact bd_sub hs1 hs2
    have e1 : rd r.1 (j : Int) = r.1.getD j 0 := rfl
    have xr : ((rd_L1 X (j : Int)).length : Int) = (k : Int) + 1 := by
      have := M.row j (by omega)
      show ((X.getD j []).length : Int) = _
      omega
    have e2 : rd (rd_L1 X (j : Int)) (X.length : Int) = bv (ea R) (eh H) R.length j := by rw [xl]; exact M.vec j (by omega)
    refine ev_step 1 (fun n => ?_) (ih (j + 1) (by omega) (acc - r.1.getD j 0 * bv (ea R) (eh H) R.length j) (by rw [ha]; show _ = _ - (sumN _ j + r.1.getD j 0 * bv (ea R) (eh H) R.length j); omega))
    rw [gauge_Residual.l1, if_pos (by omega), if_pos (by omega), if_pos (by omega), if_pos (by omega), if_pos (by omega), if_pos (by omega), e1, e2, wb hw (by decide), wb (bd_sub hacc hw) (by decide), wn j (by omega)]
theorem res_l0 (G : Gauged R H k) {X : List (List Int)} (M : MR R H k X) {r : List Int × Int × Int} (F : FitR R H k r) : ∀ (m s : Nat), s + m = R.length → ∀ acc, acc = sumN (fun s => r.2.1 * eh H s * eh H s) s → Ev (fun n => gauge_Residual.l0 n X acc H (R.length : Int) (s : Int) r.1 r.2.1) (wrap64 (Int.tdiv (lf R H k r) ((Nat.gcd r.2.1.natAbs (lf R H k r).natAbs : Nat) : Int)), wrap64 (Int.tdiv r.2.1 ((Nat.gcd r.2.1.natAbs (lf R H k r).natAbs : Nat) : Int)), 0) := by
  have kk := G.kk
  have n8 := G.n8
  have rl := F.len
  have hl := G.hl
  intro m
  induction m with
  | zero =>
    intro s hs acc ha
    obtain rfl : s = R.length := by omega
    exact ev_step 1 (fun n => by rw [gauge_Residual.l0, if_neg (by omega), rl]; rfl) (res_l1 G M F k 0 (by omega) acc (by rw [ha]; show _ = _ - 0; omega))
  | succ m ih =>
    intro s hs acc ha
    have b1 := bd_mul F.dbd (G.hgt s (show s < R.length by omega))
    have b2 := bd_mul b1 (G.hgt s (show s < R.length by omega))
    have hs1 : bd acc (8 * 3072000000000000) := by rw [ha]; exact bd_le (bd_sumN (B := 3072000000 * 1000 * 1000) s (fun s hs => bd_mul (bd_mul F.dbd (G.hgt s (by omega))) (G.hgt s (by omega)))) (by omega)
    have e1 : rd H (s : Int) = eh H s := rfl
    refine ev_step 1 (fun n => ?_) (ih (s + 1) (by omega) (acc + r.2.1 * eh H s * eh H s) (by rw [ha]; rfl))
    rw [gauge_Residual.l0, if_pos (by omega), if_pos (by omega), if_pos (by omega), e1, wb b1 (by decide), wb b2 (by decide), wb (bd_add hs1 b2) (by decide), wn s (by omega)]
theorem res_ev (G : Gauged R H k) {r : List Int × Int × Int} (F : FitR R H k r) (hF : Ev (fun n => gauge_Fit.f n R H) r) : Ev (fun n => gauge_Residual.f n R H) (wrap64 (Int.tdiv (lf R H k r) ((Nat.gcd r.2.1.natAbs (lf R H k r).natAbs : Nat) : Int)), wrap64 (Int.tdiv r.2.1 ((Nat.gcd r.2.1.natAbs (lf R H k r).natAbs : Nat) : Int)), 0) := by
  obtain ⟨X, hX, M⟩ := normal_ev G
  refine ev_bind hF ?_
  refine Ev.congr (fun n => if_pos F.e) ?_
  refine ev_bind hX ?_
  have := res_l0 G M F R.length 0 (by omega) 0 rfl
  refine ev_step 0 (fun n => ?_) this
  show gauge_Residual.l0 n X 0 H (H.length : Int) 0 r.1 r.2.1 = _
  rw [G.hl]
  rfl
theorem res_err {e : Int} (he : e ≠ 0) (hF : Ev (fun n => gauge_Fit.f n R H) ([], 0, e)) : Ev (fun n => gauge_Residual.f n R H) (0, 0, e) :=
  ev_bind hF (ev_some 0 (fun n => if_neg he))
end
end Go.Proofs.Ytjbiebobhnbajaa.GauC
