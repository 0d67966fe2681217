/- GaugeFits: the fit solves the normal equations, in lowest terms; else the columns depend on each other. -/
import Derived.Test.YtjbiebobhnbajaaGaugeFitsn14
import Derived.Test.YtjbiebobhnbajaaGaugeFitsn18
import Derived.Test.YtjbiebobhnbajaaGaugeFitsn3
import Derived.Test.YtjbiebobhnbajaaGaugeFitsn6
import Derived.Test.YtjbiebobhnbajaaGaugeFitsn7
import Derived.Test.YtjbiebobhnbajaaGaugeFitsn8
import Derived.Test.YtjbiebobhnbajaaGaugeFitsn9
import Derived.Test.YtjbiebobhnbajaaGaugeFitsn10
import Derived.Test.YtjbiebobhnbajaaGaugeFitsn11
import Derived.Test.YtjbiebobhnbajaaGaugeFitsn12
namespace Go.Proofs.Ytjbiebobhnbajaa.Pure
open Go.RowKit Go.Proofs.YtjbiebobhnbajaaW.PrintWords Go.Proofs.YtjbiebobhnbajaaW.PrintLast Go.Proofs.YtjbiebobhnbajaaW.PrintMore Go.Proofs.Ytjbiebobhnbajaa.Opn Go.Proofs.Ytjbiebobhnbajaa.PAll Go.Proofs.Ytjbiebobhnbajaa.Base Go.Proofs.Ytjbiebobhnbajaa.GauA Go.Proofs.Ytjbiebobhnbajaa.GauB Go.Proofs.Ytjbiebobhnbajaa.GauC
set_option linter.unusedVariables false
set_option linter.unusedSimpArgs false
theorem works_ev : Ev (fun k => ephemerislaw2_gaugeWorks.f k) true := Ev.of ephemerislaw2_gaugeWorks.mono (k := 60) (by decide +kernel)
section
variable {R : List (List Int)} {H : List Int} {k : Nat}
theorem dp_1 (G : Gauged R H k) (hD : den (ea R) R.length k = 0) (hk : k = 1) {s : Nat} (hs : s < R.length) : ea R s 0 = 0 := by
  subst hk
  have : gm (ea R) R.length 0 0 = 0 := hD
  have h := sumN_ge (f := fun s => ea R s 0 * ea R s 0) (fun s => sq0 _) R.length s hs
  unfold gm at this
  rw [this] at h
  exact sq_zero h
theorem dp_2 (G : Gauged R H k) (hD : den (ea R) R.length k = 0) (hk : k = 2) {s t : Nat} (hs : s < R.length) (ht : t < R.length) : ea R s 0 * ea R t 1 = ea R s 1 * ea R t 0 := by
  subst hk
  have : D2 (ea R) R.length = 0 := hD
  have h := D2_ge (ea R) R.length s t hs ht
  have := sq_zero (x := ea R s 0 * ea R t 1 - ea R s 1 * ea R t 0) (by omega)
  omega
theorem dp_3 (G : Gauged R H k) (hD : den (ea R) R.length k = 0) (hk : k = 3) {s t u : Nat} (hs : s < R.length) (ht : t < R.length) (hu : u < R.length) : mi (ea R) s t u = 0 := by
  subst hk
  have : D3 (ea R) R.length = 0 := by
    unfold den dP at hD
    rw [if_neg (by omega), if_neg (by omega), gm_comm (ea R) R.length 1 0, gm_comm (ea R) R.length 2 0, gm_comm (ea R) R.length 2 1] at hD
    exact hD
  have h := D3_ge (ea R) R.length s t u hs ht hu
  exact sq_zero (by omega)
theorem dep_l2 (G : Gauged R H k) (hD : den (ea R) R.length k = 0) {s t : Nat} (hs : s < R.length) (ht : t < R.length) (hc : Ev (fun n => ephemerisref2_Dependent.l1 n R (k : Int) (rd_L1 R (s : Int)) R (R.length : Int) (s : Int) R (R.length : Int) ((t + 1 : Nat) : Int)) true) : ∀ (m u : Nat), u + m = R.length → Ev (fun n => ephemerisref2_Dependent.l2 n R (k : Int) (rd_L1 R (s : Int)) (rd_L1 R (t : Int)) R (R.length : Int) (s : Int) R (R.length : Int) (t : Int) R (R.length : Int) (u : Int)) true := by
  have n8 := G.n8
  have kk := G.kk
  intro m
  induction m with
  | zero =>
    intro u hu
    exact ev_step 1 (fun n => by rw [ephemerisref2_Dependent.l2, if_neg (by omega), wn t (by omega)]) hc
  | succ m ih =>
    intro u hu
    have hu' : u < R.length := by omega
    refine ev_step 1 (fun n => ?_) (ih (u + 1) (by omega))
    rw [ephemerisref2_Dependent.l2, if_pos (by omega), if_pos (by omega), if_pos (by omega), wn u (by omega)]
    by_cases c : k = 3
    · have ls : ((rd_L1 R (s : Int)).length : Int) = 3 := by
        have := G.row s hs
        show ((R.getD s []).length : Int) = _
        omega
      have lt : ((rd_L1 R (t : Int)).length : Int) = 3 := by
        have := G.row t ht
        show ((R.getD t []).length : Int) = _
        omega
      have lu : ((rd_L1 R (u : Int)).length : Int) = 3 := by
        have := G.row u hu'
        show ((R.getD u []).length : Int) = _
        omega
      have s0 : rd (rd_L1 R (s : Int)) 0 = ea R s 0 := rfl
      have s1 : rd (rd_L1 R (s : Int)) 1 = ea R s 1 := rfl
      have s2 : rd (rd_L1 R (s : Int)) 2 = ea R s 2 := rfl
      have t0 : rd (rd_L1 R (t : Int)) 0 = ea R t 0 := rfl
      have t1 : rd (rd_L1 R (t : Int)) 1 = ea R t 1 := rfl
      have t2 : rd (rd_L1 R (t : Int)) 2 = ea R t 2 := rfl
      have u0 : rd (rd_L1 R (u : Int)) 0 = ea R u 0 := rfl
      have u1 : rd (rd_L1 R (u : Int)) 1 = ea R u 1 := rfl
      have u2 : rd (rd_L1 R (u : Int)) 2 = ea R u 2 := rfl
      have hz := dp_3 G hD c hs ht hu'
      unfold mi dt3 at hz
      have bs0 := G.ent s 0 hs (by omega)
      have bs1 := G.ent s 1 hs (by omega)
      have bs2 := G.ent s 2 hs (by omega)
      have bt0 := G.ent t 0 ht (by omega)
      have bt1 := G.ent t 1 ht (by omega)
      have bt2 := G.ent t 2 ht (by omega)
      have bu0 := G.ent u 0 hu' (by omega)
      have bu1 := G.ent u 1 hu' (by omega)
      have bu2 := G.ent u 2 hu' (by omega)
      have m0 := bd_sub (bd_mul bt1 bu2) (bd_mul bt2 bu1)
      have m1 := bd_sub (bd_mul bt0 bu2) (bd_mul bt2 bu0)
      have m2 := bd_sub (bd_mul bt0 bu1) (bd_mul bt1 bu0)
      have p0 := bd_mul bs0 m0
      have p1 := bd_mul bs1 m1
      have p2 := bd_mul bs2 m2
      rw [if_pos (by omega), if_pos (by omega), if_pos (by omega), if_pos (by omega), if_pos (by omega), if_pos (by omega), if_pos (by omega), if_pos (by omega), if_pos (by omega), if_pos (by omega)]
      rw [s0, s1, s2, t0, t1, t2, u0, u1, u2]
      rw [wb (bd_mul bt1 bu2) (by decide), wb (bd_mul bt2 bu1) (by decide), wb (bd_mul bt0 bu2) (by decide), wb (bd_mul bt2 bu0) (by decide), wb (bd_mul bt0 bu1) (by decide), wb (bd_mul bt1 bu0) (by decide), wb m0 (by decide), wb m1 (by decide), wb m2 (by decide), wb p0 (by decide), wb p1 (by decide), wb p2 (by decide), wb (bd_sub p0 p1) (by decide), wb (bd_add (bd_sub p0 p1) p2) (by decide)]
      rw [if_pos hz]
    · rw [if_neg (by omega)]
theorem dep_l1 (G : Gauged R H k) (hD : den (ea R) R.length k = 0) {s : Nat} (hs : s < R.length) (hc : Ev (fun n => ephemerisref2_Dependent.l0 n R (k : Int) R (R.length : Int) ((s + 1 : Nat) : Int)) true) : ∀ (m t : Nat), t + m = R.length → Ev (fun n => ephemerisref2_Dependent.l1 n R (k : Int) (rd_L1 R (s : Int)) R (R.length : Int) (s : Int) R (R.length : Int) (t : Int)) true := by
  have n8 := G.n8
  have kk := G.kk
  intro m
  induction m with
  | zero =>
    intro t ht
    exact ev_step 1 (fun n => by rw [ephemerisref2_Dependent.l1, if_neg (by omega), wn s (by omega)]) hc
  | succ m ih =>
    intro t ht'
    have ht : t < R.length := by omega
    have nxt := dep_l2 G hD hs ht (ih (t + 1) (by omega)) R.length 0 (by omega)
    have hj : ∀ n, ephemerisref2_Dependent.j3 (n + 1) R (k : Int) (rd_L1 R (s : Int)) (rd_L1 R (t : Int)) R (R.length : Int) (s : Int) R (R.length : Int) (t : Int) false = ephemerisref2_Dependent.l2 n R (k : Int) (rd_L1 R (s : Int)) (rd_L1 R (t : Int)) R (R.length : Int) (s : Int) R (R.length : Int) (t : Int) R (R.length : Int) ((0 : Nat) : Int) := fun n => by rw [ephemerisref2_Dependent.j3, if_neg (by simp)]; rfl
    refine ev_step 2 (fun n => ?_) nxt
    rw [ephemerisref2_Dependent.l1, if_pos (by omega), if_pos (by omega), if_pos (by omega)]
    by_cases c : k = 2
    · have ls : ((rd_L1 R (s : Int)).length : Int) = 2 := by
        have := G.row s hs
        show ((R.getD s []).length : Int) = _
        omega
      have lt : ((rd_L1 R (t : Int)).length : Int) = 2 := by
        have := G.row t ht
        show ((R.getD t []).length : Int) = _
        omega
      have s0 : rd (rd_L1 R (s : Int)) 0 = ea R s 0 := rfl
      have s1 : rd (rd_L1 R (s : Int)) 1 = ea R s 1 := rfl
      have t0 : rd (rd_L1 R (t : Int)) 0 = ea R t 0 := rfl
      have t1 : rd (rd_L1 R (t : Int)) 1 = ea R t 1 := rfl
      have hz := dp_2 G hD c hs ht
      rw [if_pos (by omega), if_pos (by omega), if_pos (by omega), if_pos (by omega), if_pos (by omega), s0, s1, t0, t1, hz, bne_self_eq_false, hj]
    · rw [if_neg (by omega), hj]
theorem dep_l0 (G : Gauged R H k) (hD : den (ea R) R.length k = 0) : ∀ (m s : Nat), s + m = R.length → Ev (fun n => ephemerisref2_Dependent.l0 n R (k : Int) R (R.length : Int) (s : Int)) true := by
  have n8 := G.n8
  have kk := G.kk
  intro m
  induction m with
  | zero =>
    intro s hs
    exact ev_some 1 (fun n => by rw [ephemerisref2_Dependent.l0, if_neg (by omega)])
  | succ m ih =>
    intro s hs'
    have hs : s < R.length := by omega
    have nxt := dep_l1 G hD hs (ih (s + 1) (by omega)) R.length 0 (by omega)
    have hj : ∀ n, ephemerisref2_Dependent.j1 (n + 1) R (k : Int) (rd_L1 R (s : Int)) R (R.length : Int) (s : Int) false = ephemerisref2_Dependent.l1 n R (k : Int) (rd_L1 R (s : Int)) R (R.length : Int) (s : Int) R (R.length : Int) ((0 : Nat) : Int) := fun n => by rw [ephemerisref2_Dependent.j1, if_neg (by simp)]; rfl
    refine ev_step 2 (fun n => ?_) nxt
    rw [ephemerisref2_Dependent.l0, if_pos (by omega), if_pos (by omega), if_pos (by omega)]
    by_cases c : k = 1
    · have ls : ((rd_L1 R (s : Int)).length : Int) = 1 := by
        have := G.row s hs
        show ((R.getD s []).length : Int) = _
        omega
      have s0 : rd (rd_L1 R (s : Int)) 0 = ea R s 0 := rfl
      rw [if_pos (by omega), if_pos (by omega), s0, dp_1 G hD c hs, bne_self_eq_false, hj]
    · rw [if_neg (by omega), hj]
theorem dep_ev (G : Gauged R H k) (hD : den (ea R) R.length k = 0) : Ev (fun n => ephemerisref2_Dependent.f n R) true := by
  have n0 := G.n0
  have r0 : ((rd_L1 R 0).length : Int) = k := by
    have := G.row 0 G.n0
    show ((R.getD 0 []).length : Int) = k
    omega
  refine ev_step 0 (fun n => ?_) (dep_l0 G hD R.length 0 (by omega))
  show ephemerisref2_Dependent.f n R = _
  unfold ephemerisref2_Dependent.f
  rw [if_pos (by omega), r0]; rfl
variable {r : List Int × Int × Int}
/-- what a row differs by -/
def dfr (R : List (List Int)) (H : List Int) (k : Nat) (r : List Int × Int × Int) (s : Nat) : Int := df (ea R) (eh H) r.2.1 (fun j => r.1.getD j 0) k s
def sh (R : List (List Int)) (H : List Int) (k : Nat) (r : List Int × Int × Int) (n : Nat) : Int := sumN (fun s => dfr R H k r s * eh H s) n
def sa (R : List (List Int)) (H : List Int) (k : Nat) (r : List Int × Int × Int) (c n : Nat) : Int := sumN (fun s => dfr R H k r s * ea R s c) n
def v14 (R : List (List Int)) (H : List Int) (k : Nat) (r : List Int × Int × Int) (c s : Nat) : Int := if c = 0 then sh R H k r s else sh R H k r R.length
theorem dfr_bd (G : Gauged R H k) (F : FitR R H k r) {s : Nat} (hs : s < R.length) : bd (dfr R H k r s) 20000000000000 := df_bd G F (Nat.le_refl _) hs
theorem sh_bd (G : Gauged R H k) (F : FitR R H k r) {n : Nat} (hn : n ≤ R.length) : bd (sh R H k r n) 200000000000000000 := lf_bd G F hn
theorem sa_bd (G : Gauged R H k) (F : FitR R H k r) {c n : Nat} (hc : c < k) (hn : n ≤ R.length) : bd (sa R H k r c n) 2000000000000000 := by
  have n8 := G.n8
  exact bd_le (bd_sumN (B := 20000000000000 * 10) n (fun s hs => bd_mul (dfr_bd G F (by omega)) (G.ent s c (by omega) hc))) (by omega)
theorem sa_zero (F : FitR R H k r) {c : Nat} (hc : c < k) : sa R H k r c R.length = 0 := by
  unfold sa dfr
  rw [ortho, F.ort c hc]
  omega
theorem law_l3 (G : Gauged R H k) (F : FitR R H k r) {x7 x8 x11 : Int} {c s : Nat} (hc : c < k) (hs : s < R.length) {b : Bool} (hN : Ev (fun n => ephemerislaw2_GaugeFits.l2 n R H x7 x8 x11 (v14 R H k r c (s + 1)) (c : Int) (sa R H k r c (s + 1)) (k : Int) (c : Int) R (R.length : Int) ((s + 1 : Nat) : Int) r.1 r.2.1) b) : ∀ (m j : Nat), j + m = k → ∀ x19, x19 = r.2.1 * eh H s - sumN (fun j => ea R s j * r.1.getD j 0) j →
    Ev (fun n => ephemerislaw2_GaugeFits.l3 n R H x7 x8 x11 (v14 R H k r c s) (c : Int) (sa R H k r c s) (s : Int) (rd_L1 R (s : Int)) x19 (k : Int) (c : Int) R (R.length : Int) (s : Int) r.1 (k : Int) (j : Int) r.1 r.2.1) b := by
  have n8 := G.n8
  have kk := G.kk
  have hl := G.hl
  have rl := F.len
  have ls : ((rd_L1 R (s : Int)).length : Int) = k := by
    have := G.row s hs
    show ((R.getD s []).length : Int) = _
    omega
  have ec : rd (rd_L1 R (s : Int)) (c : Int) = ea R s c := rfl
  have eh' : rd H (s : Int) = eh H s := rfl
  have b1 := dfr_bd G F hs
  have b2 := bd_mul b1 (G.hgt s hs)
  have b3 := bd_mul b1 (G.ent s c hs hc)
  have b4 := bd_add (sh_bd G F (n := s) (by omega)) b2
  have b5 := bd_add (sa_bd G F (c := c) (n := s) hc (by omega)) b3
  intro m
  induction m with
  | zero =>
    intro j hj x19 hx
    obtain rfl : j = k := by omega
    have e : x19 = dfr R H j r s := hx
    rw [e]
    refine ev_step 1 (fun n => ?_) hN
    rw [ephemerislaw2_GaugeFits.l3, if_neg (by omega), if_pos (by omega), if_pos (by omega), ec, wb b3 (by decide), wb b5 (by decide), wn s (by omega)]
    by_cases q : c = 0
    · have e1 : v14 R H j r c s = sh R H j r s := if_pos q
      have e2 : v14 R H j r c (s + 1) = sh R H j r s + dfr R H j r s * eh H s := if_pos q
      rw [if_pos (by omega), if_pos (by omega), if_pos (by omega), eh', e1, e2, wb b2 (by decide), wb b4 (by decide)]
      rfl
    · have e1 : v14 R H j r c s = v14 R H j r c (s + 1) := by unfold v14; rw [if_neg q, if_neg q]
      rw [if_neg (by omega), e1]
      rfl
  | succ m ih =>
    intro j hj x19 hx
    have ej : rd (rd_L1 R (s : Int)) (j : Int) = ea R s j := rfl
    have er : rd r.1 (j : Int) = r.1.getD j 0 := rfl
    have c1 := bd_mul (G.ent s j hs (by omega)) (F.nbd j (by omega))
    have c2 : bd (x19 - ea R s j * r.1.getD j 0) (20000000000000 + 10 * 307200000000) := by rw [hx]; exact bd_sub (df_bd G F (by omega) hs) c1
    refine ev_step 1 (fun n => ?_) (ih (j + 1) (by omega) (x19 - ea R s j * r.1.getD j 0) (by rw [hx]; show _ = _ - (sumN _ j + ea R s j * r.1.getD j 0); omega))
    rw [ephemerislaw2_GaugeFits.l3, if_pos (by omega), if_pos (by omega), if_pos (by omega), if_pos (by omega), ej, er, wb c1 (by decide), wb c2 (by decide), wn j (by omega)]
theorem law_l2 (G : Gauged R H k) (F : FitR R H k r) {x7 x8 x11 : Int} {c : Nat} (hc : c < k) {b : Bool} (hN : Ev (fun n => ephemerislaw2_GaugeFits.l1 n R H x7 x8 x11 (sh R H k r R.length) (k : Int) ((c + 1 : Nat) : Int) r.1 r.2.1) b) : ∀ (m s : Nat), s + m = R.length →
    Ev (fun n => ephemerislaw2_GaugeFits.l2 n R H x7 x8 x11 (v14 R H k r c s) (c : Int) (sa R H k r c s) (k : Int) (c : Int) R (R.length : Int) (s : Int) r.1 r.2.1) b := by
  have n8 := G.n8
  have kk := G.kk
  have hl := G.hl
  have rl := F.len
  intro m
  induction m with
  | zero =>
    intro s hs
    obtain rfl : s = R.length := by omega
    have e1 : v14 R H k r c R.length = sh R H k r R.length := by unfold v14; split <;> rfl
    exact ev_step 1 (fun n => by rw [ephemerislaw2_GaugeFits.l2, if_neg (by omega), sa_zero F hc, if_pos rfl, wn c (by omega), e1]) hN
  | succ m ih =>
    intro s hs
    have b1 := bd_mul F.dbd (G.hgt s (show s < R.length by omega))
    have eh' : rd H (s : Int) = eh H s := rfl
    refine ev_step 1 (fun n => ?_) (law_l3 G F hc (show s < R.length by omega) (ih (s + 1) (by omega)) k 0 (by omega) _ (show r.2.1 * eh H s = _ - 0 by omega))
    rw [ephemerislaw2_GaugeFits.l2, if_pos (by omega), if_pos (by omega), if_pos (by omega), if_pos (by omega), eh', wb b1 (by decide), rl]
    rfl
theorem law_l1 (G : Gauged R H k) (F : FitR R H k r) {x7 x8 : Int} {b : Bool} (hN : Ev (fun n => (ephemerisref2_Gcd.f n (sh R H k r R.length) r.2.1).bind fun t252 => (if t252 = 0 then (none) else (if (wrap64 (Int.tdiv (sh R H k r R.length) t252)) = x7 then ((ephemerisref2_Gcd.f n (sh R H k r R.length) r.2.1).bind fun t253 => (if t253 = 0 then (none) else (some ((wrap64 (Int.tdiv r.2.1 t253)) == x8)))) else (some false)))) b) : ∀ (m c : Nat), c + m = k → ∀ x14, x14 = (if c = 0 then 0 else sh R H k r R.length) →
    Ev (fun n => ephemerislaw2_GaugeFits.l1 n R H x7 x8 1 x14 (k : Int) (c : Int) r.1 r.2.1) b := by
  have kk := G.kk
  have n0 := G.n0
  intro m
  induction m with
  | zero =>
    intro c hc x14 hx
    obtain rfl : c = k := by omega
    rw [if_neg (by omega)] at hx
    exact ev_step 1 (fun n => by rw [ephemerislaw2_GaugeFits.l1, if_neg (by omega), if_pos rfl, hx]) hN
  | succ m ih =>
    intro c hc x14 hx
    have e : x14 = v14 R H k r c 0 := by rw [hx]; unfold v14; split <;> rfl
    refine ev_step 1 (fun n => ?_) (law_l2 G F (show c < k by omega) (ih (c + 1) (by omega) _ (by rw [if_neg (by omega)])) R.length 0 (by omega))
    rw [ephemerislaw2_GaugeFits.l1, if_pos (by omega), e]
    rfl
theorem law_l0 (G : Gauged R H k) (F : FitR R H k r) {x7 x8 : Int} {b : Bool} (hN : Ev (fun n => ephemerislaw2_GaugeFits.l1 n R H x7 x8 1 0 (k : Int) 0 r.1 r.2.1) b) : ∀ (t : List Int) (g i : Nat), r.1.drop i = t → 1 ≤ g → g ≤ 3072000000 → fg g t = 1 → Ev (fun n => ephemerislaw2_GaugeFits.l0 n R H x7 x8 (g : Int) r.1 (k : Int) (i : Int) r.1 r.2.1) b := by
  have kk := G.kk
  have rl := F.len
  intro t
  induction t with
  | nil =>
    intro g i hd g0 g1 h1
    have hle := drop_nil (l := r.1) (i := (i : Int)) (by omega) (by simpa using hd)
    have e : g = 1 := h1
    subst e
    exact ev_step 1 (fun n => by rw [ephemerislaw2_GaugeFits.l0, if_neg (by omega), rl]; rfl) hN
  | cons x t ih =>
    intro g i hd g0 g1 h1
    obtain ⟨hlt, hx, ht⟩ := drop_cons (l := r.1) (i := (i : Int)) 0 (by omega) (by simpa using hd)
    have hx' : rd r.1 (i : Int) = x := hx
    have e1 : ((i : Int) + 1).toNat = i + 1 := by omega
    rw [e1] at ht
    have hxb : bd x 307200000000 := by rw [← hx]; exact F.nbd _ (by omega)
    have hp := Nat.gcd_pos_of_pos_left x.natAbs (show 0 < g by omega)
    have hq := Nat.gcd_le_left x.natAbs (show 0 < g by omega)
    have hg := rGcd_ev (a := (g : Int)) (b := x) (by unfold bd; omega) (bd_le hxb (by decide))
    rw [show rg ((g : Int)).natAbs x.natAbs = ((Nat.gcd g x.natAbs : Nat) : Int) by unfold rg; rw [Int.natAbs_natCast, if_neg (by omega)]] at hg
    refine ev_step 1 (fun n => ?_) (ev_bind (f := fun n t => ephemerislaw2_GaugeFits.l0 n R H x7 x8 t r.1 (k : Int) ((i + 1 : Nat) : Int) r.1 r.2.1) hg (ih (Nat.gcd g x.natAbs) (i + 1) ht hp (by omega) h1))
    rw [ephemerislaw2_GaugeFits.l0, if_pos (by omega), if_pos (by omega), if_pos (by omega), hx', wn i (by omega)]
theorem body {e : Int} {F : List Int × Int × Int} {W : Int × Int × Int} {b : Bool} (hF : Ev (fun n => gauge_Fit.f n R H) F) (hW : Ev (fun n => gauge_Residual.f n R H) W) (hE : Ev (fun n => ephemerislaw2_gaugeErr.f n R H) e) (hC : Ev (fun n => gauge_Check.f n R H) e) {g : Nat → Option Bool} (hg : Ev g b) (hh : ∀ n, (if e = e then (if e = 0 then (if F.2.2 = 0 then (if 0 < (R.length : Int) then (if (F.1.length : Int) = ((rd_L1 R 0).length : Int) then (if F.2.1 < 1 then (ephemerislaw2_GaugeFits.j0 n R H W.1 W.2.1 true F.1 F.2.1) else (if W.2.2 = 0 then (if W.2.1 < 1 then (ephemerislaw2_GaugeFits.j0 n R H W.1 W.2.1 true F.1 F.2.1) else ((ephemerisref2_Gcd.f n W.1 W.2.1).bind fun t249 => (ephemerislaw2_GaugeFits.j0 n R H W.1 W.2.1 (t249 != 1) F.1 F.2.1))) else (ephemerislaw2_GaugeFits.j0 n R H W.1 W.2.1 true F.1 F.2.1))) else (ephemerislaw2_GaugeFits.j0 n R H W.1 W.2.1 true F.1 F.2.1)) else (none)) else (if F.2.2 = 6 then (if W.2.2 = F.2.2 then (if W.1 = 0 then (if W.2.1 = 0 then (if (F.1.length : Int) = 0 then (if F.2.1 = 0 then ((ephemerisref2_Dependent.f n R).bind fun t247 => (some t247)) else (some false)) else (some false)) else (some false)) else (some false)) else (some false)) else (some false))) else (if F.2.2 = e then (if W.2.2 = e then (if W.1 = 0 then (if W.2.1 = 0 then (if (F.1.length : Int) = 0 then (some (F.2.1 == 0)) else (some false)) else (some false)) else (some false)) else (some false)) else (some false))) else (some false)) = g n) : Ev (fun n => ephemerislaw2_GaugeFits.f n R H) b := by
  refine ev_bind works_ev ?_
  refine Ev.congr (fun n => if_pos rfl) ?_
  refine ev_bind hF ?_
  refine ev_bind hW ?_
  refine ev_bind hE ?_
  refine ev_bind hC ?_
  exact Ev.congr hh hg
end
theorem GaugeFits : PureX := by
  intro R H hR hH
  apply ev_k
  have hr : ∀ x ∈ R, x.length ≤ 9223372036854775807 := fun x hx => (hR.2 x hx).1
  have hC := chk_ev (R := R) (H := H) hr hR.1 hH.1
  have hE := err_ev (R := R) (H := H) hr hR.1 hH.1
  by_cases c : ge R H = 0
  · have G := ge_zero c
    rw [c] at hC hE
    generalize (R.getD 0 []).length = k at G
    have n0 := G.n0
    have r0 : ((rd_L1 R 0).length : Int) = k := by
      have := G.row 0 G.n0
      show ((R.getD 0 []).length : Int) = k
      omega
    by_cases hD : den (ea R) R.length k = 0
    · have hF := fit_zero G hC hD
      have hW := res_err (e := 6) (by decide) hF
      refine body (R := R) (H := H) hF hW hE hC (dep_ev G hD) (fun n => ?_)
      rw [if_pos rfl, if_pos rfl, if_neg (by decide), if_pos rfl, if_pos rfl, if_pos rfl, if_pos rfl, if_pos (show (((([] : List Int), (0 : Int), (6 : Int)).1).length : Int) = 0 from rfl), if_pos rfl]
      cases ephemerisref2_Dependent.f n R <;> rfl
    · obtain ⟨r, hF, F⟩ := fit_ev G hC hD
      have hW := res_ev G F hF
      have rl := F.len
      have dp := F.dpos
      have db := F.dbd
      have hlb : bd (lf R H k r) 200000000000000000 := lf_bd G F (Nat.le_refl _)
      have hgp := Nat.gcd_pos_of_pos_left (lf R H k r).natAbs (show 0 < r.2.1.natAbs by omega)
      have d1 : ((Nat.gcd r.2.1.natAbs (lf R H k r).natAbs : Nat) : Int) ∣ r.2.1 := Int.ofNat_dvd_left.2 (Nat.gcd_dvd_left _ _)
      have d2 : ((Nat.gcd r.2.1.natAbs (lf R H k r).natAbs : Nat) : Int) ∣ lf R H k r := Int.ofNat_dvd_left.2 (Nat.gcd_dvd_right _ _)
      have hrg : rg (lf R H k r).natAbs r.2.1.natAbs = ((Nat.gcd r.2.1.natAbs (lf R H k r).natAbs : Nat) : Int) := by unfold rg; rw [Nat.gcd_comm (lf R H k r).natAbs, if_neg (by omega)]
      have hend := rGcd_ev (a := lf R H k r) (b := r.2.1) (bd_le hlb (by decide)) (bd_le db (by decide))
      rw [hrg] at hend
      generalize eg : Nat.gcd r.2.1.natAbs (lf R H k r).natAbs = g at *
      have gi : (g : Int) ≠ 0 := by omega
      obtain ⟨a, ha⟩ := d2
      obtain ⟨d, hd⟩ := d1
      have hta : Int.tdiv (lf R H k r) (g : Int) = a := by rw [ha, Int.mul_tdiv_cancel_left _ gi]
      have htd : Int.tdiv r.2.1 (g : Int) = d := by rw [hd, Int.mul_tdiv_cancel_left _ gi]
      have hab : bd a 200000000000000000 := bd_div gi (by rw [← ha]; exact hlb)
      have hdb : bd d 3072000000 := bd_div gi (by rw [← hd]; exact db)
      have hwa : wrap64 a = a := wb hab (by decide)
      have hwd : wrap64 d = d := wb hdb (by decide)
      rw [hta, htd, hwa, hwd] at hW
      have hdp : 1 ≤ d := by
        rcases Int.lt_or_le d 1 with z | z
        · have := Int.mul_le_mul_of_nonneg_left (show d ≤ 0 by omega) (show (0 : Int) ≤ g by omega)
          rw [← hd, Int.mul_zero] at this
          omega
        · exact z
      have hone : rg a.natAbs d.natAbs = 1 := by
        have : g * Nat.gcd d.natAbs a.natAbs = g * 1 := by
          rw [← Nat.gcd_mul_left, Nat.mul_one]
          rw [ha, hd, Int.natAbs_mul, Int.natAbs_mul, Int.natAbs_natCast] at eg
          exact eg
        have := Nat.eq_of_mul_eq_mul_left hgp this
        unfold rg
        rw [Nat.gcd_comm, this]; rfl
      have hgd := rGcd_ev (a := a) (b := d) (bd_le hab (by decide)) (bd_le hdb (by decide))
      rw [hone] at hgd
      have hsh : sh R H k r R.length = lf R H k r := rfl
      have hlast : Ev (fun n => (ephemerisref2_Gcd.f n (sh R H k r R.length) r.2.1).bind fun t252 => (if t252 = 0 then (none) else (if (wrap64 (Int.tdiv (sh R H k r R.length) t252)) = a then ((ephemerisref2_Gcd.f n (sh R H k r R.length) r.2.1).bind fun t253 => (if t253 = 0 then (none) else (some ((wrap64 (Int.tdiv r.2.1 t253)) == d)))) else (some false)))) true := by
        rw [hsh]
        refine ev_bind hend ?_
        refine Ev.congr (fun n => by rw [if_neg gi, hta, hwa, if_pos rfl]) ?_
        refine ev_bind hend (ev_some 0 (fun n => ?_))
        rw [if_neg gi, htd, hwd, beq_self_eq_true]
      have h1 := law_l1 G F hlast k 0 (by omega) 0 rfl
      have h0 := law_l0 G F h1 r.1 r.2.1.natAbs 0 rfl (by omega) (by unfold bd at db; exact db) F.one
      rw [show ((r.2.1.natAbs : Nat) : Int) = r.2.1 by omega] at h0
      have hj : Ev (fun n => (ephemerisref2_Gcd.f n a d).bind fun t249 => ephemerislaw2_GaugeFits.j0 n R H a d (t249 != 1) r.1 r.2.1) true := by
        refine ev_bind hgd ?_
        refine ev_step 1 (fun n => ?_) h0
        show ephemerislaw2_GaugeFits.j0 (n + 1) R H a d false r.1 r.2.1 = _
        rw [ephemerislaw2_GaugeFits.j0, if_neg (by simp), rl]; rfl
      refine body (R := R) (H := H) hF hW hE hC hj (fun n => ?_)
      rw [if_pos rfl, if_pos rfl, if_pos F.e, if_pos (by omega), if_pos (by omega), if_neg (by omega), if_pos rfl, if_neg (show ¬ ((a, d, (0 : Int)) : Int × Int × Int).2.1 < 1 from by show ¬ d < 1; omega)]
  · have hF := fit_err c hC
    have hW := res_err c hF
    refine body (R := R) (H := H) hF hW hE hC (ev_some (r := true) (g := fun _ => some true) 0 (fun n => rfl)) (fun n => ?_)
    rw [if_pos rfl, if_neg c, if_pos rfl, if_pos rfl, if_pos rfl, if_pos rfl, if_pos (show (((([] : List Int), (0 : Int), ge R H).1).length : Int) = 0 from rfl)]
    rfl
end Go.Proofs.Ytjbiebobhnbajaa.Pure
