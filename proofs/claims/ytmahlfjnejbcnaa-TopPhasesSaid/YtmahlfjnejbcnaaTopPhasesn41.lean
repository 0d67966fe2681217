/- phase.Find: the elongation passes the value of the phase within the interval that it tells. -/
import Derived.Test.YtmahlfjnejbcnaaTopPhasesn39
import Derived.Test.YtmahlfjnejbcnaaTopPhasesn40
namespace Go.Proofs.Ytmahlfjnejbcnaa.PhaseT
open Go Go.RowKit YtmahlfjnejbcnaaW.PrintWords YtmahlfjnejbcnaaW.PrintLast YtmahlfjnejbcnaaW.PrintMore Opn PAll Base SinT Over RefT SumsT Vals SkyT MoonT SlpT
set_option linter.unusedVariables false
set_option linter.unusedSimpArgs false
theorem ob_ev {α β : Type} {g : Nat → Option α} {f : Nat → α → Option β} {a : α} {r : β} (h : Ev g a) (k : Ev (fun n => f n a) r) : Ev (fun n => Sx.ob (g n) (f n)) r := by
 refine Ev.congr (fun n => Sx.ob_eq _ _) ?_
 exact ev_bind h k
theorem oif_neg {β : Type} {c : Prop} [inst : Decidable c] {A B : Option β} (h : ¬ c) : Sx.oif c A B = B := by rw [Sx.oif_eq, if_neg h]
theorem iw (x : Int) : IntKind.i64.wrap x = wrap64 x := i64_w x
def sg (al ah g : Int) : Int := if (al - g + 500000000) % 1000000000 - 500000000 > 0 ∧ (al - g + 500000000) % 1000000000 - 500000000 + ah - al < 500000000 then 1 else if (al - g + 500000000) % 1000000000 - 500000000 + ah - al < 0 ∧ (al - g + 500000000) % 1000000000 - 500000000 > -500000000 then -1 else 0
theorem sg_cases (lo hi : Int) (k : Nat) : (if lo > 0 then (if decide (hi < 500000000) = true then some (1 : Int) else (if hi < 0 then (if lo > (-500000000) then (some (-1)) else (some 0)) else (some 0))) else (if false = true then some 1 else (if hi < 0 then (if lo > (-500000000) then (some (-1)) else (some 0)) else (some 0)))) = some (if lo > 0 ∧ hi < 500000000 then 1 else if hi < 0 ∧ lo > -500000000 then -1 else 0) := by
 by_cases c1 : lo > 0
 ·by_cases c2 : hi < 500000000
  ·simp [c1, c2]
  ·have : ¬ hi < 0 := by omega
   simp [c1, c2, this]
 ·by_cases c3 : hi < 0
  ·by_cases c4 : lo > -500000000
   ·simp [c1, c3, c4]
   ·simp [c1, c3, c4]
  ·simp [c1, c3]
theorem after_ev {al ah g : Int} (a0 : 0 ≤ al) (a1 : al < 1000000000) (h0 : al ≤ ah) (h1 : ah ≤ al + 1000000000) (g0 : 0 ≤ g) (g1 : g < 1000000000) : Ev (fun k => series_After.f k al ah g) (sg al ah g) :=
 ev_some 1 fun k => by
  unfold series_After.f sg
  have e1 : al - g - (al - g + 500000000) / 1000000000 * 1000000000 = (al - g + 500000000) % 1000000000 - 500000000 := by omega
  have e2 : ah - g - (al - g + 500000000) / 1000000000 * 1000000000 = (al - g + 500000000) % 1000000000 - 500000000 + ah - al := by omega
  rw [w64 (x := al - g) (by omega) (by omega), w64 (x := al - g + 500000000) (by omega) (by omega), floor_pos (by omega) (by omega), Option.bind_some, w64 (x := (al - g + 500000000) / 1000000000 * 1000000000) (by omega) (by omega), w64 (x := al - g - (al - g + 500000000) / 1000000000 * 1000000000) (by omega) (by omega), w64 (x := ah - g) (by omega) (by omega), w64 (x := ah - g - (al - g + 500000000) / 1000000000 * 1000000000) (by omega) (by omega), e1, e2]
  generalize (al - g + 500000000) % 1000000000 - 500000000 = lo at *
  rw [series_After.j0, series_After.j0]
  exact sg_cases lo (lo + ah - al) k
theorem sg_X {al ah g L z E x : Int} (hx : x = E - (L * 1000000000 + g) * 1048576) (x1 : -100000000 * 1048576 ≤ x) (x2 : x ≤ 100000000 * 1048576) (a3 : ah - al ≤ 44018) (a4 : al + 44000 ≤ ah)
  (z1 : al * 1048576 + 22000 * 1048576 ≤ E + z * 1048576000000000 + 320) (z2 : E + z * 1048576000000000 + 22000 * 1048576 ≤ ah * 1048576 + 320) :
  (sg al ah g < 0 → x + 22000 * 1048576 ≤ -1048576 + 320) ∧ (¬ sg al ah g < 0 → -(22018 * 1048576 + 320) ≤ x) ∧ (sg al ah g > 0 → 1048576 + 22000 * 1048576 - 320 ≤ x) ∧ (¬ sg al ah g > 0 → x ≤ 22018 * 1048576 + 320) := by
 have e : (al - g + 500000000) % 1000000000 - 500000000 = al - g - (L + z) * 1000000000 := by omega
 unfold sg
 rw [e]
 by_cases c1 : al - g - (L + z) * 1000000000 > 0 ∧ al - g - (L + z) * 1000000000 + ah - al < 500000000
 ·rw [if_pos c1]
  refine ⟨fun h => by omega, fun _ => by omega, fun _ => by omega, fun h => by omega⟩
 ·rw [if_neg c1]
  by_cases c2 : al - g - (L + z) * 1000000000 + ah - al < 0 ∧ al - g - (L + z) * 1000000000 > -500000000
  ·rw [if_pos c2]
   refine ⟨fun _ => by omega, fun h => by omega, fun h => by omega, fun _ => by omega⟩
  ·rw [if_neg c2]
   refine ⟨fun h => by omega, fun _ => by omega, fun h => by omega, fun _ => by omega⟩
def md (L q : Int) : Int := 977949455 + 2551442878 * L + 637860719 * q
theorem X_small {L q t dm ds : Int} (h : it t = 0) (hm : Dp mL t dm) (hs : Dp sL t ds) (l1 : -100001 ≤ L) (l2 : L ≤ 100001) (q1 : 0 ≤ q) (q2 : q ≤ 3) (t1 : md L q - 172800000 ≤ t) (t2 : t ≤ md L q + 172800000) : -100000000 * 1048576 ≤ X L q t dm ds ∧ X L q t dm ds ≤ 100000000 * 1048576 := by
 obtain ⟨a, b⟩ := X_near h hm hs l1 l2 q1 q2
 unfold md at t1 t2
 generalize X L q t dm ds = x at *
 omega
theorem md_valid {L q t : Int} (l1 : -100001 ≤ L) (l2 : L ≤ 100001) (q1 : 0 ≤ q) (q2 : q ≤ 3) (t1 : md L q - 172800000 ≤ t) (t2 : t ≤ md L q + 172800000) : it t = 0 := by
 unfold md at t1 t2
 exact if_pos ⟨by omega, by omega⟩
def Tells (L q t v : Int) : Prop := ∃ dm ds, Dp mL t dm ∧ Dp sL t ds ∧ (v < 0 → X L q t dm ds + 22000 * 1048576 ≤ -1048576 + 320) ∧ (¬ v < 0 → -(22018 * 1048576 + 320) ≤ X L q t dm ds) ∧ (v > 0 → 1048576 + 22000 * 1048576 - 320 ≤ X L q t dm ds) ∧ (¬ v > 0 → X L q t dm ds ≤ 22018 * 1048576 + 320) ∧ Ev (fun k => phase_Sign.f k q t) v
theorem sign_ev {L q t : Int} (l1 : -100001 ≤ L) (l2 : L ≤ 100001) (q1 : 0 ≤ q) (q2 : q ≤ 3) (t1 : md L q - 172800000 ≤ t) (t2 : t ≤ md L q + 172800000) : ∃ v, Ev (fun k => phase_Sign.f k q t) v ∧ Tells L q t v := by
 have h := md_valid l1 l2 q1 q2 t1 t2
 obtain ⟨dm, _, _, hm⟩ := mL_ex h
 obtain ⟨ds, _, _, hs⟩ := sL_ex h
 obtain ⟨x1, x2⟩ := X_small h hm hs l1 l2 q1 q2 t1 t2
 obtain ⟨al, ah, e1, a0, a1, a2, a3, z, z1, z2⟩ := elong_md h hm hs
 have e2 := after_ev (al := al) (ah := ah) (g := q * 250000000) a0 a1 (by omega) (by omega) (by omega) (by omega)
 obtain ⟨f1, f2, f3, f4⟩ := sg_X (g := q * 250000000) (x := X L q t dm ds) (E := Wm t dm - Ws t ds) (L := L) rfl x1 x2 a2 a3 z1 z2
 have es : Ev (fun k => phase_Sign.f k q t) (sg al ah (q * 250000000)) := by
  unfold phase_Sign.f
  refine ev_bind e1 ?_
  refine Ev.congr (fun k => if_pos rfl) ?_
  rw [w64 (x := q * 250000000) (by omega) (by omega)]
  exact ev_bind e2 (ev_some 0 fun k => rfl)
 exact ⟨sg al ah (q * 250000000), es, dm, ds, hm, hs, f1, f2, f3, f4, es⟩
theorem zone {L q a b v w : Int} (l1 : -100001 ≤ L) (l2 : L ≤ 100001) (q1 : 0 ≤ q) (q2 : q ≤ 3) (a1 : md L q - 172800000 ≤ a) (a2 : a ≤ md L q + 172800000) (b1 : md L q - 172800000 ≤ b) (b2 : b ≤ md L q + 172800000)
  (ha : Tells L q a v) (hb : Tells L q b w) (hv : ¬ v < 0) (hw : ¬ w > 0) : b - a ≤ 140000 := by
 by_cases le : a ≤ b
 ·obtain ⟨dm, ds, hm, hs, _, f1, _, _⟩ := ha
  obtain ⟨dm', ds', hm', hs', _, _, _, f2, _⟩ := hb
  have s := X_slope (L := L) (q := q) (md_valid l1 l2 q1 q2 a1 a2) (md_valid l1 l2 q1 q2 b1 b2) le hm hs hm' hs'
  have g1 := f1 hv
  have g2 := f2 hw
  generalize X L q a dm ds = x at *
  generalize X L q b dm' ds' = y at *
  omega
 ·omega
theorem first_sign {L q t v : Int} (l1 : -100001 ≤ L) (l2 : L ≤ 100001) (q1 : 0 ≤ q) (q2 : q ≤ 3) (t1 : md L q - 172800000 ≤ t) (t2 : t ≤ md L q - 172000000) (h : Tells L q t v) : v < 0 := by
 obtain ⟨dm, ds, hm, hs, _, f, _, _⟩ := h
 obtain ⟨a, b⟩ := X_near (md_valid l1 l2 q1 q2 t1 (by omega)) hm hs l1 l2 q1 q2
 by_cases c : v < 0
 ·exact c
 ·have := f c
  unfold md at t1 t2
  generalize X L q t dm ds = x at *
  omega
theorem last_sign {L q t v : Int} (l1 : -100001 ≤ L) (l2 : L ≤ 100001) (q1 : 0 ≤ q) (q2 : q ≤ 3) (t1 : md L q + 172000000 ≤ t) (t2 : t ≤ md L q + 172800000) (h : Tells L q t v) : v > 0 := by
 obtain ⟨dm, ds, hm, hs, _, _, _, f, _⟩ := h
 obtain ⟨a, b⟩ := X_near (md_valid l1 l2 q1 q2 (by omega) t2) hm hs l1 l2 q1 q2
 by_cases c : v > 0
 ·exact c
 ·have := f c
  unfold md at t1 t2
  generalize X L q t dm ds = x at *
  omega
theorem find_ev {L q : Int} (l1 : -100000 ≤ L) (l2 : L ≤ 100000) (q1 : 0 ≤ q) (q2 : q ≤ 3) : ∃ x y v w, Ev (fun k => phase_Find.f k L q) (x, y, 0) ∧ md L q - 172800000 < x ∧ x ≤ y ∧ y < md L q + 172800000 ∧ y - x ≤ 600000 ∧ Tells L q x v ∧ v < 0 ∧ Tells L q y w ∧ 0 < w := by
 have m1 : -256000000000000 ≤ md L q ∧ md L q ≤ 256000000000000 := by unfold md; omega
 have ex : ∀ t, ∃ v, md L q - 172800000 ≤ t → t ≤ md L q + 172800000 → Ev (fun k => phase_Sign.f k q t) v ∧ Tells L q t v := by
  intro t
  by_cases c : md L q - 172800000 ≤ t ∧ t ≤ md L q + 172800000
  ·obtain ⟨v, h⟩ := sign_ev (L := L) (q := q) (t := t) (by omega) (by omega) q1 q2 c.1 c.2
   exact ⟨v, fun _ _ => h⟩
  ·exact ⟨0, fun a b => absurd ⟨a, b⟩ c⟩
 obtain ⟨σ, hσ⟩ := Classical.axiomOfChoice ex
 have s1 := hσ (md L q - 172800000) (by omega) (by omega)
 have s2 := hσ (md L q + 172800000) (by omega) (by omega)
 have n1 := first_sign (L := L) (q := q) (by omega) (by omega) q1 q2 (by omega) (by omega) s1.2
 have n2 := last_sign (L := L) (q := q) (by omega) (by omega) q1 q2 (by omega) (by omega) s2.2
 obtain ⟨x, y, en, g1, g2, g3, g4, g5, g6⟩ := NarF.nar_ok (s := fun k t => Sx.ob (phase_Sign.f k q t) fun z => some z) (σ := σ) (A0 := md L q - 172800000) (B0 := md L q + 172800000) (wd := 600000) (Z := 140000) (a := md L q - 172800000) (b := md L q + 172800000) (by omega) (by omega) (fun t h1 h2 => ob_ev (hσ t h1 h2).1 (ev_some 0 fun k => rfl)) (by omega) (by omega) (by omega) (by omega) n1 n2 (by omega)
  (fun a b a1 a2 b1 b2 hv hw => zone (L := L) (q := q) (by omega) (by omega) q1 q2 a1 a2 b1 b2 (hσ a a1 a2).2 (hσ b b1 b2).2 hv hw)
 have tx := (hσ x g1 (by omega)).2
 have ty := (hσ y (by omega) g3).2
 have x1 : md L q - 172800000 < x := by
  rcases Int.lt_or_le (md L q - 172800000) x with h | h
  ·exact h
  ·have := first_sign (L := L) (q := q) (by omega) (by omega) q1 q2 (by omega) (by omega) ty
   omega
 have y1 : y < md L q + 172800000 := by
  rcases Int.lt_or_le y (md L q + 172800000) with h | h
  ·exact h
  ·have := last_sign (L := L) (q := q) (by omega) (by omega) q1 q2 (by omega) (by omega) tx
   omega
 refine ⟨x, y, σ x, σ y, ?_, x1, g2, y1, g4, tx, g5, ty, g6⟩
 have w1 : IntKind.i64.wrap (IntKind.i64.wrap (977949455 + IntKind.i64.wrap (L * 2551442878)) + IntKind.i64.wrap (q * 637860719)) = md L q := by
  unfold md
  simp only [iw]
  rw [w64 (x := L * 2551442878) (by omega) (by omega), w64 (x := q * 637860719) (by omega) (by omega), w64 (x := 977949455 + L * 2551442878) (by omega) (by omega), w64 (by omega) (by omega)]
  omega
 have w2 : IntKind.i64.wrap (md L q - 172800000) = md L q - 172800000 := by rw [iw, w64 (by omega) (by omega)]
 have w3 : IntKind.i64.wrap (md L q + 172800000) = md L q + 172800000 := by rw [iw, w64 (by omega) (by omega)]
 unfold phase_Find.f
 rw [w1, w2, w3]
 refine Ev.congr (fun k => (oif_neg (by simp; omega)).trans ((oif_neg (by simp; omega)).trans ((oif_neg (by simp; omega)).trans (oif_neg (by simp; omega))))) ?_
 refine ob_ev s1.1 ?_
 refine Ev.congr (fun k => oif_neg (by simp; omega)) ?_
 refine ob_ev s2.1 ?_
 refine Ev.congr (fun k => oif_neg (by simp; omega)) ?_
 exact ob_ev en (ev_some 0 fun k => rfl)
end Go.Proofs.Ytmahlfjnejbcnaa.PhaseT
