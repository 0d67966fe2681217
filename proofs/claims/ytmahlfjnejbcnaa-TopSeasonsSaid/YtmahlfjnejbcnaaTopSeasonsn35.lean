/- phase.Find: the elongation passes the value of the phase within the interval that it tells. -/
import Derived.Test.YtmahlfjnejbcnaaTopSeasonsn34
namespace Go.Proofs.Ytmahlfjnejbcnaa.PhaseT
open Go Go.RowKit YtmahlfjnejbcnaaW.PrintWords YtmahlfjnejbcnaaW.PrintLast YtmahlfjnejbcnaaW.PrintMore Opn PAll Base SinT Over RefT SumsT Vals SlpT
set_option linter.unusedVariables false
set_option linter.unusedSimpArgs false
theorem ob_ev {α β : Type} {g : Nat → Option α} {f : Nat → α → Option β} {a : α} {r : β} (h : Ev g a) (k : Ev (fun n => f n a) r) : Ev (fun n => Sx.ob (g n) (f n)) r := by
 refine Ev.congr (fun n => Sx.ob_eq _ _) ?_
 exact ev_bind h k
theorem oif_pos {β : Type} {c : Prop} [inst : Decidable c] {A B : Option β} (h : c) : Sx.oif c A B = A := by rw [Sx.oif_eq, if_pos h]
theorem oif_neg {β : Type} {c : Prop} [inst : Decidable c] {A B : Option β} (h : ¬ c) : Sx.oif c A B = B := by rw [Sx.oif_eq, if_neg h]
theorem bne0 {x : Int} (h : x = 0) : ¬ (x != 0) = true := by simp [h]
theorem bne1 {x : Int} (h : x ≠ 0) : (x != 0) = true := by simp [h]
theorem iw (x : Int) : IntKind.i64.wrap x = wrap64 x := i64_w x
def sg (al ah g : Int) : Int := if (al - g + 500000000) % 1000000000 - 500000000 > 0 ∧ (al - g + 500000000) % 1000000000 - 500000000 + ah - al < 500000000 then 1 else if (al - g + 500000000) % 1000000000 - 500000000 + ah - al < 0 ∧ (al - g + 500000000) % 1000000000 - 500000000 > -500000000 then -1 else 0
theorem sg_cases (lo hi : Int) (k : Nat) : (if lo > 0 then (if decide (hi < 500000000) = true then some (1 : Int) else (if hi < 0 then (if lo > (-500000000) then (some (-1)) else (some 0)) else (some 0))) else (if false = true then some 1 else (if hi < 0 then (if lo > (-500000000) then (some (-1)) else (some 0)) else (some 0)))) = some (if lo > 0 ∧ hi < 500000000 then 1 else if hi < 0 ∧ lo > -500000000 then -1 else 0) := by
 by_cases c1 : lo > 0
 ·by_cases c2 : hi < 500000000
  ·simp [c1, c2]
  ·have : ¬ hi < 0 := by omega
   simp [c1, c2, this]
 ·by_cases c3 : hi < 0
  ·by_cases c4 : lo > -500000000
   ·simp [c1, c3, c4]
   ·simp [c1, c3, c4]
  ·simp [c1, c3]
theorem after_ev {al ah g : Int} (a0 : 0 ≤ al) (a1 : al < 1000000000) (h0 : al ≤ ah) (h1 : ah ≤ al + 1000000000) (g0 : 0 ≤ g) (g1 : g < 1000000000) : Ev (fun k => series_After.f k al ah g) (sg al ah g) :=
 ev_some 1 fun k => by
  unfold series_After.f sg
  have e1 : al - g - (al - g + 500000000) / 1000000000 * 1000000000 = (al - g + 500000000) % 1000000000 - 500000000 := by omega
  have e2 : ah - g - (al - g + 500000000) / 1000000000 * 1000000000 = (al - g + 500000000) % 1000000000 - 500000000 + ah - al := by omega
  rw [w64 (x := al - g) (by omega) (by omega), w64 (x := al - g + 500000000) (by omega) (by omega), floor_pos (by omega) (by omega), Option.bind_some, w64 (x := (al - g + 500000000) / 1000000000 * 1000000000) (by omega) (by omega), w64 (x := al - g - (al - g + 500000000) / 1000000000 * 1000000000) (by omega) (by omega), w64 (x := ah - g) (by omega) (by omega), w64 (x := ah - g - (al - g + 500000000) / 1000000000 * 1000000000) (by omega) (by omega), e1, e2]
  generalize (al - g + 500000000) % 1000000000 - 500000000 = lo at *
  rw [series_After.j0, series_After.j0]
  exact sg_cases lo (lo + ah - al) k
def md (L q : Int) : Int := 977949455 + 2551442878 * L + 637860719 * q
theorem md_valid {L q t : Int} (l1 : -100001 ≤ L) (l2 : L ≤ 100001) (q1 : 0 ≤ q) (q2 : q ≤ 3) (t1 : md L q - 172800000 ≤ t) (t2 : t ≤ md L q + 172800000) : it t = 0 := by
 unfold md at t1 t2
 exact if_pos ⟨by omega, by omega⟩
def Tells (L q t v : Int) : Prop := ∃ dm ds, Dp mL t dm ∧ Dp sL t ds ∧ (v < 0 → X L q t dm ds + 22000 * 1048576 ≤ -1048576 + 320) ∧ (¬ v < 0 → -(22018 * 1048576 + 320) ≤ X L q t dm ds) ∧ (v > 0 → 1048576 + 22000 * 1048576 - 320 ≤ X L q t dm ds) ∧ (¬ v > 0 → X L q t dm ds ≤ 22018 * 1048576 + 320) ∧ Ev (fun k => phase_Sign.f k q t) v
theorem zone {L q a b v w : Int} (l1 : -100001 ≤ L) (l2 : L ≤ 100001) (q1 : 0 ≤ q) (q2 : q ≤ 3) (a1 : md L q - 172800000 ≤ a) (a2 : a ≤ md L q + 172800000) (b1 : md L q - 172800000 ≤ b) (b2 : b ≤ md L q + 172800000)
  (ha : Tells L q a v) (hb : Tells L q b w) (hv : ¬ v < 0) (hw : ¬ w > 0) : b - a ≤ 140000 := by
 by_cases le : a ≤ b
 ·obtain ⟨dm, ds, hm, hs, _, f1, _, _⟩ := ha
  obtain ⟨dm', ds', hm', hs', _, _, _, f2, _⟩ := hb
  have s := X_slope (L := L) (q := q) (md_valid l1 l2 q1 q2 a1 a2) (md_valid l1 l2 q1 q2 b1 b2) le hm hs hm' hs'
  have g1 := f1 hv
  have g2 := f2 hw
  generalize X L q a dm ds = x at *
  generalize X L q b dm' ds' = y at *
  omega
 ·omega
end Go.Proofs.Ytmahlfjnejbcnaa.PhaseT
