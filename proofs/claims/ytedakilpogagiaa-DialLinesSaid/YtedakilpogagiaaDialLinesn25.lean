/- SinOver and CosOver: what they tell holds the sines of all arguments of an interval, and is narrow. -/
import Derived.Test.YtedakilpogagiaaDialLinesn9
import Derived.Test.YtedakilpogagiaaChecked
import Derived.Test.YtedakilpogagiaaDialLinesn24
namespace Go.Proofs.Ytedakilpogagiaa.Over
open Go.RowKit Go.Proofs.YtedakilpogagiaaW.PrintWords Go.Proofs.YtedakilpogagiaaW.PrintLast Go.Proofs.Ytedakilpogagiaa.Opn Go.Proofs.Ytedakilpogagiaa.PAll Go.Proofs.Ytedakilpogagiaa.Base Go.Proofs.Ytedakilpogagiaa.Turn Go.Proofs.Ytedakilpogagiaa.Fix Go.Proofs.Ytedakilpogagiaa.Oct Go.Proofs.Ytedakilpogagiaa.OctT Go.Proofs.Ytedakilpogagiaa.SinT Go.Proofs.Ytedakilpogagiaa.RefT Go.Proofs.Ytedakilpogagiaa.Circ
set_option linter.unusedVariables false
set_option linter.unusedSimpArgs false
def sp (a b : Int) : Int := if a < -1000000000000000000 ∨ a > 1000000000000000000 ∨ b < -1000000000000000000 ∨ b > 1000000000000000000 then 3 else if b < a then 9 else 0
theorem sp_zero {a b : Int} (h : sp a b = 0) : -1000000000000000000 ≤ a ∧ a ≤ b ∧ b ≤ 1000000000000000000 := by
 unfold sp at h
 split at h
 ·cases h
 ·split at h
  ·cases h
  ·omega
theorem interval_Check_at (k : Nat) (a b : Int) : interval_Check.f (k + 1) a b = some (sp a b) := by
 unfold interval_Check.f interval_out.f sp
 by_cases c1 : a < -1000000000000000000
 ·simp [c1, interval_Check.j0]
 by_cases c2 : a > 1000000000000000000
 ·simp [c1, c2, interval_Check.j0]
 by_cases c3 : b < -1000000000000000000
 ·simp [c1, c2, c3, interval_Check.j0]
 by_cases c4 : b > 1000000000000000000
 ·simp [c1, c2, c3, c4, interval_Check.j0]
 by_cases c5 : b < a
 ·simp [c1, c2, c3, c4, c5, interval_Check.j0]
 ·simp [c1, c2, c3, c4, c5, interval_Check.j0]
theorem interval_Check_ev (a b : Int) : Ev (fun k => interval_Check.f k a b) (sp a b) := ev_some 1 fun k => interval_Check_at k a b
theorem obv_ {α β : Type} {g : Nat → Option α} {f : Nat → α → Option β} {a : α} {r : β} (h : Ev g a) (k : Ev (fun n => f n a) r) : Ev (fun n => Sx.ob (g n) (f n)) r := by
 refine Ev.congr (fun n => Sx.ob_eq _ _) ?_
 exact ev_bind h k
theorem S_st (a : Int) : S (a * 1000000) = sinT (st (a % 1000000000)) := by
 unfold S
 rw [show a * 1000000 % 1000000000000000 = a % 1000000000 * 1000000 by omega]
 unfold ag st
 rw [show (a % 1000000000 * 1000000).toNat = (a % 1000000000).toNat * 1000000 by omega, Nat.mul_assoc]
theorem sin_ev {a : Int} (h0 : -1000000000000000000 ≤ a) (h1 : a ≤ 1000000000000000000) : ∃ l h : Int, Ev (fun k => trig_Sin.f k a) (mx (-1000000000) l, mn 1000000000 h, 0) ∧ Box l h (S (a * 1000000)) := by
 obtain ⟨l, h, e, b⟩ := sin_tells h0 h1
 rw [← S_st] at b
 exact ⟨l, h, ev_some 10 e, b⟩
def Box' (l h : Int) (w : Rat) : Prop := h - l = 3 ∧ (l : Rat) ≤ 1000000000 * w - 999998 / 1000000 ∧ 1000000000 * w + 999998 / 1000000 ≤ (h : Rat)
theorem box_less {l h : Int} {w : Rat} (b : Box l h w) : Box' l h w := by
 obtain ⟨b1, b2, b3⟩ := b
 exact ⟨b1, by grind, by grind⟩
theorem cos_ev {a : Int} (h0 : -1000000000000000000 ≤ a) (h1 : a ≤ 1000000000000000000) : ∃ l h : Int, Ev (fun k => trig_Cos.f k a) (mx (-1000000000) l, mn 1000000000 h, 0) ∧ Box' l h (C (a * 1000000)) := by
 obtain ⟨l, h, e, b⟩ := cos_tells h0 h1
 rw [← S_st, show (a + 250000000) * 1000000 = a * 1000000 + 250000000000000 by omega] at b
 refine ⟨l, h, ev_some 10 e, ?_⟩
 obtain ⟨b1, b2, b3⟩ := b
 obtain ⟨⟨q1, q2⟩, _⟩ := quarter_at (a * 1000000)
 generalize S (a * 1000000 + 250000000000000) = x at *
 generalize C (a * 1000000) = y at *
 clear e h0 h1
 exact ⟨b1, by grind, by grind⟩
theorem mxl {a b : Int} : a ≤ mx a b ∧ b ≤ mx a b := by unfold mx; split <;> omega
theorem mnl {a b : Int} : mn a b ≤ a ∧ mn a b ≤ b := by unfold mn; split <;> omega
theorem mx_or (a b : Int) : mx a b = a ∨ mx a b = b := by unfold mx; split <;> simp
theorem mn_or (a b : Int) : mn a b = a ∨ mn a b = b := by unfold mn; split <;> simp
theorem hi_of {l h : Int} {w v : Rat} (b : Box' l h w) (d : v ≤ w + 1 / 100000000000000000) (hv : v ≤ 1) : 1000000000 * v ≤ ((mn 1000000000 h : Int) : Rat) := by
 obtain ⟨b1, b2, b3⟩ := b
 rcases mn_or 1000000000 h with e | e <;> rw [e]
 ·have : ((1000000000 : Int) : Rat) = 1000000000 := rfl
  rw [this]; grind
 ·grind
theorem lo_of {l h : Int} {w v : Rat} (b : Box' l h w) (d : w ≤ v + 1 / 100000000000000000) (hv : -1 ≤ v) : ((mx (-1000000000) l : Int) : Rat) ≤ 1000000000 * v := by
 obtain ⟨b1, b2, b3⟩ := b
 rcases mx_or (-1000000000) l with e | e <;> rw [e]
 ·have : ((-1000000000 : Int) : Rat) = -1000000000 := rfl
  rw [this]; grind
 ·grind
theorem sp_zero' {a b : Int} (h0 : -1000000000000000000 ≤ a) (h1 : a ≤ b) (h2 : b ≤ 1000000000000000000) : sp a b = 0 := by unfold sp; rw [if_neg (by omega), if_neg (by omega)]
theorem ends_of (lo hi : Int) : Nr (S (hi * 1000000) - S (lo * 1000000)) (kap * (((hi - lo) * 1000000 : Int) : Rat) + 1 / 10000000000000000000) ∨ hi < lo := by
 rcases Int.lt_or_le hi lo with c | c
 ·right; exact c
 ·left
  have LIP := S_lip (a := lo * 1000000) (b := hi * 1000000) (by omega)
  rwa [show hi * 1000000 - lo * 1000000 = (hi - lo) * 1000000 by omega] at LIP
end Go.Proofs.Ytedakilpogagiaa.Over
