/- sharpen.Season, sharpen.Phase and sharpen.Earlier. -/
import Derived.Test.YtmahlfjnejbcnaaSharpenPhasesn46
import Derived.Test.YtmahlfjnejbcnaaSharpenPhasesn47
import Derived.Test.YtmahlfjnejbcnaaSharpenPhasesn48
namespace Go.Proofs.Ytmahlfjnejbcnaa.SharpT
open Go Go.RowKit YtmahlfjnejbcnaaW.PrintWords YtmahlfjnejbcnaaW.PrintLast YtmahlfjnejbcnaaW.PrintMore Opn PAll Base SinT Over RefT Units SumsT Vals SkyT AmpT SlpT PhaseT SunT
set_option linter.unusedVariables false
set_option linter.unusedSimpArgs false
theorem sharpen_works : Ev (fun k => ephemerislaw2_sharpenWorks.f k) true := Ev.of ephemerislaw2_sharpenWorks.mono (k := 100) (by decide +kernel)
theorem sharp_phase {L q wd a b v u : Int} (hf : Ev (fun k => phase_Find.f k L q) (a, b, 0)) (l1 : -100000 ≤ L) (l2 : L ≤ 100000) (q1 : 0 ≤ q) (q2 : q ≤ 3) (a1 : md L q - 172800000 ≤ a) (b1 : b ≤ md L q + 172800000) (hab : a ≤ b) (ta : Tells L q a v) (v0 : v < 0) (tb : Tells L q b u) (u0 : 0 < u) (hw : 1 ≤ wd) :
  ∃ x w e, Ev (fun k => sharpen_Phase.f k L q wd) (x, w, e) ∧ (e = 0 ∧ a ≤ x ∧ x ≤ w ∧ w ≤ b ∧ w - x ≤ wd ∧ (∃ v, Tells L q x v ∧ v < 0) ∧ (∃ u, Tells L q w u ∧ 0 < u) ∨ e = 11 ∧ x = 0 ∧ w = 0 ∧ wd < 140002) ∧ (b - a ≤ wd → x = a ∧ w = b ∧ e = 0) := by
 have mb : -256000000000000 ≤ md L q ∧ md L q ≤ 256000000000000 := by unfold md; omega
 have go : ∀ r : Int × Int × Int, Ev (fun k => Nar43.f (fun p2 => Sx.ob (phase_Sign.f k q p2) fun t3 => some t3) k a b wd) r → Ev (fun k => sharpen_Phase.f k L q wd) r := by
  intro r hr
  unfold sharpen_Phase.f
  refine ob_ev hf ?_
  refine Ev.congr (fun k => (oif_neg (bne0 rfl)).trans (oif_neg (by simp; omega))) ?_
  exact ob_ev hr (ev_some 0 fun k => rfl)
 by_cases ci : b - a ≤ wd
 ·exact ⟨a, b, 0, go _ (NarP.nar_id (s := fun k p2 => Sx.ob (phase_Sign.f k q p2) fun t3 => some t3) hab (by omega) (by omega) ci), .inl ⟨rfl, by omega, hab, by omega, ci, ⟨v, ta, v0⟩, ⟨u, tb, u0⟩⟩, fun _ => ⟨rfl, rfl, rfl⟩⟩
 have ex : ∀ t, ∃ v, a ≤ t → t ≤ b → Ev (fun k => Sx.ob (phase_Sign.f k q t) fun z => some z) v ∧ Tells L q t v := by
  intro t
  by_cases c : a ≤ t ∧ t ≤ b
  ·obtain ⟨v, h1, h2⟩ := sign_ev (L := L) (q := q) (t := t) (by omega) (by omega) q1 q2 (by omega) (by omega)
   exact ⟨v, fun _ _ => ⟨ob_ev h1 (ev_some 0 fun k => rfl), h2⟩⟩
  ·exact ⟨0, fun a b => absurd ⟨a, b⟩ c⟩
 obtain ⟨σ, hσ⟩ := Classical.axiomOfChoice ex
 obtain ⟨_, _, _, _, _, _, _, _, sa⟩ := ta
 obtain ⟨_, _, _, _, _, _, _, _, sb⟩ := tb
 have n1 : σ a < 0 := by rw [ev_uniq (hσ a (by omega) hab).1 (ob_ev sa (ev_some 0 fun k => rfl))]; exact v0
 have n2 : 0 < σ b := by rw [ev_uniq (hσ b hab (by omega)).1 (ob_ev sb (ev_some 0 fun k => rfl))]; exact u0
 obtain ⟨x, w, e, en, hen⟩ := NarP.nar_any (s := fun k t => Sx.ob (phase_Sign.f k q t) fun z => some z) (σ := σ) (A0 := a) (B0 := b) (wd := wd) (Z := 140000) (a := a) (b := b) (by omega) (by omega) (fun t h1 h2 => (hσ t h1 h2).1) hw hab (by omega) (by omega) n1 n2
  (fun c d c1 c2 d1 d2 hv hw => zone (L := L) (q := q) (by omega) (by omega) q1 q2 (by omega) (by omega) (by omega) (by omega) (hσ c c1 c2).2 (hσ d d1 d2).2 hv hw)
 refine ⟨x, w, e, go _ en, ?_, fun h => absurd h ci⟩
 rcases hen with ⟨rfl, g1, g2, g3, g4, g5, g6⟩ | ⟨rfl, rfl, rfl, g⟩
 ·exact .inl ⟨rfl, g1, g2, g3, g4, ⟨_, (hσ x g1 (by omega)).2, g5⟩, ⟨_, (hσ w (by omega) g3).2, g6⟩⟩
 ·exact .inr ⟨rfl, rfl, rfl, by omega⟩
theorem sharp_phase_err {L q wd x w e : Int} (hf : Ev (fun k => phase_Find.f k L q) (x, w, e)) (he : e ≠ 0) : Ev (fun k => sharpen_Phase.f k L q wd) (0, 0, e) := by
 unfold sharpen_Phase.f
 exact ob_ev hf (ev_some 0 fun k => oif_pos (bne1 he))
theorem sharp_phase_arg {L q wd x w : Int} (hf : Ev (fun k => phase_Find.f k L q) (x, w, 0)) (hw : wd < 1) : Ev (fun k => sharpen_Phase.f k L q wd) (0, 0, 1) := by
 unfold sharpen_Phase.f
 exact ob_ev hf (ev_some 0 fun k => (oif_neg (bne0 rfl)).trans (oif_pos (by simpa using hw)))
theorem ahead_at {L q x d e W V i j : Int} (hx : x = W - V - (L * 1000000000 + q * 250000000) * 1048576) (x1 : -100000000 * 1048576 ≤ x) (x2 : x ≤ 100000000 * 1048576) (i1 : -8 ≤ i) (i2 : i ≤ 8) (j1 : -8 ≤ j) (j2 : j ≤ 8) (q1 : 0 ≤ q) (q2 : q ≤ 3)
  (hd : d = (W + 2500 * i * 1048576) % 1048576000000000) (he : e = (V + 250 * j * 1048576) % 1048576000000000) : ephemerislaw2_ahead.f (wrap64 (d - e)) (wrap64 ((wrap64 (q * 250000000)) * 1048576)) = some (x + 2500 * i * 1048576 - 250 * j * 1048576) := by
 unfold ephemerislaw2_ahead.f
 rw [w64 (x := d - e) (by omega) (by omega), w64 (x := q * 250000000) (by omega) (by omega), w64 (x := q * 250000000 * 1048576) (by omega) (by omega), w64 (x := d - e - q * 250000000 * 1048576) (by omega) (by omega), w64 (x := d - e - q * 250000000 * 1048576 + 524288000000000) (by omega) (by omega), mod_pos (by omega) (by omega), Option.bind_some, w64 (by omega) (by omega)]
 congr 1
 omega
theorem pfind_any (L q : Int) : (∃ e, e ≠ 0 ∧ Ev (fun k => phase_Find.f k L q) (0, 0, e)) ∨ (-100000 ≤ L ∧ L ≤ 100000 ∧ 0 ≤ q ∧ q ≤ 3 ∧ ∃ x y v w, Ev (fun k => phase_Find.f k L q) (x, y, 0) ∧ md L q - 172800000 < x ∧ x ≤ y ∧ y < md L q + 172800000 ∧ y - x ≤ 600000 ∧ Tells L q x v ∧ v < 0 ∧ Tells L q y w ∧ 0 < w) := by
 by_cases cq : q < 0 ∨ 3 < q
 ·exact .inl ⟨1, by decide, find_arg cq⟩
 by_cases cL : L < -100000 ∨ 100000 < L
 ·exact .inl ⟨3, by decide, find_range (by omega) (by omega) cL⟩
 obtain ⟨x, y, v, w, h⟩ := find_ev (L := L) (q := q) (by omega) (by omega) (by omega) (by omega)
 exact .inr ⟨by omega, by omega, by omega, by omega, x, y, v, w, h⟩
end Go.Proofs.Ytmahlfjnejbcnaa.SharpT
