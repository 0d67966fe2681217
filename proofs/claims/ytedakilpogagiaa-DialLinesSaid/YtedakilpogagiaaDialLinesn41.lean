/- Equator of the sun's package: its boxes hold the real direction. -/
import Derived.Test.YtedakilpogagiaaDialLinesn32
import Derived.Test.YtedakilpogagiaaDialLinesn40
namespace Go.Proofs.Ytedakilpogagiaa.EqT
open Go Go.RowKit Go.Proofs.YtedakilpogagiaaW.PrintWords Go.Proofs.YtedakilpogagiaaW.PrintLast Go.Proofs.YtedakilpogagiaaW.PrintMore Go.Proofs.Ytedakilpogagiaa.PAll Go.Proofs.Ytedakilpogagiaa.Base Go.Proofs.Ytedakilpogagiaa.Turn Go.Proofs.Ytedakilpogagiaa.Fix Go.Proofs.Ytedakilpogagiaa.OctT Go.Proofs.Ytedakilpogagiaa.SinT Go.Proofs.Ytedakilpogagiaa.RefT Go.Proofs.Ytedakilpogagiaa.Circ Go.Proofs.Ytedakilpogagiaa.Over Go.Proofs.Ytedakilpogagiaa.Units Go.Proofs.Ytedakilpogagiaa.Args Go.Proofs.Ytedakilpogagiaa.Vals Go.Proofs.Ytedakilpogagiaa.MulT Go.Proofs.Ytedakilpogagiaa.UnitT Go.Proofs.Ytedakilpogagiaa.Cone Go.Proofs.Ytedakilpogagiaa.Arcs Go.Proofs.Ytedakilpogagiaa.ArcT Go.Proofs.Ytedakilpogagiaa.Box Go.Proofs.Ytedakilpogagiaa.ArcSinT Go.Proofs.Ytedakilpogagiaa.NarrowT Go.Proofs.Ytedakilpogagiaa.InArcT
set_option linter.unusedVariables false
set_option linter.unusedSimpArgs false
theorem ob_ev {α β : Type} {g : Nat → Option α} {f : Nat → α → Option β} {a : α} {r : β} (h : Ev g a) (k : Ev (fun n => f n a) r) : Ev (fun n => Sx.ob (g n) (f n)) r := by
 refine Ev.congr (fun n => Sx.ob_eq _ _) ?_
 exact ev_bind h k
theorem oif_pos {β : Type} {c : Prop} [inst : Decidable c] {A B : Option β} (h : c) : Sx.oif c A B = A := by rw [Sx.oif_eq, if_pos h]
theorem oif_neg {β : Type} {c : Prop} [inst : Decidable c] {A B : Option β} (h : ¬ c) : Sx.oif c A B = B := by rw [Sx.oif_eq, if_neg h]
theorem iw (x : Int) : IntKind.i64.wrap x = wrap64 x := i64_w x
def Ce : Rat := C 65109000000000
def Se : Rat := S 65109000000000
def eX (t s : Int) : Rat := C s * C t
def eY (t s : Int) : Rat := C s * S t * Ce - S s * Se
def eZ (t s : Int) : Rat := C s * S t * Se + S s * Ce
theorem e_norm (t s : Int) : eX t s * eX t s + eY t s * eY t s + eZ t s * eZ t s = 1 := by
 have h1 := SC_sq t
 have h2 := SC_sq s
 have h3 : Ce * Ce + Se * Se = 1 := SC_sq 65109000000000
 unfold eX eY eZ
 generalize C s = a at *
 generalize S s = b at *
 generalize C t = c at *
 generalize S t = d at *
 generalize Ce = e at *
 generalize Se = f at *
 have : a * c * (a * c) + (a * d * e - b * f) * (a * d * e - b * f) + (a * d * f + b * e) * (a * d * f + b * e) = a * a * (c * c) + (a * a * (d * d) + b * b) * (e * e + f * f) := by grind
 rw [this, h3, Rat.mul_one]
 have : a * a * (c * c) + (a * a * (d * d) + b * b) = a * a * (c * c + d * d) + b * b := by grind
 rw [this, h1, Rat.mul_one, h2]
structure EqBox (y0 y1 x0 x1 z0 z1 lo hi la lb : Int) : Prop where
 tell : ∀ t s, lo * 1000000 ≤ t → t ≤ hi * 1000000 → la * 1000000 ≤ s → s ≤ lb * 1000000 → ∃ η ξ ζ : Rat, ((y0 : Rat) ≤ η ∧ η ≤ (y1 : Rat)) ∧ ((x0 : Rat) ≤ ξ ∧ ξ ≤ (x1 : Rat)) ∧ ((z0 : Rat) ≤ ζ ∧ ζ ≤ (z1 : Rat)) ∧
  Nr (η - 1000000000 * eY t s) (1 / 100000000) ∧ Nr (ξ - 1000000000 * eX t s) (1 / 100000000) ∧ Nr (ζ - 1000000000 * eZ t s) (1 / 100000000)
 y : -2000000000 ≤ y0 ∧ y0 ≤ y1 ∧ y1 ≤ 2000000000
 yb : -1400000000 ≤ y0 ∧ y1 ≤ 1400000000
 x : -1000000000 ≤ x0 ∧ x0 ≤ x1 ∧ x1 ≤ 1000000000
 z : -2000000000 ≤ z0 ∧ z0 ≤ z1 ∧ z1 ≤ 2000000000
 wy : hi - lo ≤ 1000000000 → y1 - y0 ≤ 22 + 7 * (hi - lo) + 14 * (lb - la)
 wx : hi - lo ≤ 1000000000 → x1 - x0 ≤ 8 + 7 * (hi - lo) + 7 * (lb - la)
 wz : hi - lo ≤ 1000000000 → z1 - z0 ≤ 22 + 7 * (hi - lo) + 14 * (lb - la)
theorem hi3 {w p a b : Rat} (h : p * (1000000000 * a) / 1000000000 * (1000000000 * b) ≤ 1000000000 * w) : p * a * b ≤ w := by grind
theorem nY {p cs st ce w : Rat} (h : Nr ((p - 1000000000 * cs) * st * ce) (1 / 1000000000)) : Nr (p * st * ce - 1000000000 * w - 1000000000 * (cs * st * ce - w)) (1 / 100000000) := by
 unfold Nr at *
 constructor <;> grind
theorem nZ {p cs st ce w : Rat} (h : Nr ((p - 1000000000 * cs) * st * ce) (1 / 1000000000)) : Nr (p * st * ce + 1000000000 * w - 1000000000 * (cs * st * ce + w)) (1 / 100000000) := by
 unfold Nr at *
 constructor <;> grind
theorem nX {p k cs ct : Rat} (h : Nr ((p - 1000000000 * cs) * k) (11 / 10)) (g : Nr (cs * (k - 1000000000 * ct)) (1 / 1000000000)) : Nr (p * k / 1000000000 - 1000000000 * (cs * ct)) (1 / 100000000) := by
 unfold Nr at *
 constructor <;> grind
theorem scale_rat {c s η ξ dy dx X W : Rat} (b1 : -1 ≤ c) (b2 : c ≤ 1) (b3 : -1 ≤ s) (b4 : s ≤ 1) (hy : Nr (dy - u * (η / 1000000000)) 21000000) (hx : Nr (dx - u * (ξ / 1000000000)) 21000000) :
  Nr ((c * dy - s * dx) - 1152921504606846976 / 1000000000 * (c * η - s * ξ)) 42000000 ∧ Nr ((c * dx + s * dy) - 1152921504606846976 / 1000000000 * (c * ξ + s * η)) 42000000 := by
 rw [u_eq] at *
 unfold Nr at *
 have k1 := OctT.abs_mul b1 b2 hy.1 hy.2
 have k2 := OctT.abs_mul b3 b4 hx.1 hx.2
 have k3 := OctT.abs_mul b1 b2 hx.1 hx.2
 have k4 := OctT.abs_mul b3 b4 hy.1 hy.2
 refine ⟨⟨?_, ?_⟩, ⟨?_, ?_⟩⟩ <;> grind
theorem near_u {d : Int} {η Y : Rat} (h : Nr (η - 1000000000 * Y) (1 / 100000000)) (e : Nr ((d : Rat) - u * Y) 20000000) : Nr ((d : Rat) - u * (η / 1000000000)) 21000000 := by
 rw [u_eq] at *
 unfold Nr at *
 constructor <;> grind
theorem g1 {p q : Rat} (h : Nr (p - 1152921504606846976 / 1000000000 * q) 42000000) (b : -(1 / 10000000000 * 1500000000) ≤ q) : -2100000000 ≤ p := by
 unfold Nr at h; grind
theorem g2 {p q : Rat} (h : Nr (p - 1152921504606846976 / 1000000000 * q) 42000000) (b : q ≤ 1 / 10000000000 * 1500000000) : p ≤ 2100000000 := by
 unfold Nr at h; grind
theorem g3 {p q p' q' : Rat} (h : Nr (p - 1152921504606846976 / 1000000000 * q) 42000000) (h' : Nr (p' - 1152921504606846976 / 1000000000 * q') 42000000) (b : -(1 / 1000000000 * 1500000000) ≤ q + q') : -2100000000 ≤ p + p' := by
 unfold Nr at h h'; grind
theorem arc_part {a b c d lo hi y0 y1 x0 x1 dY dX : Int} {η ξ Y X : Rat} (Aa : At a y0 x0) (Ab : At b y0 x1) (Ac : At c y1 x0) (Ad : At d y1 x1) (E : Go.Proofs.Ytedakilpogagiaa.ArcT.Ends a b c d lo hi) (hw : hi - lo ≤ 400000000) (m1 : -1500000000 ≤ y0) (m2 : y1 ≤ 1500000000) (m3 : -1500000000 ≤ x0) (m4 : x1 ≤ 1500000000) (hy : y0 ≤ y1) (hx : x0 ≤ x1)
  (h0 : (y0 : Rat) ≤ η) (h1 : η ≤ (y1 : Rat)) (g0 : (x0 : Rat) ≤ ξ) (g1 : ξ ≤ (x1 : Rat)) (nY : Nr (η - 1000000000 * Y) (1 / 100000000)) (nX : Nr (ξ - 1000000000 * X) (1 / 100000000)) (eY' : Nr ((dY : Rat) - u * Y) 20000000) (eX' : Nr ((dX : Rat) - u * X) 20000000)
  (yb : -1200000000000000000 ≤ dY ∧ dY ≤ 1200000000000000000) (xb : -1200000000000000000 ≤ dX ∧ dX ≤ 1200000000000000000) : Ev (fun k => ephemerisref2_InArc.f k (lo % 1000000000) (hi - lo / 1000000000 * 1000000000) dY dX) true := by
 have cst : ∀ z : Int, -1500000000 ≤ z → z ≤ 1500000000 → (-1500000000 : Rat) ≤ (z : Rat) ∧ (z : Rat) ≤ 1500000000 := by
  intro z z0 z1
  have e1 := cle z0
  have e2 := cle z1
  push_cast at e1 e2
  exact ⟨e1, e2⟩
 have q1 := cst y0 (by omega) (by omega)
 have q2 := cst y1 (by omega) (by omega)
 have q3 := cst x0 (by omega) (by omega)
 have q4 := cst x1 (by omega) (by omega)
 obtain ⟨b1, b2, b3⟩ := box_in Aa Ab Ac Ad E (by omega) (M := 1500000000) q1.1 q1.2 q2.1 q2.2 q3.1 q3.2 q4.1 q4.2 h0 h1 g0 g1
 have ny := near_u nY eY'
 have nx := near_u nX eX'
 have e1 := E.la
 have e2 := E.ha
 obtain ⟨l1, l2, l3, l4⟩ := SC_bound (lo * 1000000)
 obtain ⟨k1, k2, k3, k4⟩ := SC_bound (hi * 1000000)
 obtain ⟨s1, s2⟩ := scale_rat (X := 0) (W := 0) l1 l2 l3 l4 ny nx
 obtain ⟨s3, s4⟩ := scale_rat (X := 0) (W := 0) k1 k2 k3 k4 ny nx
 refine inarc_ev (by omega) (by omega) (by omega) (by omega) yb.1 yb.2 xb.1 xb.2 ?_ ?_ ?_
 ·rw [cr_per (a := lo % 1000000000 * 1000000) (b := lo * 1000000) (by omega)]
  exact EqT.g1 s1 b1
 ·rw [cr_per (a := (hi - lo / 1000000000 * 1000000000) * 1000000) (b := hi * 1000000) (by omega)]
  exact EqT.g2 s3 b2
 ·rw [dt_per (a := lo % 1000000000 * 1000000) (b := lo * 1000000) (by omega), dt_per (a := (hi - lo / 1000000000 * 1000000000) * 1000000) (b := hi * 1000000) (by omega)]
  exact EqT.g3 s2 s4 b3
theorem d1 {a s ζ Z z : Rat} (h : 1000000000 * s ≤ a + 2) (c : a ≤ 1000000000 * Z + 1 / 100000000) (e : Nr (z - u * Z) 20000000) : u * s ≤ z + 4290000000 := by
 rw [u_eq] at *
 unfold Nr at e
 grind
theorem d2 {a s ζ Z z : Rat} (h : a ≤ 1000000000 * s + 2) (c : 1000000000 * Z - 1 / 100000000 ≤ a) (e : Nr (z - u * Z) 20000000) : z ≤ u * s + 4290000000 := by
 rw [u_eq] at *
 unfold Nr at e
 grind
theorem n1 {ζ Z : Rat} (h : Nr (ζ - 1000000000 * Z) (1 / 100000000)) : ζ ≤ 1000000000 * Z + 1 / 100000000 ∧ 1000000000 * Z - 1 / 100000000 ≤ ζ := by
 unfold Nr at h
 constructor <;> grind
theorem bne0 {x : Int} (h : x = 0) : ¬ (x != 0) = true := by simp [h]
theorem mc2 {c : Rat} (h : 917 / 1000 ≤ c) : 0 ≤ 1000000000 * c := by grind
theorem mc4 {c : Rat} (h : 397 / 1000 ≤ c) : 0 ≤ 1000000000 * c := by grind
theorem in_size {a : Int} {x : Rat} (h1 : -3300000 ≤ (a : Rat) - u * x) (h2 : (a : Rat) - u * x ≤ 3300000) (x0 : -1 ≤ x) (x1 : x ≤ 1) : -2305843009213693952 ≤ a ∧ a ≤ 2305843009213693952 := by
 rw [u_eq] at *
 constructor
 ·refine int_of_rat ?_
  push_cast
  grind
 ·refine int_of_rat ?_
  push_cast
  grind
theorem e_bounds (t s : Int) : (-1 ≤ eX t s ∧ eX t s ≤ 1) ∧ (-1 ≤ eY t s ∧ eY t s ≤ 1) ∧ (-1 ≤ eZ t s ∧ eZ t s ≤ 1) := by
 have h := e_norm t s
 generalize eX t s = x at *
 generalize eY t s = y at *
 generalize eZ t s = z at *
 have k1 := Turn.sq_nonneg x
 have k2 := Turn.sq_nonneg y
 have k3 := Turn.sq_nonneg z
 have q : ∀ w : Rat, w * w ≤ 1 → -1 ≤ w ∧ w ≤ 1 := fun w hw => ⟨(NarrowT.le_of_sq (r := 1) (by decide +kernel) (by grind)).2, (NarrowT.le_of_sq (r := 1) (by decide +kernel) (by grind)).1⟩
 exact ⟨q x (by grind), q y (by grind), q z (by grind)⟩
theorem d_size {d : Int} {x : Rat} (h : Nr ((d : Rat) - u * x) 20000000) (x0 : -1 ≤ x) (x1 : x ≤ 1) : -1200000000000000000 ≤ d ∧ d ≤ 1200000000000000000 := by
 rw [u_eq] at h
 unfold Nr at h
 constructor
 ·refine int_of_rat ?_
  push_cast
  grind
 ·refine int_of_rat ?_
  push_cast
  grind
theorem near_sq {p η w : Rat} (h1 : -w ≤ p - η) (h2 : p - η ≤ w) (w0 : 0 ≤ w) (e1 : -1000000001 ≤ η) (e2 : η ≤ 1000000001) : η * η - 2000000002 * w ≤ p * p ∧ p * p ≤ η * η + 2000000002 * w + w * w := by
 have k1 := OctT.abs_mul h1 h2 e1 e2
 have k2 := OctT.abs_mul h1 h2 h1 h2
 have k3 := Turn.sq_nonneg (p - η)
 constructor <;> grind
theorem near_sq2 {η Y : Rat} (h : Nr (η - 1000000000 * Y) (1 / 100000000)) (y0 : -1 ≤ Y) (y1 : Y ≤ 1) : (1000000000000000000 * (Y * Y) - 40 ≤ η * η ∧ η * η ≤ 1000000000000000000 * (Y * Y) + 40) ∧ -1000000001 ≤ η ∧ η ≤ 1000000001 := by
 unfold Nr at h
 have k1 := OctT.abs_mul h.1 h.2 y0 y1
 have k2 := OctT.abs_mul h.1 h.2 h.1 h.2
 refine ⟨⟨?_, ?_⟩, ?_, ?_⟩ <;> grind
theorem norm_rat {P Q E X Y Z ρ D wy wx zm E2 X2 : Rat} (h1 : E2 - 2000000002 * wy ≤ P) (h2 : X2 - 2000000002 * wx ≤ Q) (h3 : P ≤ E2 + 2000000002 * wy + wy * wy) (h4 : Q ≤ X2 + 2000000002 * wx + wx * wx) (e1 : 1000000000000000000 * (Y * Y) - 40 ≤ E2) (e2 : E2 ≤ 1000000000000000000 * (Y * Y) + 40) (e3 : 1000000000000000000 * (X * X) - 40 ≤ X2) (e4 : X2 ≤ 1000000000000000000 * (X * X) + 40)
  (n : X * X + Y * Y + Z * Z = 1) (z : Z * Z ≤ zm * zm) (z0 : 0 ≤ Z * Z) (wD : wy + wx ≤ D) (wy0 : 0 ≤ wy) (wx0 : 0 ≤ wx) (D2 : D ≤ 2000000) (sy : wy * wy ≤ 4000000000000) (sx : wx * wx ≤ 4000000000000) (hρ : ρ * ρ + 2000000002 * D + 100 ≤ 1000000000000000000 * (1 - zm * zm)) : ρ * ρ ≤ P + Q ∧ P + Q ≤ 1010000000 * 1010000000 := by
 constructor <;> grind
theorem norm_of {y0 y1 x0 x1 z0 z1 lo hi la lb : Int} (bx : EqBox y0 y1 x0 x1 z0 z1 lo hi la lb) (hl : lo ≤ hi) (hb : la ≤ lb) {D : Int} {zm ρ : Rat} (hD : (y1 - y0) + (x1 - x0) ≤ D) (D2 : D ≤ 2000000) (zm0 : 0 ≤ zm) (hz : -zm ≤ eZ (lo * 1000000) (la * 1000000) ∧ eZ (lo * 1000000) (la * 1000000) ≤ zm) (hρ : ρ * ρ + 2000000002 * (D : Rat) + 100 ≤ 1000000000000000000 * (1 - zm * zm)) :
  ∀ p q : Int, y0 ≤ p → p ≤ y1 → x0 ≤ q → q ≤ x1 → ρ * ρ ≤ (p : Rat) * p + (q : Rat) * q ∧ (p : Rat) * p + (q : Rat) * q ≤ 1010000000 * 1010000000 := by
 intro p q p0 p1 q0 q1
 obtain ⟨η, ξ, ζ, ⟨n1, n2⟩, ⟨n3, n4⟩, ⟨n5, n6⟩, nY, nX, nZ⟩ := bx.tell (lo * 1000000) (la * 1000000) (by omega) (by omega) (by omega) (by omega)
 obtain ⟨⟨b1, b2⟩, ⟨b3, b4⟩, ⟨b5, b6⟩⟩ := e_bounds (lo * 1000000) (la * 1000000)
 have en := e_norm (lo * 1000000) (la * 1000000)
 obtain ⟨⟨a1, a2⟩, a3, a4⟩ := near_sq2 nY b3 b4
 obtain ⟨⟨c1, c2⟩, c3, c4⟩ := near_sq2 nX b1 b2
 have w1 := cle (show 0 ≤ y1 - y0 by omega)
 have w2 := cle (show 0 ≤ x1 - x0 by omega)
 have w3 := cle hD
 have w4 := cle D2
 have v1 := cle p0
 have v2 := cle p1
 have v3 := cle q0
 have v4 := cle q1
 push_cast at w1 w2 w3 w4
 have zz := OctT.abs_mul hz.1 hz.2 hz.1 hz.2
 have z0' := Turn.sq_nonneg (eZ (lo * 1000000) (la * 1000000))
 generalize eX (lo * 1000000) (la * 1000000) = X at *
 generalize eY (lo * 1000000) (la * 1000000) = Y at *
 generalize eZ (lo * 1000000) (la * 1000000) = Z at *
 clear bx nY nX nZ
 have s1 := near_sq (p := (p : Rat)) (η := η) (w := (y1 : Rat) - (y0 : Rat)) (by grind) (by grind) (by grind) a3 a4
 have s2 := near_sq (p := (q : Rat)) (η := ξ) (w := (x1 : Rat) - (x0 : Rat)) (by grind) (by grind) (by grind) c3 c4
 have y2 := OctT.abs_mul (a := (y1 : Rat) - (y0 : Rat)) (b := (y1 : Rat) - (y0 : Rat)) (A := 2000000) (B := 2000000) (by grind) (by grind) (by grind) (by grind)
 have x2 := OctT.abs_mul (a := (x1 : Rat) - (x0 : Rat)) (b := (x1 : Rat) - (x0 : Rat)) (A := 2000000) (B := 2000000) (by grind) (by grind) (by grind) (by grind)
 exact norm_rat (E := 0) s1.1 s2.1 s1.2 s2.2 a1 a2 c1 c2 en zz.2 z0' w3 (by grind) (by grind) w4 (by grind) (by grind) hρ
end Go.Proofs.Ytedakilpogagiaa.EqT
