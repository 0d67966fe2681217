/- Written by narmake.py: series.Narrow with a closure. -/
import Derived.Test.YtmahlfjnejbcnaaTopSeasonsn8
import Derived.Test.YtmahlfjnejbcnaaChecked
import Derived.Test.YtmahlfjnejbcnaaTopSeasonsn0
set_option linter.unusedVariables false
namespace Go.Proofs.Ytmahlfjnejbcnaa.Nar45
open Go Go.RowKit YtmahlfjnejbcnaaW.PrintWords Sx
set_option maxRecDepth 100000
def OQ {R : Type} (s : Int → Option Int) : OraQ R := fun g args K => match g, args with
 | 45, [.int .i64 a, .chan (some 1)] => ob (s a) fun v => K (.int .i64 v)
 | _, _ => none
def lo {R : Type} (s : Int → Option Int) : Nat → Int → Int → (Int → Option R) → Option R
 | 0, _, _, _ => none
 | k + 1, a, p, κ => oif (decide (IntKind.i64.wrap (p - a) > 1) = true) (ob (s (IntKind.i64.wrap (a + IntKind.i64.wrap ((IntKind.i64.wrap (p - a)).tdiv 2)))) fun v => oif (decide (v < 0) = true) (lo s k (IntKind.i64.wrap (a + IntKind.i64.wrap ((IntKind.i64.wrap (p - a)).tdiv 2))) p κ) (lo s k a (IntKind.i64.wrap (a + IntKind.i64.wrap ((IntKind.i64.wrap (p - a)).tdiv 2))) κ)) (κ a)
def hi {R : Type} (s : Int → Option Int) : Nat → Int → Int → (Int → Option R) → Option R
 | 0, _, _, _ => none
 | k + 1, b, p, κ => oif (decide (IntKind.i64.wrap (b - p) > 1) = true) (ob (s (IntKind.i64.wrap (p + IntKind.i64.wrap ((IntKind.i64.wrap (b - p)).tdiv 2)))) fun v => oif (decide (v > 0) = true) (hi s k (IntKind.i64.wrap (p + IntKind.i64.wrap ((IntKind.i64.wrap (b - p)).tdiv 2))) p κ) (hi s k b (IntKind.i64.wrap (p + IntKind.i64.wrap ((IntKind.i64.wrap (b - p)).tdiv 2))) κ)) (κ b)
def main {R : Type} (s : Int → Option Int) (q : Nat) (wd : Int) : Nat → Int → Int → (Int → Int → Option R) → Option R
 | 0, _, _, _ => none
 | k + 1, a, b, κ => oif (decide (IntKind.i64.wrap (b - a) > wd) = true) (ob (s (IntKind.i64.wrap (a + IntKind.i64.wrap ((IntKind.i64.wrap (b - a)).tdiv 2)))) fun v => oif (decide (v < 0) = true) (main s q wd k (IntKind.i64.wrap (a + IntKind.i64.wrap ((IntKind.i64.wrap (b - a)).tdiv 2))) b κ) (oif (decide (v > 0) = true) (main s q wd k a (IntKind.i64.wrap (a + IntKind.i64.wrap ((IntKind.i64.wrap (b - a)).tdiv 2))) κ)
   (lo s q a (IntKind.i64.wrap (a + IntKind.i64.wrap ((IntKind.i64.wrap (b - a)).tdiv 2))) fun a' => hi s q b (IntKind.i64.wrap (a + IntKind.i64.wrap ((IntKind.i64.wrap (b - a)).tdiv 2))) fun b' => κ a' b'))) (κ a b)
def f (s : Int → Option Int) (k : Nat) (a b wd : Int) : Option (Int × Int × Int) :=
 main s k wd k a b fun a b => oif (decide (IntKind.i64.wrap (b - a) > wd) = true) (some (0, 0, 11)) (some (a, b, 0))
def F9 {R : Type} (s : Int → Option Int) (k : Nat) : LoopF R := fun t m κ => if t.length = 79 then (match (t[0]? : Option Value), (t[1]? : Option Value), (t[2]? : Option Value), (t[3]? : Option Value), (t[8]? : Option Value), (t[9]? : Option Value), (t[10]? : Option Value), (t[12]? : Option Value), m with
 | some (.int .i64 x0), some (.int .i64 x1), some (.int .i64 x2), some (.func (.func 45) fr ⟨[.chan (some 1)]⟩), some (.pointer (some ⟨0, 0, none⟩)), some (.int .i64 x9), some (.int .i64 x10), some (.int .i64 x12), [⟨[.int .i64 y0, .int .i64 y1], e0, o0⟩] => lo s k x0 x12 (fun y => κ (.exit 2) (encA 79 [(0, .int .i64 y), (1, .int .i64 x1), (2, .int .i64 x2), (3, .func (.func 45) fr ⟨[.chan (some 1)]⟩), (8, .pointer (some ⟨0, 0, none⟩)), (9, .int .i64 x9), (10, .int .i64 x10)]) [⟨[.int .i64 y0, .int .i64 y1], e0, o0⟩])
 | _, _, _, _, _, _, _, _, _ => none) else none
def F15 {R : Type} (s : Int → Option Int) (k : Nat) : LoopF R := fun t m κ => if t.length = 79 then (match (t[0]? : Option Value), (t[1]? : Option Value), (t[2]? : Option Value), (t[3]? : Option Value), (t[8]? : Option Value), (t[9]? : Option Value), (t[14]? : Option Value), m with
 | some (.int .i64 x0), some (.int .i64 x1), some (.int .i64 x2), some (.func (.func 45) fr ⟨[.chan (some 1)]⟩), some (.pointer (some ⟨0, 0, none⟩)), some (.int .i64 x9), some (.int .i64 x14), [⟨[.int .i64 y0, .int .i64 y1], e0, o0⟩] => hi s k x1 x14 (fun y => κ (.exit 4) (encA 79 [(0, .int .i64 x0), (1, .int .i64 y), (2, .int .i64 x2), (3, .func (.func 45) fr ⟨[.chan (some 1)]⟩), (8, .pointer (some ⟨0, 0, none⟩)), (9, .int .i64 x9)]) [⟨[.int .i64 y0, .int .i64 y1], e0, o0⟩])
 | _, _, _, _, _, _, _, _ => none) else none
def F1 {R : Type} (s : Int → Option Int) (q : Nat) (k : Nat) : LoopF R := fun t m κ => if t.length = 79 then (match (t[0]? : Option Value), (t[1]? : Option Value), (t[2]? : Option Value), (t[3]? : Option Value), (t[8]? : Option Value), (t[9]? : Option Value), m with
 | some (.int .i64 x0), some (.int .i64 x1), some (.int .i64 x2), some (.func (.func 45) fr ⟨[.chan (some 1)]⟩), some (.pointer (some ⟨0, 0, none⟩)), some (.int .i64 x9), [⟨[.int .i64 y0, .int .i64 y1], e0, o0⟩] => main s q x2 k x0 x1 (fun y z => κ (.exit 0) (encA 79 [(0, .int .i64 y), (1, .int .i64 z), (2, .int .i64 x2), (8, .pointer (some ⟨0, 0, none⟩)), (9, .int .i64 x9)]) [⟨[.int .i64 y0, .int .i64 y1], e0, o0⟩])
 | _, _, _, _, _, _, _ => none) else none
noncomputable def body : Code := Try.f35.body.getD .skip
noncomputable def c1 : Code := (loops body).getD 0 .skip
noncomputable def c9 : Code := (loops body).getD 1 .skip
noncomputable def c15 : Code := (loops body).getD 2 .skip
theorem loops_body : loops body = [c1, c9, c15] := by kernel_rfl
theorem loops_c1 : loops c1 = [c9, c15] := by kernel_rfl
def live1 : List Nat := [0, 1, 2, 3, 8, 9]
def live9 : List Nat := [0, 1, 2, 3, 8, 9, 10, 12]
def live15 : List Nat := [0, 1, 2, 3, 8, 9, 14]
def X1 : Nat → Option (List Nat × Nat) := fun id => if id = 0 then some ([0, 1, 2, 8, 9], 1) else none
def X9 : Nat → Option (List Nat × Nat) := fun id => if id = 2 then some ([0, 1, 2, 3, 8, 9, 10], 1) else none
def X15 : Nat → Option (List Nat × Nat) := fun id => if id = 4 then some ([0, 1, 2, 3, 8, 9], 1) else none
def LI {R : Type} (s : Int → Option Int) (q : Nat) : Nat → Option (List Nat × Nat × LoopF R) := fun id => if id = 9 then some (live9, 1, F9 s q) else if id = 15 then some (live15, 1, F15 s q) else none
def LO {R : Type} (s : Int → Option Int) (q k : Nat) : Nat → Option (List Nat × Nat × LoopF R) := fun id => if id = 1 then some (live1, 1, F1 s q k) else none
def FN (v : Value) (_ : Mem) : Option (Int × Int × Int) := match v with | .tuple ⟨[.agg ⟨[.int .i64 a, .int .i64 b]⟩, .int .i64 e]⟩ => some (a, b, e) | _ => none
theorem run9 {R : Type} (s : Int → Option Int) (k : Nat) (κ : Ex → List Value → Mem → Option R) (x0 x1 x2 x9 x10 x12 : Int) (fr : Array Value) (y0 y1 : Int) (e0 : TypeId) (o0 : Bool) :
  runM Try.prog (liftQ (OQ s)) (drawQ Try.prog (OQ s)) (fun _ => none) (loopE live9 1 X9 (F9 s k) κ) 3000 [.code c9] (encA 79 [(0, .int .i64 x0), (1, .int .i64 x1), (2, .int .i64 x2), (3, .func (.func 45) fr ⟨[.chan (some 1)]⟩), (8, .pointer (some ⟨0, 0, none⟩)), (9, .int .i64 x9), (10, .int .i64 x10), (12, .int .i64 x12)]) [⟨[.int .i64 y0, .int .i64 y1], e0, o0⟩] = lo s (k + 1) x0 x12 (fun y => κ (.exit 2) (encA 79 [(0, .int .i64 y), (1, .int .i64 x1), (2, .int .i64 x2), (3, .func (.func 45) fr ⟨[.chan (some 1)]⟩), (8, .pointer (some ⟨0, 0, none⟩)), (9, .int .i64 x9), (10, .int .i64 x10)]) [⟨[.int .i64 y0, .int .i64 y1], e0, o0⟩]) := by kernel_rfl
theorem run15 {R : Type} (s : Int → Option Int) (k : Nat) (κ : Ex → List Value → Mem → Option R) (x0 x1 x2 x9 x14 : Int) (fr : Array Value) (y0 y1 : Int) (e0 : TypeId) (o0 : Bool) :
  runM Try.prog (liftQ (OQ s)) (drawQ Try.prog (OQ s)) (fun _ => none) (loopE live15 1 X15 (F15 s k) κ) 3000 [.code c15] (encA 79 [(0, .int .i64 x0), (1, .int .i64 x1), (2, .int .i64 x2), (3, .func (.func 45) fr ⟨[.chan (some 1)]⟩), (8, .pointer (some ⟨0, 0, none⟩)), (9, .int .i64 x9), (14, .int .i64 x14)]) [⟨[.int .i64 y0, .int .i64 y1], e0, o0⟩] = hi s (k + 1) x1 x14 (fun y => κ (.exit 4) (encA 79 [(0, .int .i64 x0), (1, .int .i64 y), (2, .int .i64 x2), (3, .func (.func 45) fr ⟨[.chan (some 1)]⟩), (8, .pointer (some ⟨0, 0, none⟩)), (9, .int .i64 x9)]) [⟨[.int .i64 y0, .int .i64 y1], e0, o0⟩]) := by kernel_rfl
theorem run1 {R : Type} (s : Int → Option Int) (q : Nat) (k : Nat) (κ : Ex → List Value → Mem → Option R) (x0 x1 x2 x9 : Int) (fr : Array Value) (y0 y1 : Int) (e0 : TypeId) (o0 : Bool) :
  runM Try.prog (liftQ (OQ s)) (drawQ Try.prog (OQ s)) (LI s q) (loopE live1 1 X1 (F1 s q k) κ) 3000 [.code c1] (encA 79 [(0, .int .i64 x0), (1, .int .i64 x1), (2, .int .i64 x2), (3, .func (.func 45) fr ⟨[.chan (some 1)]⟩), (8, .pointer (some ⟨0, 0, none⟩)), (9, .int .i64 x9)]) [⟨[.int .i64 y0, .int .i64 y1], e0, o0⟩] = main s q x2 (k + 1) x0 x1 (fun y z => κ (.exit 0) (encA 79 [(0, .int .i64 y), (1, .int .i64 z), (2, .int .i64 x2), (8, .pointer (some ⟨0, 0, none⟩)), (9, .int .i64 x9)]) [⟨[.int .i64 y0, .int .i64 y1], e0, o0⟩]) := by kernel_rfl
theorem run (s : Int → Option Int) (k : Nat) (a b wd : Int) :
  runM Try.prog (liftQ (OQ s)) (drawQ Try.prog (OQ s)) (LO s k k) (atEnd Try.prog Try.f35 FN) 3000 [.code body] ([.int .i64 a, .int .i64 b, .int .i64 wd, .func (.func 45) #[] ⟨[.chan (some 1)]⟩] ++ List.replicate (Try.f35.ntmps - 4) undef) [] = f s k a b wd := by kernel_rfl
theorem ok9 {R : Type} {s : Int → Option Int} {ξ : Nat → Value} {Φ : World → Prop} {base : Nat} (hs : Stable Φ base) (hO : ∀ {R : Type}, OraQOk Try.prog ξ Φ base (OQ (R := R) s)) : ∀ k, LoopOk Try.prog ξ Φ base 0 c9 (F9 s (R := R) k) := by
 refine loop_of_runX hs (hO.lift hs) (drawQ_ok (Checked.mixed Try.checked) hs hO) (Nat.zero_le _) (LF := fun _ => none) (LS := fun _ => True) (fun c _ live len f e => by cases e) (fun _ _ => trivial) 3000 (F9 s) X9 (fun _ _ _ _ => Nat.zero_le _) (fun t m κ => ?_) (fun k t m κ r h => ?_) (live := live9) (len := 1)
 ·unfold F9; split
  ·split <;> rfl
  ·rfl
 ·unfold F9 at h; split at h
  ·rename_i hlen
   split at h
   ·rename_i q0 q1 q2 q3 q8 q9 q10 q12
    exact ⟨_, fun η cs hc => hc.encA hlen (by intro p hp; simp only [List.mem_cons, List.not_mem_nil, or_false] at hp; rcases hp with rfl | rfl | rfl | rfl | rfl | rfl | rfl | rfl <;> assumption), (run9 _ _ _ _ _ _ _ _ _ _ _ _ _ _).trans h⟩
   ·cases h
  ·cases h
theorem ok15 {R : Type} {s : Int → Option Int} {ξ : Nat → Value} {Φ : World → Prop} {base : Nat} (hs : Stable Φ base) (hO : ∀ {R : Type}, OraQOk Try.prog ξ Φ base (OQ (R := R) s)) : ∀ k, LoopOk Try.prog ξ Φ base 0 c15 (F15 s (R := R) k) := by
 refine loop_of_runX hs (hO.lift hs) (drawQ_ok (Checked.mixed Try.checked) hs hO) (Nat.zero_le _) (LF := fun _ => none) (LS := fun _ => True) (fun c _ live len f e => by cases e) (fun _ _ => trivial) 3000 (F15 s) X15 (fun _ _ _ _ => Nat.zero_le _) (fun t m κ => ?_) (fun k t m κ r h => ?_) (live := live15) (len := 1)
 ·unfold F15; split
  ·split <;> rfl
  ·rfl
 ·unfold F15 at h; split at h
  ·rename_i hlen
   split at h
   ·rename_i q0 q1 q2 q3 q8 q9 q14
    exact ⟨_, fun η cs hc => hc.encA hlen (by intro p hp; simp only [List.mem_cons, List.not_mem_nil, or_false] at hp; rcases hp with rfl | rfl | rfl | rfl | rfl | rfl | rfl <;> assumption), (run15 _ _ _ _ _ _ _ _ _ _ _ _ _).trans h⟩
   ·cases h
  ·cases h
theorem li_ok {R : Type} {s : Int → Option Int} {q : Nat} {ξ : Nat → Value} {Φ : World → Prop} {base : Nat} (hs : Stable Φ base) (hO : ∀ {R : Type}, OraQOk Try.prog ξ Φ base (OQ (R := R) s)) {c : Code} (hc : c = c9 ∨ c = c15) {live : List Nat} {len : Nat} {f : LoopF R} (e : LI s q (headId c) = some (live, len, f)) : LoopOk Try.prog ξ Φ base 0 c f := by
 have h9 : headId c9 = 9 := by kernel_rfl
 have h15 : headId c15 = 15 := by kernel_rfl
 rcases hc with rfl | rfl
 ·rw [h9] at e; cases e; exact ok9 hs hO q
 ·rw [h15] at e; cases e; exact ok15 hs hO q
theorem ok1 {R : Type} {s : Int → Option Int} {q : Nat} {ξ : Nat → Value} {Φ : World → Prop} {base : Nat} (hs : Stable Φ base) (hO : ∀ {R : Type}, OraQOk Try.prog ξ Φ base (OQ (R := R) s)) : ∀ k, LoopOk Try.prog ξ Φ base 0 c1 (F1 s q (R := R) k) := by
 refine loop_of_runX hs (hO.lift hs) (drawQ_ok (Checked.mixed Try.checked) hs hO) (Nat.zero_le _) (LF := LI s q) (LS := fun c => c = c9 ∨ c = c15) (fun c hc live len f e => ⟨Nat.zero_le _, li_ok hs hO hc e⟩) (fun c' hc => by rw [loops_c1] at hc; simpa using hc) 3000 (F1 s q) X1 (fun _ _ _ _ => Nat.zero_le _) (fun t m κ => ?_) (fun k t m κ r h => ?_) (live := live1) (len := 1)
 ·unfold F1; split
  ·split <;> rfl
  ·rfl
 ·unfold F1 at h; split at h
  ·rename_i hlen
   split at h
   ·rename_i q0 q1 q2 q3 q8 q9
    exact ⟨_, fun η cs hc => hc.encA hlen (by intro p hp; simp only [List.mem_cons, List.not_mem_nil, or_false] at hp; rcases hp with rfl | rfl | rfl | rfl | rfl | rfl <;> assumption), (run1 _ _ _ _ _ _ _ _ _ _ _ _ _).trans h⟩
   ·cases h
  ·cases h
theorem lo_ok {R : Type} {s : Int → Option Int} {q k : Nat} {ξ : Nat → Value} {Φ : World → Prop} {base : Nat} (hs : Stable Φ base) (hO : ∀ {R : Type}, OraQOk Try.prog ξ Φ base (OQ (R := R) s)) {c : Code} (hc : c = c1 ∨ c = c9 ∨ c = c15) {live : List Nat} {len : Nat} {f : LoopF R} (e : LO s q k (headId c) = some (live, len, f)) : LoopOk Try.prog ξ Φ base 0 c f := by
 have h1 : headId c1 = 1 := by kernel_rfl
 have h9 : headId c9 = 9 := by kernel_rfl
 have h15 : headId c15 = 15 := by kernel_rfl
 rcases hc with rfl | rfl | rfl
 ·rw [h1] at e; cases e; exact ok1 hs hO k
 ·rw [h9] at e; cases e
 ·rw [h15] at e; cases e
theorem calls {s : Int → Option Int} {k : Nat} {a b wd x y z : Int} {c0_ : Value} {w : World}
  (hclo : ∀ w', Below w.heap.size w w' → ∀ p v, s p = some v → Calls Try.prog 45 ⟨[.int .i64 p, c0_]⟩ w' fun e w'' => e = .returned (.int .i64 v) ∧ Below w'.heap.size w' w'')
  (h : f s k a b wd = some (x, y, z)) : Calls Try.prog 35 ⟨[.int .i64 a, .int .i64 b, .int .i64 wd, .func (.func 45) #[] ⟨[c0_]⟩]⟩ w fun e w' => e = .returned (.tuple ⟨[.agg ⟨[.int .i64 x, .int .i64 y]⟩, .int .i64 z]⟩) ∧ Below w.heap.size w w' := by
 let ξ : Nat → Value := fun i => if i = 0 then c0_ else undef
 have hs : Stable (fun w' => Below w.heap.size w w') w.heap.size := fun w1 w2 h1 h2 => h1.trans h2
 have hO : ∀ {R : Type}, OraQOk Try.prog ξ (fun w' => Below w.heap.size w w') w.heap.size (OQ (R := R) s) := by
  intro R g args K r hr
  unfold OQ at hr
  split at hr
  ·rename_i p
   rw [ob_eq] at hr
   obtain ⟨v, hv, hr⟩ := Option.bind_eq_some_iff.mp hr
   refine ⟨_, hr, fun η m w' argsc hrel hc => ?_⟩
   obtain ⟨u0, l0, e0, h0, hc⟩ := hc.of_cons
   obtain ⟨u1, l1, e1, h1, hc⟩ := hc.of_cons
   have hn := CVl.of_nil hc
   have h0 := h0.int_inv
   subst hn h0
   have ea : argsc = ⟨[.int .i64 p, c0_]⟩ := by apply Array.ext'; simp only [e0, e1]; cases h1; rfl
   subst ea
   refine (hclo w' hrel.ext p v hv).mono ?_
   rintro e w2 ⟨rfl, hb⟩
   exact ⟨_, rfl, .int _ _, hb⟩
  ·cases hr
 have hrel : Rel ξ (fun w' => Below w.heap.size w w') w.heap.size (fun _ => none) [] w :=
  ⟨Below.refl _ _, Nat.le_refl _, fun b p e => (by cases e), fun b B o k e => (by cases e), fun b b' B o o' k e => (by cases e)⟩
 have hcv : CVl ξ (fun _ => none) [.int .i64 a, .int .i64 b, .int .i64 wd, .func (.func 45) #[] ⟨[.chan (some 1)]⟩] (⟨[.int .i64 a, .int .i64 b, .int .i64 wd, .func (.func 45) #[] ⟨[c0_]⟩]⟩ : Array Value).toList := by
  have hcap : CVl ξ (fun _ => none) [.chan (some 1)] [c0_] := .cons (.opq 0) (.nil)
  exact .cons (.int _ _) (.cons (.int _ _) (.cons (.int _ _) (.cons (.func _ _ _ hcap.1 hcap.2) .nil)))
 refine (calls_of_run hs (hO.lift hs) (drawQ_ok (Checked.mixed Try.checked) hs hO) (L := 0) (LF := LO s k k) (LS := fun c => c = c1 ∨ c = c9 ∨ c = c15) (fun c hc live len f e => ⟨Nat.zero_le _, lo_ok hs hO hc e⟩) Try.func35 (c := body) rfl (fun c' hc => by rw [loops_body] at hc; simpa using hc) (F := FN) (r := (x, y, z)) ((run s k a b wd).trans h) hcv hrel).mono ?_
 rintro e w' ⟨u, m', η', c, h0, rfl, _, h3, _, h5⟩
 have hu : u = .tuple ⟨[.agg ⟨[.int .i64 x, .int .i64 y]⟩, .int .i64 z]⟩ := by
  unfold FN at h0
  split at h0
  ·cases h0; rfl
  ·cases h0
 subst hu
 exact ⟨by rw [h3.eq2 rfl], h5⟩
theorem lo_mono {R : Type} {s s' : Int → Option Int} (h : ∀ p, LeO (s p) (s' p)) : ∀ (k : Nat) (a p : Int) (κ κ' : Int → Option R), (∀ y, LeO (κ y) (κ' y)) → LeO (lo s k a p κ) (lo s' (k + 1) a p κ')
 | 0, _, _, _, _, _ => by rw [lo]; exact LeO.none _
 | k + 1, a, p, κ, κ', hk => by
  rw [lo, lo]; simp only [ob_eq, oif_eq]
  exact LeO.ite (LeO.bind (h _) fun v => LeO.ite (lo_mono h k _ _ _ _ hk) (lo_mono h k _ _ _ _ hk)) (hk _)
theorem hi_mono {R : Type} {s s' : Int → Option Int} (h : ∀ p, LeO (s p) (s' p)) : ∀ (k : Nat) (a p : Int) (κ κ' : Int → Option R), (∀ y, LeO (κ y) (κ' y)) → LeO (hi s k a p κ) (hi s' (k + 1) a p κ')
 | 0, _, _, _, _, _ => by rw [hi]; exact LeO.none _
 | k + 1, a, p, κ, κ', hk => by
  rw [hi, hi]; simp only [ob_eq, oif_eq]
  exact LeO.ite (LeO.bind (h _) fun v => LeO.ite (hi_mono h k _ _ _ _ hk) (hi_mono h k _ _ _ _ hk)) (hk _)
theorem main_mono {R : Type} {s s' : Int → Option Int} (h : ∀ p, LeO (s p) (s' p)) (q : Nat) (wd : Int) : ∀ (k : Nat) (a p : Int) (κ κ' : Int → Int → Option R), (∀ y z, LeO (κ y z) (κ' y z)) → LeO (main s q wd k a p κ) (main s' (q + 1) wd (k + 1) a p κ')
 | 0, _, _, _, _, _ => by rw [main]; exact LeO.none _
 | k + 1, a, p, κ, κ', hk => by
  rw [main, main]; simp only [ob_eq, oif_eq]
  exact LeO.ite (LeO.bind (h _) fun v => LeO.ite (main_mono h q wd k _ _ _ _ hk) (LeO.ite (main_mono h q wd k _ _ _ _ hk) (lo_mono h q _ _ _ _ fun y => hi_mono h q _ _ _ _ fun z => hk _ _))) (hk _ _)
theorem mono {s s' : Int → Option Int} (h : ∀ p, LeO (s p) (s' p)) (k : Nat) (a b wd : Int) : LeO (f s k a b wd) (f s' (k + 1) a b wd) :=
 main_mono h k wd k a b _ _ fun _ _ => LeO.refl _
end Go.Proofs.Ytmahlfjnejbcnaa.Nar45
