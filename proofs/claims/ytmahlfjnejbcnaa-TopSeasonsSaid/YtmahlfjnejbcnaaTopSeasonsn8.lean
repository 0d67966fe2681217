/- More of the executor: calls that read our memory alone, loops whose exits are told by few slots. -/
import Derived.Test.YtmahlfjnejbcnaaTopSeasonsn7
set_option linter.unusedVariables false
set_option linter.unusedSimpArgs false
namespace Go.Proofs.Ytmahlfjnejbcnaa.Sx
open Go Go.RowKit
section
variable {ξ : Nat → Value} {Φ : World → Prop} {base : Nat} {η η' : Eta} {m m' : Mem} {w w' : World} {P : Program} {t : List Value} {a : Act}
theorem len_two {α : Type} {l : List α} (h : l.length = 2) : ∃ a b, l = [a, b] := by
 match l, h with
 | [a, b], _ => exact ⟨a, b, rfl⟩
def unown (m : Mem) : Mem := m.map fun b => ⟨b.cells, b.elem, false⟩
theorem Rel.unown (h : Rel ξ Φ base η m w) : Rel ξ (fun w' => Below w.heap.size w w') w.heap.size η (unown m) w where
 ext := Below.refl _ _
 le := Nat.le_refl _
 dom b p e := by have := h.dom b p e; simpa [Sx.unown] using this
 blk b B o k e hm := by
  simp only [Sx.unown, List.getElem?_map] at hm
  cases hk : m[b]? with
  | none => simp [hk] at hm
  | some k' =>
   simp [hk] at hm; subst hm
   obtain ⟨cs, ty, fr, h1, h2, _⟩ := h.blk b B o k' e hk
   exact ⟨cs, ty, fr, h1, h2, fun e => by cases e⟩
 inj b b' B o o' k e e' hm hown := by
  simp only [Sx.unown, List.getElem?_map] at hm
  cases hk : m[b]? with
  | none => simp [hk] at hm
  | some k' => simp [hk] at hm; subst hm; cases hown
def exitCl {R : Type} (X : Nat → Option (List Nat × Nat)) (e : Ex) (t : List Value) (m : Mem) (K : List Value → Mem → Option R) : Option R :=
 match e with
 | .exit id => (match X id with | some (live, len) => clean live len t m K | none => none)
 | _ => none
def encA (n : Nat) (vals : List (Nat × Value)) : List Value := (List.range n).map fun i => match vals.lookup i with | some v => v | none => .chan (some 0)
theorem lookup_mem {vals : List (Nat × Value)} {i : Nat} {v : Value} (h : vals.lookup i = some v) : (i, v) ∈ vals := by
 induction vals with
 | nil => simp at h
 | cons p l ih =>
  obtain ⟨j, u⟩ := p
  simp only [List.lookup_cons] at h
  split at h
  ·rename_i e; cases h; have : i = j := by simpa using e
   subst this; exact List.mem_cons_self
  ·exact List.mem_cons_of_mem _ (ih h)
theorem CVl.encA {n : Nat} {vals : List (Nat × Value)} {t cs : List Value} (h : CVl ξ η t cs) (hn : t.length = n) (hv : ∀ p ∈ vals, t[p.1]? = some p.2) : CVl ξ η (encA n vals) cs := by
 refine ⟨by simp [Sx.encA, ← hn, h.1], fun i v c hi hc => ?_⟩
 simp only [Sx.encA, List.getElem?_map] at hi
 cases hr : (List.range n)[i]? with
 | none => simp [hr] at hi
 | some j =>
  have hj : j = i := by
   have hlt := (List.getElem?_eq_some_iff.1 hr).1
   simp at hlt
   rw [List.getElem?_range hlt] at hr; simp at hr; exact hr.symm
  subst hj
  simp only [hr, Option.map_some, Option.some.injEq] at hi
  split at hi
  ·rename_i u hu
   subst hi
   exact h.2 j u c (hv _ (lookup_mem hu)) hc
  ·subst hi; exact .psn c
def loopE {R : Type} (live : List Nat) (len : Nat) (X : Nat → Option (List Nat × Nat)) (g : LoopF R) (κ : Ex → List Value → Mem → Option R) (e : Ex) (t : List Value) (m : Mem) : Option R :=
 match e with
 | .normal => clean live len t m (fun t m => g t m κ)
 | e => exitCl X e t m (fun t m => κ e t m)
theorem loop_of_runX (hs : Stable Φ base) {R : Type} {O : Ora R} (hO : OraOk P ξ Φ base O) {D : Dra R} (hD : DraOk P ξ Φ base D) {L : Nat} {c : Code} {live : List Nat} {len : Nat} (hlen : L ≤ len)
  {LF : Nat → Option (List Nat × Nat × LoopF R)} {LS : Code → Prop} (hL : ∀ c, LS c → ∀ live len f, LF (headId c) = some (live, len, f) → L ≤ len ∧ LoopOk P ξ Φ base L c f) (hls : ∀ c' ∈ loops c, LS c') (N : Nat) (g : Nat → LoopF R) (X : Nat → Option (List Nat × Nat)) (hX : ∀ id l n, X id = some (l, n) → L ≤ n)
  (h0 : ∀ t m κ, g 0 t m κ = none)
  (hg : ∀ k t m κ r, g (k + 1) t m κ = some r → ∃ t', (∀ η cs, CVl ξ η t cs → CVl ξ η t' cs) ∧ runM P O D LF (loopE live len X (g k) κ) N [.code c] t' m = some r) :
  ∀ k, LoopOk P ξ Φ base L c (g k) := by
 intro k
 induction k with
 | zero => intro t m κ r h; rw [h0] at h; cases h
 | succ k ih =>
  intro t m κ r h η a w ht hr b K cs
  obtain ⟨t0, hw, hrun⟩ := hg k t m κ r h
  obtain ⟨e, t', m', η', a', w', h1, h2, h3, h4, h5, h6, h7⟩ := runM_sound hs hO hD hL N _ _ _ (fun i hi => by simp only [List.mem_singleton] at hi; subst hi; exact hls) hrun η a w (hw _ _ ht) hr b (.inLoop c :: K) cs
  cases e with
  | normal =>
   simp only [loopE] at h1
   obtain ⟨t1, m1, h8, h9⟩ := clean_sound (ξ := ξ) (Φ := Φ) (base := base) h1
   obtain ⟨ht1, hr1⟩ := h9 η' a' w' h3 h4
   obtain ⟨e, t3, m3, η3, a3, w3, h10, h11, h12, h13, h14, h15, h16⟩ := ih _ _ _ _ h8 (η'.cut len) a' w' ht1 hr1 b K cs
   exact ⟨e, t3, m3, η3, a3, w3, h10, (h2.trans (Eta.cut_leTo hlen η')).trans h11, h12, h13, h5.trans h14, h15.trans h6,
    Arrives.of_steps (Steps.trans h7 (.one step_inLoop)) h16⟩
  | exit id =>
   simp only [loopE, exitCl] at h1
   split at h1
   ·rename_i l n hxi
    obtain ⟨t1, m1, h8, h9⟩ := clean_sound (ξ := ξ) (Φ := Φ) (base := base) h1
    obtain ⟨ht1, hr1⟩ := h9 η' a' w' h3 h4
    exact ⟨.exit id, t1, m1, η'.cut n, a', w', ⟨h8, fun _ => by simp⟩, h2.trans (Eta.cut_leTo (hX _ _ _ hxi) η'), ht1, hr1, h5, h6, .pass (x := .inLoop c) rfl (fun _ _ => .inl (by simp [Ex.to])) h7⟩
   ·cases h1
  | ret => simp [loopE, exitCl] at h1
def clo1 (P : Program) (fn : Func) (c : Code) (n : Nat) (OQ : OraQ Int) (cap : List Value) (m : Mem) (p : Int) : Option Int :=
 runM P (liftQ OQ) (drawQ P OQ) (fun _ => none) (atEnd P fn (fun v _ => match v with | .int .i64 x => some x | _ => none)) n [.code c] ((.int .i64 p :: cap) ++ List.replicate (fn.ntmps - (.int .i64 p :: cap).length) undef) (unown m)
def narO {R : Type} (P : Program) (NAR CLO : FuncId) (ncap : Nat) (fn : Func) (c : Code) (n : Nat) (OQ : OraQ Int) (f : (Int → Option Int) → Int → Int → Int → Option (Int × Int × Int)) (rest : Ora R) : Ora R := fun g args m K =>
 if g = NAR then (match args with
  | [.int .i64 a, .int .i64 b, .int .i64 wd, .func (.func h) _ ⟨cap⟩] =>
   if h = CLO ∧ cap.length = ncap then ob (f (clo1 P fn c n OQ cap m) a b wd) fun q => K (.tuple ⟨[.agg ⟨[.int .i64 q.1, .int .i64 q.2.1]⟩, .int .i64 q.2.2]⟩) m else none
  | _ => none)
 else rest g args m K
theorem narO_ok {R : Type} {Ψ : World → Prop} (hΨ : ∀ w w', Ψ w → Below w.heap.size w w' → Ψ w') (hΦ : ∀ w, Φ w → Ψ w) {NAR CLO : FuncId} {ncap : Nat} {fn : Func} {c : Code} {n : Nat} {OQ : OraQ Int} {f : (Int → Option Int) → Int → Int → Int → Option (Int × Int × Int)} {rest : Ora R} (hm : P.follows .mixedOrders = true) (hs : Stable Φ base)
  (hO : ∀ Φ base, Stable Φ base → (∀ w, Φ w → Ψ w) → OraQOk P ξ Φ base OQ) (hr : OraOk P ξ Φ base rest) (hfn : P.funcs[CLO]? = some fn) (hb : fn.body = some c)
  (hc : ∀ {s : Int → Option Int} {a b wd x y z : Int} {caps : List Value} {w : World}, caps.length = ncap →
   (∀ w', Below w.heap.size w w' → ∀ p v, s p = some v → Calls P CLO ⟨.int .i64 p :: caps⟩ w' fun e w'' => e = .returned (.int .i64 v) ∧ Below w'.heap.size w' w'') → f s a b wd = some (x, y, z) →
   Calls P NAR ⟨[.int .i64 a, .int .i64 b, .int .i64 wd, .func (.func CLO) #[] ⟨caps⟩]⟩ w fun e w' => e = .returned (.tuple ⟨[.agg ⟨[.int .i64 x, .int .i64 y]⟩, .int .i64 z]⟩) ∧ Below w.heap.size w w') :
  OraOk P ξ Φ base (narO P NAR CLO ncap fn c n OQ f rest) := by
 intro g args m K r h η w argsc hrel ha
 unfold narO at h
 split at h
 ·rename_i hg; subst hg
  split at h
  ·rename_i a b wd hq fr cap
   split at h
   ·rename_i hcl
    obtain ⟨rfl, hlen⟩ := hcl
    rw [ob_eq] at h
    obtain ⟨⟨x, y, z⟩, hf, hK⟩ := Option.bind_eq_some_iff.mp h
    obtain ⟨u0, l0, e0, h0, ha⟩ := ha.of_cons
    obtain ⟨u1, l1, e1, h1, ha⟩ := ha.of_cons
    obtain ⟨u2, l2, e2, h2, ha⟩ := ha.of_cons
    obtain ⟨u3, l3, e3, h3, ha⟩ := ha.of_cons
    have hn := CVl.of_nil ha
    have h0 := h0.int_inv; have h1 := h1.int_inv; have h2 := h2.int_inv
    subst hn h0 h1 h2
    cases h3 with
    | func _ _ cs hl hcs =>
     have ea : argsc = ⟨[.int .i64 a, .int .i64 b, .int .i64 wd, .func (.func hq) #[] ⟨cs⟩]⟩ := by
      apply Array.ext'; simp only [e0, e1, e2, e3]
     subst ea
     refine (hc (s := clo1 P fn c n OQ cap m) (by rw [← hl]; exact hlen) (fun w' hb' p v hv => ?_) hf).mono ?_
     ·have hrel' := (hrel.below hs hb').unown
      have hst : Stable (fun w'' => Below w'.heap.size w' w'') w'.heap.size := fun w1 w2 h1 h2 => h1.trans h2
      have hq := hO (fun w'' => Below w'.heap.size w' w'') w'.heap.size hst (fun w'' h => hΨ w' w'' (hΨ w w' (hΦ w hrel.ext) hb') h)
      have hcv : CVl ξ η (.int .i64 p :: cap) (⟨.int .i64 p :: cs⟩ : Array Value).toList := .cons (.int _ _) ⟨hl, hcs⟩
      refine (calls_of_run hst (hq.lift hst) (drawQ_ok hm hst hq) (L := 0) (LS := fun _ => True) (fun c _ live len f e => by cases e) hfn hb (fun _ _ => trivial) hv hcv hrel').mono ?_
      rintro e w'' ⟨u, m', η', c', h5, rfl, _, h6, _, h7⟩
      simp only at h5
      split at h5
      ·cases h5; exact ⟨by rw [h6.int_inv], h7⟩
      ·cases h5
     ·rintro e w' ⟨rfl, hb'⟩
      refine ⟨_, m, η, _, hK, rfl, Eta.le.refl _, ?_, hrel.below hs hb', hb'.mono hrel.le⟩
      exact CV.refl2 rfl
   ·cases h
  ·cases h
 ·exact hr g args m K r h η w argsc hrel ha
def okv0 (v : Value) : Bool := match v with | .chan (some (_ + 1)) => true | v => clo0 v
def okv (v : Value) : Bool := match v with | .agg cs => cs.toList.all okv0 | v => okv0 v
def sub0 (ξ : Nat → Value) (v : Value) : Value := match v with | .chan (some (i + 1)) => ξ i | v => v
def subv (ξ : Nat → Value) (v : Value) : Value := match v with | .agg ⟨cs⟩ => .agg ⟨cs.map (sub0 ξ)⟩ | v => sub0 ξ v
theorem CV.eqs0 {v c : Value} (h : CV ξ η v c) (hc : okv0 v = true) : c = sub0 ξ v := by
 cases h <;> first
  | rfl
  | (simp [okv0, clo0] at hc; done)
theorem CVl.eqs0 : ∀ {l cs : List Value}, CVl ξ η l cs → l.all okv0 = true → cs = l.map (sub0 ξ)
 | [], cs, h, _ => CVl.of_nil h
 | v :: l, cs, h, hc => by
  obtain ⟨c, cs', rfl, h1, h2⟩ := h.of_cons
  simp only [List.all_cons, Bool.and_eq_true] at hc
  rw [List.map_cons, ← h1.eqs0 hc.1, ← CVl.eqs0 h2 hc.2]
theorem CV.eqs {v c : Value} (h : CV ξ η v c) (hc : okv v = true) : c = subv ξ v := by
 unfold okv at hc
 split at hc
 ·rename_i cs
  obtain ⟨ds, rfl, h1⟩ := h.agg_inv
  have := CVl.eqs0 h1 hc
  obtain ⟨cs⟩ := cs
  simp only [subv]
  congr 1; exact Array.ext' this
 ·rename_i hno
  have := h.eqs0 hc
  rw [this]
  unfold subv
  split
  ·rename_i cs; exact absurd rfl (hno ⟨cs⟩)
  ·rfl
theorem CVl.eqs : ∀ {l cs : List Value}, CVl ξ η l cs → l.all okv = true → cs = l.map (subv ξ)
 | [], cs, h, _ => CVl.of_nil h
 | v :: l, cs, h, hc => by
  obtain ⟨c, cs', rfl, h1, h2⟩ := h.of_cons
  simp only [List.all_cons, Bool.and_eq_true] at hc
  rw [List.map_cons, ← h1.eqs hc.1, ← CVl.eqs h2 hc.2]
theorem callQ_ofS {g : FuncId} {args : List Value} {v : Value} (ha : args.all okv = true) (hv : clo2 v = true)
  (H : ∀ w, Φ w → Calls P g ⟨args.map (subv ξ)⟩ w fun e w' => e = .returned v ∧ Below w.heap.size w w') : CallQ P ξ Φ base g args v := by
 intro η m w argsc hrel hc
 have e : argsc = ⟨args.map (subv ξ)⟩ := Array.ext' (CVl.eqs hc ha)
 subst e
 refine (H w hrel.ext).mono ?_
 rintro e w' ⟨rfl, hb⟩
 exact ⟨v, rfl, CV.refl2 hv, hb⟩
theorem subv_cv0 {v : Value} (h : okv0 v = true) : CV ξ η v (sub0 ξ v) := by
 unfold okv0 at h
 split at h
 ·exact .opq _
 ·rename_i hno
  have e : sub0 ξ v = v := by
   unfold sub0
   split
   ·rename_i i; exact absurd rfl (hno i)
   ·rfl
  rw [e]; exact CV.refl0 h
theorem subv_cvl0 : ∀ {l : List Value}, l.all okv0 = true → CVl ξ η l (l.map (sub0 ξ))
 | [], _ => CVl.nil
 | v :: l, h => by
  simp only [List.all_cons, Bool.and_eq_true] at h
  exact CVl.cons (subv_cv0 h.1) (subv_cvl0 h.2)
theorem subv_cv {v : Value} (h : okv v = true) : CV ξ η v (subv ξ v) := by
 unfold okv at h
 split at h
 ·rename_i cs
  obtain ⟨cs⟩ := cs
  have := subv_cvl0 (ξ := ξ) (η := η) h
  exact .agg _ _ this.1 this.2
 ·rename_i hno
  have e : subv ξ v = sub0 ξ v := by
   unfold subv
   split
   ·rename_i cs; exact absurd rfl (hno ⟨cs⟩)
   ·rfl
  rw [e]; exact subv_cv0 h
theorem subv_cvl : ∀ {l : List Value}, l.all okv = true → CVl ξ η l (l.map (subv ξ))
 | [], _ => CVl.nil
 | v :: l, h => by
  simp only [List.all_cons, Bool.and_eq_true] at h
  exact CVl.cons (subv_cv h.1) (subv_cvl h.2)
theorem calls_openO {R : Type} {w : World} {O : Ora R} {D : Dra R} (hO : OraOk P ξ (fun w' => Below w.heap.size w w') w.heap.size O) (hD : DraOk P ξ (fun w' => Below w.heap.size w w') w.heap.size D)
  {f : FuncId} {fn : Func} {c : Code} (hfn : P.funcs[f]? = some fn) (hb : fn.body = some c)
  {n : Nat} {args : List Value} {F : Value → Mem → Option R} {r : R} {v : Value} (ha : args.all okv = true) (hF : ∀ u m, F u m = some r → u = v) (hv : clo2 v = true)
  (h : runM P O D (fun _ => none) (atEnd P fn F) n [.code c] (args ++ List.replicate (fn.ntmps - args.length) undef) [] = some r) :
  Calls P f ⟨args.map (subv ξ)⟩ w fun e w' => e = .returned v ∧ Below w.heap.size w w' := by
 have hs : Stable (fun w' => Below w.heap.size w w') w.heap.size := fun w1 w2 h1 h2 => h1.trans h2
 have hrel : Rel ξ (fun w' => Below w.heap.size w w') w.heap.size (fun _ => none) [] w :=
  ⟨Below.refl _ _, Nat.le_refl _, fun b p e => (by cases e), fun b B o k e => (by cases e), fun b b' B o o' k e => (by cases e)⟩
 refine (calls_of_run hs hO hD (L := 0) (LF := fun _ => none) (LS := fun _ => True) (fun c _ live len f e => by cases e) hfn hb (fun _ _ => trivial) h (subv_cvl ha) hrel).mono ?_
 rintro e w' ⟨u, m', η', c, h0, rfl, _, h3, _, h5⟩
 have := hF u m' h0; subst this
 exact ⟨by rw [h3.eq2 hv], h5⟩
end
end Go.Proofs.Ytmahlfjnejbcnaa.Sx
