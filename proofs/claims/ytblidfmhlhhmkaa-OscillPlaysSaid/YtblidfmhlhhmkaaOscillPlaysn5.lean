/- A symbolic executor of the model's code over an abstract memory, and its words. -/
import Derived.WalkKit
import Derived.Below
import Derived.Orders
import Derived.Laws.Tables
import Derived.Laws.Cells
import Derived.Laws.StructEq
import Derived.Laws.CopyRow
import Derived.KernelRfl
import Derived.OwnWalk
set_option linter.unusedVariables false
set_option linter.unusedSimpArgs false
namespace Go.Proofs.Ytblidfmhlhhmkaa.Sx
open Go Go.RowKit
def oif {β : Type} (c : Prop) [inst : Decidable c] (A B : Option β) : Option β := match inst with | .isTrue _ => A | .isFalse _ => B
theorem oif_eq {β : Type} (c : Prop) [inst : Decidable c] (A B : Option β) : oif c A B = if c then A else B := by cases inst <;> rfl
structure Blk where
  cells : List Value
  elem : TypeId
  own : Bool
abbrev Mem := List Blk
abbrev Eta := Nat → Option (Nat × Nat)
/-- An abstract value and a value of the world: `chan 0` stands for whatever, `chan (i + 1)` for a fixed value of the world outside. -/
inductive CV (ξ : Nat → Value) (η : Eta) : Value → Value → Prop
  | psn (c : Value) : CV ξ η (.chan (some 0)) c
  | opq (i : Nat) : CV ξ η (.chan (some (i + 1))) (ξ i)
  | bool (b : Bool) : CV ξ η (.bool b) (.bool b)
  | int (k : IntKind) (n : Int) : CV ξ η (.int k n) (.int k n)
  | str (s : ByteArray) : CV ξ η (.string s) (.string s)
  | pnil : CV ξ η (.pointer none) (.pointer none)
  | ptr (b i B o : Nat) (h : η b = some (B, o)) : CV ξ η (.pointer (some ⟨b, i, none⟩)) (.pointer (some ⟨B, o + i, none⟩))
  | snil : CV ξ η (.slice none 0 0) (.slice none 0 0)
  | slice (b i B o n c c' : Nat) (h : η b = some (B, o)) (hc : n ≤ c') :
      CV ξ η (.slice (some ⟨b, i, none⟩) n c) (.slice (some ⟨B, o + i, none⟩) n c')
  | func (fn : Fn) (as cs : List Value) (hl : as.length = cs.length) (h : ∀ (i : Nat) (v c : Value), as[i]? = some v → cs[i]? = some c → CV ξ η v c) :
      CV ξ η (.func fn #[] ⟨as⟩) (.func fn #[] ⟨cs⟩)
  | agg (as cs : List Value) (hl : as.length = cs.length) (h : ∀ (i : Nat) (v c : Value), as[i]? = some v → cs[i]? = some c → CV ξ η v c) : CV ξ η (.agg ⟨as⟩) (.agg ⟨cs⟩)
  | tup (as cs : List Value) (hl : as.length = cs.length) (h : ∀ (i : Nat) (v c : Value), as[i]? = some v → cs[i]? = some c → CV ξ η v c) : CV ξ η (.tuple ⟨as⟩) (.tuple ⟨cs⟩)
  | nilFunc : CV ξ η .nilFunc .nilFunc
  | nilIface : CV ξ η .nilIface .nilIface
  | iface (t : TypeId) (v c : Value) (h : CV ξ η v c) : CV ξ η (.iface t v) (.iface t c)
def CVl (ξ : Nat → Value) (η : Eta) (as cs : List Value) : Prop :=
  as.length = cs.length ∧ ∀ (i : Nat) (v c : Value), as[i]? = some v → cs[i]? = some c → CV ξ η v c
def Eta.le (η η' : Eta) : Prop := ∀ b p, η b = some p → η' b = some p
theorem Eta.le.refl (η : Eta) : η.le η := fun _ _ h => h
theorem Eta.le.trans {a b c : Eta} (h : a.le b) (k : b.le c) : a.le c := fun x p e => k x p (h x p e)
def one (v : Value) : Bool := match v with | .agg _ => false | .tuple _ => false | .chan _ => false | _ => true
def known (v : Value) : Bool := match v with | .tuple _ => false | .chan _ => false | _ => true
def allOne (l : List Value) : Bool := l.all one
/-- a closed value: a scalar, or cells of scalars -/
def clo0 (v : Value) : Bool := match v with
  | .bool _ => true | .int _ _ => true | .string _ => true | .pointer none => true | .slice none 0 0 => true | .nilFunc => true | .nilIface => true | _ => false
def clo (v : Value) : Bool := match v with
  | .agg cs => cs.toList.all clo0 | .tuple cs => cs.toList.all clo0 | v => clo0 v
section
variable {ξ : Nat → Value} {η η' : Eta}
theorem CV.mono {v c : Value} (h : CV ξ η v c) (he : η.le η') : CV ξ η' v c := by
  induction h with
  | psn c => exact .psn c
  | opq i => exact .opq i
  | bool b => exact .bool b
  | int k n => exact .int k n
  | str s => exact .str s
  | pnil => exact .pnil
  | ptr b i B o h => exact .ptr b i B o (he _ _ h)
  | snil => exact .snil
  | slice b i B o n c c' h hc => exact .slice b i B o n c c' (he _ _ h) hc
  | func fn as cs hl h ih => exact .func fn as cs hl ih
  | agg as cs hl h ih => exact .agg as cs hl ih
  | tup as cs hl h ih => exact .tup as cs hl ih
  | nilFunc => exact .nilFunc
  | nilIface => exact .nilIface
  | iface t v c h ih => exact .iface t v c ih
theorem CVl.mono {as cs : List Value} (h : CVl ξ η as cs) (he : η.le η') : CVl ξ η' as cs := ⟨h.1, fun i v c hv hc => (h.2 i v c hv hc).mono he⟩
theorem CVl.nil : CVl ξ η [] [] := ⟨rfl, fun i v c h => by simp at h⟩
theorem CVl.cons {v c : Value} {as cs : List Value} (h : CV ξ η v c) (k : CVl ξ η as cs) : CVl ξ η (v :: as) (c :: cs) :=
  ⟨by simp [k.1], fun i u d hu hd => by
    cases i with
    | zero => simp at hu hd; subst hu hd; exact h
    | succ i => simp at hu hd; exact k.2 i u d hu hd⟩
theorem CVl.of_cons {v : Value} {as cs : List Value} (h : CVl ξ η (v :: as) cs) : ∃ c cs', cs = c :: cs' ∧ CV ξ η v c ∧ CVl ξ η as cs' := by
  obtain ⟨hl, h⟩ := h
  cases cs with
  | nil => simp at hl
  | cons c cs => exact ⟨c, cs, rfl, h 0 v c rfl rfl, by simpa using hl, fun i u d hu hd => h (i + 1) u d (by simpa using hu) (by simpa using hd)⟩
theorem CVl.of_nil {cs : List Value} (h : CVl ξ η [] cs) : cs = [] := by
  have := h.1; cases cs <;> simp_all
theorem CVl.append {as cs bs ds : List Value} (h : CVl ξ η as cs) (k : CVl ξ η bs ds) : CVl ξ η (as ++ bs) (cs ++ ds) := by
  refine ⟨by simp [h.1, k.1], fun i v c hv hc => ?_⟩
  have hl := h.1
  by_cases hi : i < as.length
  · rw [List.getElem?_append_left hi] at hv; rw [List.getElem?_append_left (by omega)] at hc; exact h.2 i v c hv hc
  · rw [List.getElem?_append_right (by omega)] at hv; rw [List.getElem?_append_right (by omega), ← hl] at hc; exact k.2 _ v c hv hc
theorem CVl.getD {as cs : List Value} (h : CVl ξ η as cs) (i : Nat) : CV ξ η (as.getD i undef) (cs.getD i undef) := by
  have hl := h.1
  by_cases hi : i < as.length
  · have h1 : as[i]? = some as[i] := List.getElem?_eq_getElem hi
    have h2 : cs[i]? = some (cs[i]'(by omega)) := List.getElem?_eq_getElem (by omega)
    simp only [List.getD, h1, h2, Option.getD_some]
    exact h.2 i _ _ h1 h2
  · have h1 : as[i]? = none := List.getElem?_eq_none (by omega)
    have h2 : cs[i]? = none := List.getElem?_eq_none (by omega)
    simp only [List.getD, h1, h2, Option.getD_none]
    exact .tup [] [] rfl (fun i v c h => by simp at h)
theorem CVl.get {as cs : List Value} (h : CVl ξ η as cs) {i : Nat} {v : Value} (hv : as[i]? = some v) : ∃ c, cs[i]? = some c ∧ CV ξ η v c := by
  have hi : i < as.length := by
    rcases Nat.lt_or_ge i as.length with h' | h'
    · exact h'
    · simp [List.getElem?_eq_none h'] at hv
  have h2 : cs[i]? = some (cs[i]'(by have := h.1; omega)) := List.getElem?_eq_getElem _
  exact ⟨_, h2, h.2 i _ _ hv h2⟩
theorem CVl.set {as cs : List Value} (h : CVl ξ η as cs) (i : Nat) {v c : Value} (hv : CV ξ η v c) : CVl ξ η (as.set i v) (cs.set i c) := by
  refine ⟨by simp [h.1], fun j u d hu hd => ?_⟩
  have hl := h.1
  rw [List.getElem?_set] at hu hd
  split at hu
  · rename_i hij
    rw [if_pos hij] at hd
    split at hu
    · rw [if_pos (by omega)] at hd; simp at hu hd; subst hu hd; exact hv
    · simp at hu
  · rename_i hij; rw [if_neg hij] at hd; exact h.2 j u d hu hd
theorem CVl.take {as cs : List Value} (h : CVl ξ η as cs) (n : Nat) : CVl ξ η (as.take n) (cs.take n) := by
  refine ⟨by simp [h.1], fun j u d hu hd => ?_⟩
  rw [List.getElem?_take] at hu hd
  split at hu
  · rename_i hj; rw [if_pos hj] at hd; exact h.2 j u d hu hd
  · simp at hu
theorem CVl.drop {as cs : List Value} (h : CVl ξ η as cs) (n : Nat) : CVl ξ η (as.drop n) (cs.drop n) := by
  refine ⟨by simp [h.1], fun j u d hu hd => ?_⟩
  rw [List.getElem?_drop] at hu hd
  exact h.2 _ u d hu hd
theorem CVl.map {α : Type} {l : List α} {f g : α → Value} (h : ∀ x ∈ l, CV ξ η (f x) (g x)) : CVl ξ η (l.map f) (l.map g) := by
  refine ⟨by simp, fun j u d hu hd => ?_⟩
  rw [List.getElem?_map] at hu hd
  cases hx : l[j]? with
  | none => simp [hx] at hu
  | some x => simp [hx] at hu hd; subst hu hd; exact h x (List.mem_of_getElem? hx)
theorem CV.refl0 {v : Value} (h : clo0 v = true) : CV ξ η v v := by
  unfold clo0 at h
  split at h <;> first | exact .bool _ | exact .int _ _ | exact .str _ | exact .pnil | exact .snil | exact .nilFunc | exact .nilIface | (simp at h; done)
theorem CVl.refl0 {l : List Value} (h : l.all clo0 = true) : CVl ξ η l l :=
  ⟨rfl, fun i v c hv hc => by
    have e : v = c := by rw [hv] at hc; exact Option.some.inj hc
    subst e
    exact CV.refl0 (List.all_eq_true.1 h v (List.mem_of_getElem? hv))⟩
theorem CV.refl1 {v : Value} (h : clo v = true) : CV ξ η v v := by
  unfold clo at h
  split at h
  · rename_i cs; have := CVl.refl0 (ξ := ξ) (η := η) h; exact .agg cs.toList cs.toList rfl this.2
  · rename_i cs; have := CVl.refl0 (ξ := ξ) (η := η) h; exact .tup cs.toList cs.toList rfl this.2
  · exact CV.refl0 h
theorem CV.agg_inv {as : Array Value} {c : Value} (h : CV ξ η (.agg as) c) : ∃ cs : Array Value, c = .agg cs ∧ CVl ξ η as.toList cs.toList := by
  cases h with | agg as cs hl h => exact ⟨_, rfl, hl, h⟩
theorem CV.tup_inv {as : Array Value} {c : Value} (h : CV ξ η (.tuple as) c) : ∃ cs : Array Value, c = .tuple cs ∧ CVl ξ η as.toList cs.toList := by
  cases h with | tup as cs hl h => exact ⟨_, rfl, hl, h⟩
theorem CV.int_inv {k : IntKind} {n : Int} {c : Value} (h : CV ξ η (.int k n) c) : c = .int k n := by cases h; rfl
theorem CV.bool_inv {b : Bool} {c : Value} (h : CV ξ η (.bool b) c) : c = .bool b := by cases h; rfl
theorem CV.ptr_inv {a : Addr} {c : Value} (h : CV ξ η (.pointer (some a)) c) : ∃ B o, a.spot = none ∧ η a.block = some (B, o) ∧ c = .pointer (some ⟨B, o + a.off, none⟩) := by
  cases h with | ptr b i B o h => exact ⟨B, o, rfl, h, rfl⟩
/-- the cells of a known value -/
theorem CV.cells {v c : Value} (h : CV ξ η v c) (hk : known v = true) : CVl ξ η v.cells.toList c.cells.toList := by
  have one : ∀ {v c : Value}, CV ξ η v c → v.cells = #[v] → c.cells = #[c] → CVl ξ η v.cells.toList c.cells.toList := fun h e e' => by
    rw [e, e']; exact CVl.cons h CVl.nil
  cases h <;> first
    | (simp [known] at hk; done)
    | exact ⟨by assumption, by assumption⟩
    | exact one (by constructor <;> assumption) rfl rfl
theorem CV.known' {v c : Value} (h : CV ξ η v c) (hk : one v = true) : c.oneCell' = true := by
  cases h <;> first | rfl | (simp [one] at hk; done)
theorem CVl.ones {as cs : List Value} (h : CVl ξ η as cs) (hk : allOne as = true) : ∀ c ∈ cs, c.oneCell' = true := by
  intro c hc
  obtain ⟨i, hi, rfl⟩ := List.getElem_of_mem hc
  have hi' : i < as.length := by have := h.1; omega
  exact (h.2 i as[i] cs[i] (List.getElem?_eq_getElem hi') (List.getElem?_eq_getElem hi)).known' (List.all_eq_true.1 hk _ (List.getElem_mem hi'))
end
/-- What the world must say of the abstract memory. `base`: below it nothing may be written; `Φ`: what is known of the world outside. -/
structure Rel (ξ : Nat → Value) (Φ : World → Prop) (base : Nat) (η : Eta) (m : Mem) (w : World) : Prop where
  ext : Φ w
  le : base ≤ w.heap.size
  dom : ∀ b p, η b = some p → b < m.length
  blk : ∀ b B o k, η b = some (B, o) → m[b]? = some k → ∃ cs ty fr, w.heap[B]? = some (.cells cs ty fr) ∧
    (∀ i v, k.cells[i]? = some v → ∃ c, cs.toList[o + i]? = some c ∧ CV ξ η v c) ∧ (k.own = true → fr = (0, 0) ∧ o = 0 ∧ base ≤ B)
  inj : ∀ b b' B o o' k, η b = some (B, o) → η b' = some (B, o') → m[b]? = some k → k.own = true → b = b'
def Stable (Φ : World → Prop) (base : Nat) : Prop := ∀ w w', Φ w → Below base w w' → Φ w'
section
variable {ξ : Nat → Value} {Φ : World → Prop} {base : Nat} {η : Eta} {m : Mem} {w w' : World}
theorem Rel.lt (h : Rel ξ Φ base η m w) {b B o : Nat} (e : η b = some (B, o)) : B < w.heap.size := by
  have hb := h.dom b _ e
  obtain ⟨cs, ty, fr, hh, _⟩ := h.blk b B o _ e (List.getElem?_eq_getElem hb)
  rcases Nat.lt_or_ge B w.heap.size with h' | h'
  · exact h'
  · simp [Array.getElem?_eq_none h'] at hh
/-- A world that holds all old blocks. -/
theorem Rel.keep (h : Rel ξ Φ base η m w) (hs : Stable Φ base) (hb : Below base w w') (hk : ∀ k, k < w.heap.size → w'.heap[k]? = w.heap[k]?) : Rel ξ Φ base η m w' where
  ext := hs _ _ h.ext hb
  le := Nat.le_trans h.le hb.size
  dom := h.dom
  blk b B o k e hm := by rw [hk B (h.lt e)]; exact h.blk b B o k e hm
  inj := h.inj
theorem Rel.below (h : Rel ξ Φ base η m w) (hs : Stable Φ base) (hb : Below w.heap.size w w') : Rel ξ Φ base η m w' :=
  h.keep hs (hb.mono h.le) hb.block
theorem Rel.drew (h : Rel ξ Φ base η m w) (hs : Stable Φ base) : Rel ξ Φ base η m w.drew := h.below hs (Below.refl _ _).drew
/-- A new block. -/
theorem Rel.alloc (h : Rel ξ Φ base η m w) (hs : Stable Φ base) (vs : List Value) (cs : Array Value) (t : TypeId) (hv : CVl ξ η vs cs.toList) :
    Rel ξ Φ base (fun b => if b = m.length then some (w.heap.size, 0) else η b) (m ++ [⟨vs, t, true⟩]) (w.alloc (.cells cs t)) ∧
    η.le (fun b => if b = m.length then some (w.heap.size, 0) else η b) ∧ Below base w (w.alloc (.cells cs t)) := by
  have hle : η.le (fun b => if b = m.length then some (w.heap.size, 0) else η b) := fun b p e => by
    have := h.dom b p e
    show (if b = m.length then _ else _) = _
    rw [if_neg (by omega)]; exact e
  have hB : Below base w (w.alloc (.cells cs t)) := (Below.refl _ _).alloc h.le _
  refine ⟨⟨hs _ _ h.ext hB, by rw [World.size_alloc]; exact Nat.le_succ_of_le h.le, ?_, ?_, ?_⟩, hle, hB⟩
  · intro b p e
    by_cases hb : b = m.length
    · simp [hb]
    · simp only [if_neg hb] at e; have := h.dom b p e; simp; omega
  · intro b B o k e hm
    by_cases hb : b = m.length
    · simp only [if_pos hb] at e; obtain ⟨rfl, rfl⟩ := Prod.mk.inj (Option.some.inj e)
      rw [hb, List.getElem?_append_right (Nat.le_refl _)] at hm
      simp at hm; subst hm
      refine ⟨cs, t, (0, 0), by show (w.heap.push _)[w.heap.size]? = _; simp, fun i v hi => ?_, fun _ => ⟨rfl, rfl, h.le⟩⟩
      obtain ⟨c, hc, hcv⟩ := hv.get hi
      exact ⟨c, by simpa using hc, hcv.mono hle⟩
    · simp only [if_neg hb] at e
      have hlt := h.dom b _ e
      rw [List.getElem?_append_left hlt] at hm
      obtain ⟨cs', ty, fr, hh, hc, ho⟩ := h.blk b B o k e hm
      refine ⟨cs', ty, fr, by rw [Below.heap_alloc _ _ _ (h.lt e)]; exact hh, fun i v hi => ?_, ho⟩
      obtain ⟨c, hc', hcv⟩ := hc i v hi
      exact ⟨c, hc', hcv.mono hle⟩
  · intro b b' B o o' k e e' hm hown
    by_cases hb : b = m.length <;> by_cases hb' : b' = m.length
    · omega
    · simp only [if_pos hb] at e; simp only [if_neg hb'] at e'
      have := h.lt e'; have := (Prod.mk.inj (Option.some.inj e)).1; omega
    · simp only [if_neg hb] at e; simp only [if_pos hb'] at e'
      have := h.lt e; have := (Prod.mk.inj (Option.some.inj e')).1; omega
    · simp only [if_neg hb] at e; simp only [if_neg hb'] at e'
      rw [List.getElem?_append_left (h.dom b _ e)] at hm
      exact h.inj b b' B o o' k e e' hm hown
/-- What the world must say of a block. -/
def RelAt (ξ : Nat → Value) (η : Eta) (m : Mem) (w : World) (b : Nat) : Prop :=
  ∀ B o k, η b = some (B, o) → m[b]? = some k → ∃ cs ty fr, w.heap[B]? = some (.cells cs ty fr) ∧ (∀ (i : Nat) (v : Value), k.cells[i]? = some v → ∃ c, cs.toList[o + i]? = some c ∧ CV ξ η v c)
theorem Rel.at (h : Rel ξ Φ base η m w) (b : Nat) : RelAt ξ η m w b := fun B o k e hm => by
  obtain ⟨cs, ty, fr, h1, h2, _⟩ := h.blk b B o k e hm
  exact ⟨cs, ty, fr, h1, h2⟩
theorem RelAt.load {b : Nat} (h : RelAt ξ η m w b) {i B o : Nat} {k : Blk} {v : Value} (e : η b = some (B, o)) (hm : m[b]? = some k) (hi : k.cells[i]? = some v) :
    ∃ c, w.cell? ⟨B, o + i, none⟩ = some c ∧ CV ξ η v c := by
  obtain ⟨cs, ty, fr, hh, hc⟩ := h B o k e hm
  obtain ⟨c, hc', hcv⟩ := hc i v hi
  exact ⟨c, by simp only [World.cell?, hh]; simpa using hc', hcv⟩
theorem Rel.load (h : Rel ξ Φ base η m w) {b i B o : Nat} {k : Blk} {v : Value} (e : η b = some (B, o)) (hm : m[b]? = some k) (hi : k.cells[i]? = some v) :
    ∃ c, w.cell? ⟨B, o + i, none⟩ = some c ∧ CV ξ η v c := by
  obtain ⟨cs, ty, fr, hh, hc, _⟩ := h.blk b B o k e hm
  obtain ⟨c, hc', hcv⟩ := hc i v hi
  exact ⟨c, by simp only [World.cell?, hh]; simpa using hc', hcv⟩
/-- Another content of an own block. -/
theorem Rel.store (h : Rel ξ Φ base η m w) (hs : Stable Φ base) {b B o : Nat} {k : Blk} (e : η b = some (B, o)) (hm : m[b]? = some k) (hown : k.own = true)
    (cells' : List Value) {cs cs' : Array Value} {ty : TypeId} (hh : w.heap[B]? = some (.cells cs ty (0, 0)))
    (hc : ∀ (i : Nat) (v : Value), cells'[i]? = some v → ∃ c, cs'.toList[i]? = some c ∧ CV ξ η v c) :
    Rel ξ Φ base η (m.set b ⟨cells', k.elem, true⟩) (w.setRow B cs') ∧ Below base w (w.setRow B cs') := by
  have hbB : base ≤ B ∧ o = 0 := by
    obtain ⟨_, _, _, _, _, ho⟩ := h.blk b B o k e hm
    exact ⟨(ho hown).2.2, (ho hown).2.1⟩
  have hlt := h.dom b _ e
  have hB : Below base w (w.setRow B cs') := ⟨rfl, rfl, rfl, by simp, fun j hj => setRow_other _ _ _ _ (by omega)⟩
  refine ⟨⟨hs _ _ h.ext hB, by simpa using h.le, fun b' p e' => by simpa using h.dom b' p e', ?_, ?_⟩, hB⟩
  · intro b' B' o' k' e' hm'
    rw [List.getElem?_set] at hm'
    by_cases hb : b = b'
    · subst hb
      rw [e] at e'; obtain ⟨rfl, rfl⟩ := Prod.mk.inj (Option.some.inj e')
      simp [hlt] at hm'; subst hm'
      refine ⟨cs', ty, (0, 0), setRow_heap _ _ _ _ _ _ hh, fun i v hi => ?_, fun _ => ⟨rfl, hbB.2, hbB.1⟩⟩
      rw [hbB.2, Nat.zero_add]; exact hc i v hi
    · rw [if_neg hb] at hm'
      have hne : B' ≠ B := fun he => hb (by subst he; exact h.inj b b' B' o o' k e e' hm hown)
      obtain ⟨cs2, ty2, fr2, hh2, hc2, ho2⟩ := h.blk b' B' o' k' e' hm'
      exact ⟨cs2, ty2, fr2, by rw [setRow_other _ _ _ _ hne]; exact hh2, hc2, ho2⟩
  · intro b1 b2 B' o1 o2 k' e1 e2 hm' hown'
    rw [List.getElem?_set] at hm'
    by_cases hb : b = b1
    · subst hb; exact h.inj b b2 B' o1 o2 k e1 e2 hm hown
    · rw [if_neg hb] at hm'; exact h.inj b1 b2 B' o1 o2 k' e1 e2 hm' hown'
end
def tinf (P : Program) (t : TypeId) : Option (TypeDesc × Nat × Value) :=
  match P.underlying t, P.info? t with
  | some d, some i => match i.zero with | some z => some (d, i.size, z) | none => none
  | _, _ => none
theorem tinf_ok {P : Program} {t : TypeId} {d : TypeDesc} {n : Nat} {z : Value} (h : tinf P t = some (d, n, z)) :
    P.underlying t = some d ∧ ∃ i, P.info? t = some i ∧ i.size = n ∧ i.zero = some z := by
  unfold tinf at h
  split at h
  · rename_i d' i' hd hi
    split at h
    · rename_i z' hz; simp at h; obtain ⟨rfl, rfl, rfl⟩ := h; exact ⟨hd, i', hi, rfl, hz⟩
    · simp at h
  · simp at h
def ev (t : List Value) : Operand → Value
  | .tmp i => t.getD i undef
  | .const v => if clo v = true then v else .chan (some 0)
  | .global _ => .chan (some 0)
  | .func f => .func (.func f) #[] #[]
def aggD : TypeDesc → Bool | .struct _ => true | .array _ _ => true | _ => false
section
variable {R : Type}
def abin (op : BinOp) (x y : Value) (K : Value → Option R) : Option R :=
  match op, x, y with
  | .add, .int k a, .int k' b => if k = k' then K (.int k (k.wrap (a + b))) else none
  | .sub, .int k a, .int k' b => if k = k' then K (.int k (k.wrap (a - b))) else none
  | .mul, .int k a, .int k' b => if k = k' then K (.int k (k.wrap (a * b))) else none
  | .quo, .int k a, .int k' b => if k = k' then (if b = 0 then none else K (.int k (k.wrap (a.tdiv b)))) else none
  | .rem, .int k a, .int k' b => if k = k' then (if b = 0 then none else K (.int k (a.tmod b))) else none
  | .and, .int k a, .int k' b => if k = k' then K (.int k (bits .and k a b)) else none
  | .or, .int k a, .int k' b => if k = k' then K (.int k (bits .or k a b)) else none
  | .shl, .int k a, .int _ b => if b < 0 then none else K (.int k (k.wrap (a * 2 ^ (min b.toNat k.bits))))
  | .shr, .int k a, .int _ b => if b < 0 then none else K (.int k (a.fdiv (2 ^ (min b.toNat k.bits))))
  | .eql, .int k a, .int k' b => if k = k' then K (.bool (a == b)) else none
  | .neq, .int k a, .int k' b => if k = k' then K (.bool (a != b)) else none
  | .lss, .int k a, .int k' b => if k = k' then K (.bool (decide (a < b))) else none
  | .leq, .int k a, .int k' b => if k = k' then K (.bool (decide (a ≤ b))) else none
  | .gtr, .int k a, .int k' b => if k = k' then K (.bool (decide (a > b))) else none
  | .geq, .int k a, .int k' b => if k = k' then K (.bool (decide (a ≥ b))) else none
  | _, _, _ => none
/-- equality of two scalars of a type -/
def aeq1 (P : Program) (t : TypeId) (x y : Value) : Option Bool :=
  match tinf P t, x, y with
  | some (.int _, _, _), .int k a, .int k' b => if k = k' then some (a == b) else none
  | some (.bool, _, _), .bool a, .bool b => some (a == b)
  | some (.pointer _, _, _), .pointer none, .pointer none => some true
  | some (.pointer _, _, _), .pointer none, .pointer (some _) => some false
  | some (.pointer _, _, _), .pointer (some _), .pointer none => some false
  | _, _, _ => none
def aun (op : UnOp) (x : Value) (K : Value → Option R) : Option R :=
  match op, x with
  | .neg, .int k a => K (.int k (k.wrap (0 - a)))
  | .not, .bool b => K (.bool !b)
  | _, _ => none
/-- the cells from i on of a block -/
def cellsAt (k : Blk) (i n : Nat) : Option (List Value) := let l := (k.cells.drop i).take n; if l.length = n then some l else none
def aload (P : Program) (t : TypeId) (a : Value) (m : Mem) (K : Value → Option R) : Option R :=
  match a with
  | .pointer (some ⟨b, i, none⟩) =>
    match tinf P t, m[b]? with
    | some (d, n, _), some k =>
      if aggD d = true then (match cellsAt k i n with | some l => K (.agg ⟨l⟩) | none => none)
      else (match k.cells[i]? with | some v => K v | none => none)
    | _, _ => none
  | _ => none
def astore (P : Program) (t : TypeId) (a v : Value) (m : Mem) (K : Mem → Option R) : Option R :=
  match a with
  | .pointer (some ⟨b, i, none⟩) =>
    match tinf P t, m[b]? with
    | some (_, n, _), some k =>
      if k.own = true ∧ known v = true ∧ allOne v.cells.toList = true ∧ v.cells.toList.length = n ∧ i + n ≤ k.cells.length then
        K (m.set b ⟨k.cells.take i ++ v.cells.toList ++ k.cells.drop (i + n), k.elem, true⟩)
      else none
    | _, _ => none
  | _ => none
def apart (P : Program) (t : TypeId) (l : List Value) (off : Nat) (K : Value → Option R) : Option R :=
  match tinf P t with
  | some (d, n, _) =>
    if aggD d = true then K (.agg ⟨(l.drop off).take n⟩)
    else (match l[off]? with | some v => K v | none => none)
  | none => none
def aeqFs (P : Program) (xs ys : List Value) : List Field → Option Bool
  | [] => some true
  | f :: fs =>
    if (f.name == "_") = true then none
    else (match apart P f.type xs f.offset (fun a => apart P f.type ys f.offset (fun b => aeq1 P f.type a b)), aeqFs P xs ys fs with
      | some r, some s => some (r && s)
      | _, _ => none)
def aeqT (P : Program) (t : TypeId) (x y : Value) : Option Bool :=
  match x, y with
  | .agg ⟨xs⟩, .agg ⟨ys⟩ => (match tinf P t with
    | some (.struct fs, _, _) => if P.stoodInHeld t = false ∧ P.eqGuardType P.depth t = false then aeqFs P xs ys fs.toList else none
    | _ => none)
  | x, y => aeq1 P t x y
/-- two values that are compared as such -/
def like (x y : Value) : Bool := match x, y with | .bool _, .bool _ => true | .pointer _, .pointer _ => true | .agg _, .agg _ => true | _, _ => false
def acmp (P : Program) (op : BinOp) (t : TypeId) (x y : Value) (K : Value → Option R) : Option R :=
  match x, y with
  | .int k a, .int k' b => abin op (.int k a) (.int k' b) K
  | x, y => if like x y = true then (match op with
    | .eql => (match aeqT P t x y with | some b => K (.bool b) | none => none)
    | .neq => (match aeqT P t x y with | some b => K (.bool (!b)) | none => none)
    | _ => none) else none
def afield (P : Program) (s : TypeId) (x : Value) (f : Nat) (K : Value → Option R) : Option R :=
  match tinf P s, x with
  | some (.struct fs, _, _), .agg cs => (match fs[f]? with | some fd => apart P fd.type cs.toList fd.offset K | none => none)
  | _, _ => none
def afieldAddr (P : Program) (s : TypeId) (x : Value) (f : Nat) (K : Value → Option R) : Option R :=
  match tinf P s, x with
  | some (.struct fs, _, _), .pointer (some ⟨b, i, none⟩) =>
    (match fs[f]? with
    | some fd => (match tinf P fd.type with
      | some (_, n, _) => if n = 0 then none else K (.pointer (some ⟨b, i + fd.offset, none⟩))
      | none => none)
    | none => none)
  | _, _ => none
/-- element j of n elements from place off on, j an integer that need not be known -/
def sel (n off step : Nat) (j : Int) (K : Nat → Option R) : Option R :=
  match n with
  | 0 => none
  | n + 1 => if j = 0 then K off else sel n (off + step) step (j - 1) K
def aindexAddr (P : Program) (t : TypeId) (x ix : Value) (K : Value → Option R) : Option R :=
  match tinf P t, x, ix with
  | some (.slice e, _, _), .slice (some ⟨b, i, none⟩) len _, .int _ j =>
    (match tinf P e with
    | some (_, n, _) => sel len 0 n j (fun o => K (.pointer (some ⟨b, i + o, none⟩)))
    | none => none)
  | some (.array len e, _, _), .pointer (some ⟨b, i, none⟩), .int _ j =>
    (match tinf P e with
    | some (_, n, _) => sel len 0 n j (fun o => K (.pointer (some ⟨b, i + o, none⟩)))
    | none => none)
  | _, _, _ => none
def aindex (P : Program) (t : TypeId) (x ix : Value) (K : Value → Option R) : Option R :=
  match tinf P t, x, ix with
  | some (.array len e, _, _), .agg cs, .int _ j =>
    (match tinf P e with
    | some (_, n, _) => sel len 0 n j (fun o => apart P e cs.toList o K)
    | none => none)
  | _, _, _ => none
def amax (l : List Value) (k : IntKind) (x : Int) (K : Value → Option R) : Option R :=
  match l with
  | [] => K (.int k x)
  | .int _ y :: l => amax l k (if y > x then y else x) K
  | _ => none
def amin (l : List Value) (k : IntKind) (x : Int) (K : Value → Option R) : Option R :=
  match l with
  | [] => K (.int k x)
  | .int _ y :: l => amin l k (if y < x then y else x) K
  | _ => none
def abuiltin (P : Program) (b : Builtin) (ts : Array TypeId) (l : List Value) (K : Value → Option R) : Option R :=
  match b, l with
  | .max, .int k x :: l => amax l k x K
  | .min, .int k x :: l => amin l k x K
  | .len, [.slice _ n _] => (match ts[0]? with
    | some t => (match tinf P t with | some (.slice _, _, _) => K (.int .i64 (n : Int)) | _ => none)
    | none => none)
  | _, _ => none
def callable (P : Program) (g : FuncId) : Bool :=
  match P.funcs[g]? with
  | some fn => !(fn.name == "runtime.NumGoroutine") && fn.body.isSome
  | none => false
/-- what is told of calls: number, arguments, memory; with what comes behind -/
abbrev Ora (R : Type) := FuncId → List Value → Mem → (Value → Mem → Option R) → Option R
def runOp (P : Program) (O : Ora R) (o : Oper) (t : List Value) (m : Mem) (K : Value → Mem → Option R) : Option R :=
  match o.op with
  | .move x => K (ev t x) m
  | .assign x => K (ev t x) m
  | .pick c a b => (match ev t c with | .bool q => if q = true then K (ev t a) m else K (ev t b) m | _ => none)
  | .alloc e => (match tinf P e with | some (_, _, z) => if clo z = true ∧ known z = true then K (.pointer (some ⟨m.length, 0, none⟩)) (m ++ [⟨z.cells.toList, e, true⟩]) else none | none => none)
  | .box e x => if known (ev t x) = true then K (.pointer (some ⟨m.length, 0, none⟩)) (m ++ [⟨(ev t x).cells.toList, e, true⟩]) else none
  | .build ty parts => (match tinf P ty, P.built ty (parts.toList.map fun p => (p.1, ev t p.2)) with
      | some (_, _, z), some cs => if parts.toList.all (fun p => known (ev t p.2)) = true ∧ clo z = true ∧ known z = true then K (.agg cs) m else none
      | _, _ => none)
  | .load ty a => aload P ty (ev t a) m (fun v => K v m)
  | .store ty a x => astore P ty (ev t a) (ev t x) m (fun m' => K undef m')
  | .nilCheck x => (match ev t x with | .pointer (some ⟨b, i, none⟩) => K (.pointer (some ⟨b, i, none⟩)) m | .func (.func g) f c => K (.func (.func g) f c) m | _ => none)
  | .binOp op ty x y _ => acmp P op ty (ev t x) (ev t y) (fun v => K v m)
  | .unOp op _ x => aun op (ev t x) (fun v => K v m)
  | .convert s d x => (match tinf P s, tinf P d, ev t x with | some _, some (.int k, _, _), .int _ n => K (.int k (k.wrap n)) m | _, _, _ => none)
  | .makeFunc fn first captured => if first.toList.length = 0 then K (.func fn #[] ⟨captured.toList.map (ev t)⟩) m else none
  | .fieldAddr s x f => afieldAddr P s (ev t x) f (fun v => K v m)
  | .field s x f => afield P s (ev t x) f (fun v => K v m)
  | .indexAddr ty x ix => aindexAddr P ty (ev t x) (ev t ix) (fun v => K v m)
  | .index ty x ix => aindex P ty (ev t x) (ev t ix) (fun v => K v m)
  | .extract x i => (match ev t x with | .tuple vs => (match vs.toList[i]? with | some v => K v m | none => none) | _ => none)
  | .call c => (match c.callee with
    | .value f => (match ev t f with | .func (.func g) _ cap => if callable P g = true then O g (c.args.toList.map (ev t) ++ cap.toList) m K else none | _ => none)
    | .builtin b => abuiltin P b c.argTypes (c.args.toList.map (ev t)) (fun v => K v m)
    | _ => none)
  | _ => none
def ptrBlk : Value → Option Nat | .pointer (some a) => some a.block | _ => none
/-- the block that an operation reads -/
def rdBlk (o : Oper) (t : List Value) : Option Nat := match o.op with | .load _ x => ptrBlk (ev t x) | _ => none
/-- the block that an operation writes -/
def wrBlk (o : Oper) (t : List Value) : Option Nat := match o.op with | .store _ x _ => ptrBlk (ev t x) | _ => none
def isAlloc (o : Oper) : Bool := match o.op with | .alloc _ => true | .box _ _ => true | _ => false
def isStore (o : Oper) : Bool := match o.op with | .store _ _ _ => true | _ => false
def force1 (v : Value) (K : Value → Option R) : Option R := match v with
  | .int k n => K (.int k n)
  | .bool b => K (.bool b)
  | .pointer (some ⟨b, i, s⟩) => K (.pointer (some ⟨b, i, s⟩))
  | .slice (some ⟨b, i, s⟩) n c => K (.slice (some ⟨b, i, s⟩) n c)
  | .func f a c => K (.func f a c)
  | .chan o => K (.chan o)
  | .agg ⟨l⟩ => K (.agg ⟨l⟩)
  | .tuple ⟨l⟩ => K (.tuple ⟨l⟩)
  | v => K v
def forceL : List Value → (List Value → Option R) → Option R
  | [], K => K []
  | v :: l, K => force1 v (fun v => forceL l (fun l => K (v :: l)))
def forceV (v : Value) (K : Value → Option R) : Option R := match v with
  | .agg ⟨l⟩ => forceL l (fun l => K (.agg ⟨l⟩))
  | .tuple ⟨l⟩ => forceL l (fun l => K (.tuple ⟨l⟩))
  | v => force1 v K
def forceM : Mem → (Mem → Option R) → Option R
  | [], K => K []
  | ⟨cs, e, o⟩ :: m, K => forceL cs (fun cs => forceM m (fun m => K (⟨cs, e, o⟩ :: m)))
theorem force1_eq (v : Value) (K : Value → Option R) : force1 v K = K v := by unfold force1; split <;> rfl
theorem forceL_eq : ∀ (l : List Value) (K : List Value → Option R), forceL l K = K l
  | [], K => rfl
  | v :: l, K => by rw [forceL, force1_eq, forceL_eq l]
theorem forceV_eq (v : Value) (K : Value → Option R) : forceV v K = K v := by
  unfold forceV
  split
  · rw [forceL_eq]
  · rw [forceL_eq]
  · exact force1_eq v K
theorem forceM_eq : ∀ (m : Mem) (K : Mem → Option R), forceM m K = K m
  | [], K => rfl
  | ⟨cs, e, o⟩ :: m, K => by rw [forceM, forceL_eq, forceM_eq m]
def putL (t : List Value) (dst : Option Tmp) (v : Value) : List Value := match dst with | some d => t.set d v | none => t
/-- the operations of a region, in the order of the text -/
def runOps (P : Program) (O : Ora R) (ops : Array Oper) : List Oper → List Value → Mem → (List Value → Mem → Option R) → Option R
  | [], t, m, K => K t m
  | o :: l, t, m, K =>
    match o.guard with
    | none => runOp P O o t m (fun v m' => forceV v fun v => runOps P O ops l (putL t o.dst v) m' K)
    | some (j, want) =>
      match (ops[j]?).bind (·.dst) with
      | some d =>
        (match t[d]? with
        | some (.bool b) =>
          if b = true then
            (if want = true then runOp P O o (t.set d (.bool true)) m (fun v m' => forceV v fun v => runOps P O ops l (putL (t.set d (.bool true)) o.dst v) m' K)
            else runOps P O ops l (putL (t.set d (.bool true)) o.dst undef) m K)
          else
            (if want = true then runOps P O ops l (putL (t.set d (.bool false)) o.dst undef) m K
            else runOp P O o (t.set d (.bool false)) m (fun v m' => forceV v fun v => runOps P O ops l (putL (t.set d (.bool false)) o.dst v) m' K))
        | some (.tuple ⟨[]⟩) => runOps P O ops l (putL t o.dst undef) m K
        | _ => none)
      | none => none
def finL (P : Program) : List ResultVar → List Value → Mem → Option (List Value)
  | [], _, _ => some []
  | .tmp i :: l, t, m => (match finL P l t m with | some vs => some (t.getD i undef :: vs) | none => none)
  | .cell i ty :: l, t, m => (match aload P ty (t.getD i undef) m some, finL P l t m with | some v, some vs => some (v :: vs) | _, _ => none)
def fin (P : Program) (fn : Func) (t : List Value) (m : Mem) (F : Value → Mem → Option R) : Option R :=
  match finL P fn.results.toList t m with
  | some vs => F (match vs with | [v] => v | vs => .tuple ⟨vs⟩) m
  | none => none
end
/-- how a piece of code is left -/
inductive Ex where
  | normal
  | exit (id : Nat)
  | ret
/-- the number of a loop: that of the first region of its body -/
def headId : Code → Nat
  | .region id _ _ => id
  | .seq a _ => headId a
  | .block _ c => headId c
  | .cond _ a _ => headId a
  | .loop c => headId c
  | .scope c => headId c
  | _ => 0
/-- the bodies of the loops in a piece of code -/
def loops : Code → List Code
  | .seq a b => loops a ++ loops b
  | .block _ c => loops c
  | .cond _ a b => loops a ++ loops b
  | .loop c => c :: loops c
  | .scope c => loops c
  | _ => []
def loopsI : Item → List Code
  | .code c => loops c
  | .inLoop c => c :: loops c
  | _ => []
/-- does a value lead to blocks below len alone? -/
def refs (len : Nat) : Nat → Value → Bool
  | _, .bool _ => true
  | _, .int _ _ => true
  | _, .string _ => true
  | _, .pointer none => true
  | _, .pointer (some a) => decide (a.block < len)
  | _, .slice none _ _ => true
  | _, .slice (some a) _ _ => decide (a.block < len)
  | _, .chan _ => true
  | d + 1, .func _ _ cs => cs.toList.all (refs len d)
  | d + 1, .agg cs => cs.toList.all (refs len d)
  | d + 1, .tuple cs => cs.toList.all (refs len d)
  | _, .nilFunc => true
  | _, .nilIface => true
  | d + 1, .iface _ v => refs len d v
  | _, _ => false
def kill (live : List Nat) : Nat → List Value → List Value
  | _, [] => []
  | i, v :: t => (if live.contains i = true then v else .chan (some 0)) :: kill live (i + 1) t
/-- what is forgotten at a loop's head: the slots that are not named, the blocks from len on -/
def clean {R : Type} (live : List Nat) (len : Nat) (t : List Value) (m : Mem) (K : List Value → Mem → Option R) : Option R :=
  if (kill live 0 t).all (refs len 4) = true ∧ (m.take len).all (fun k => k.cells.all (refs len 4)) = true then K (kill live 0 t) (m.take len) else none
abbrev LoopF (R : Type) := List Value → Mem → (Ex → List Value → Mem → Option R) → Option R
/-- the executor: the code that is still to come, the slots, the memory, what comes behind -/
def runM {R : Type} (P : Program) (O : Ora R) (D : Array Oper → List Value → Mem → (List Value → Mem → Option R) → Option R) (L : Nat → Option (List Nat × Nat × LoopF R)) (E : Ex → List Value → Mem → Option R) :
    Nat → List Item → List Value → Mem → Option R
  | 0, _, _, _ => none
  | n + 1, todo, t, m =>
    match todo with
    | [] => E .normal t m
    | .code .ret :: _ => E .ret t m
    | .code .skip :: k => runM P O D L E n k t m
    | .code (.label _) :: k => runM P O D L E n k t m
    | .inBlock _ :: k => runM P O D L E n k t m
    | .code (.seq a b) :: k => runM P O D L E n (.code a :: .code b :: k) t m
    | .code (.cond c a b) :: k => (match ev t c with
      | .bool q => if q = true then runM P O D L E n (.code a :: k) t m else runM P O D L E n (.code b :: k) t m
      | _ => none)
    | .code (.block id c) :: k => runM P O D L E n (.code c :: .inBlock id :: k) t m
    | .code (.loop c) :: k => (match L (headId c) with
      | none => runM P O D L E n (.code c :: .inLoop c :: k) t m
      | some (live, len, f) => clean live len t m (fun t' m' => f t' m' (fun e t2 m2 => match e with
        | .normal => none
        | .ret => E .ret t2 m2
        | .exit id => (match exitTo id k with | some k' => runM P O D L E n k' t2 m2 | none => E (.exit id) t2 m2))))
    | .inLoop c :: k => (match L (headId c) with
      | none => runM P O D L E n (.code c :: .inLoop c :: k) t m
      | some (live, len, f) => clean live len t m (fun t' m' => f t' m' (fun e t2 m2 => match e with
        | .normal => none
        | .ret => E .ret t2 m2
        | .exit id => (match exitTo id k with | some k' => runM P O D L E n k' t2 m2 | none => E (.exit id) t2 m2))))
    | .code (.exit id) :: k => (match exitTo id k with | some k' => runM P O D L E n k' t m | none => E (.exit id) t m)
    | .code (.region _ ops draw) :: k =>
      if draw = true then D ops t m (fun t' m' => forceL t' fun t' => forceM m' fun m' => runM P O D L E n k t' m')
      else runOps P O ops ops.toList t m (fun t' m' => forceL t' fun t' => forceM m' fun m' => runM P O D L E n k t' m')
    | _ => none
/-- the end of a function -/
def atEnd {R : Type} (P : Program) (fn : Func) (F : Value → Mem → Option R) : Ex → List Value → Mem → Option R
  | .exit _, _, _ => none
  | _, t, m => fin P fn t m F
end Go.Proofs.Ytblidfmhlhhmkaa.Sx
