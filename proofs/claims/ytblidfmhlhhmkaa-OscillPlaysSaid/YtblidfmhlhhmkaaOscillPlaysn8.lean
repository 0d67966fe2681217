/- Regions that draw their order, without stores: whatever the order, the slots and the memory are those of the order of the text. -/
import Derived.Test.YtblidfmhlhhmkaaOscillPlaysn7
set_option linter.unusedVariables false
set_option linter.unusedSimpArgs false
namespace Go.Proofs.Ytblidfmhlhhmkaa.Sx
open Go Go.RowKit
/-- what is told of calls that read and write no memory of ours: number, arguments; with what comes behind -/
abbrev OraQ (R : Type) := FuncId → List Value → (Value → Option R) → Option R
def liftQ {R : Type} (O : OraQ R) : Ora R := fun g args m K => O g args (fun v => K v m)
/-- an edge of o on operation i that binds -/
def edgeOn (o : Oper) (i : Nat) : Bool := o.after.toList.any fun e => Region.binds .any e && e.on == i
/-- operations that look at slots alone -/
def isFree (o : Oper) : Bool := match o.op with | .move _ => true | .assign _ => true | .extract _ _ => true | _ => false
/-- does o wait for operation i, or do the two not meet? -/
def waitsOr (ops : Array Oper) (o : Oper) (i : Nat) : Bool :=
  edgeOn o i || (match ops[i]? with | some p => isFree p && p.apart ops o | none => false)
/-- how many operations stand before the end that is bound to the text's order: there each waits for all that stand before it -/
def freeLen (ops : Array Oper) : Nat :=
  let rec go : List Oper → Nat → Nat
    | [], n => n
    | o :: l, n => if (List.range n.pred).all (fun i => waitsOr ops o i) = true ∧ 0 < n then go l n.pred else n
  go ops.toList.reverse ops.size
/-- may the region's first n operations be taken in the order of the text? Each slot is written once; who reads a slot that they write waits for the writer. The others wait for all that stand before them. -/
def drawOk (ops : Array Oper) (n : Nat) : Bool :=
  let l := (ops.toList.take n).zipIdx
  (l.all fun (o, j) => (o.after.toList.all fun e => !Region.binds .any e || decide (e.on < j)) &&
    l.all fun (p, i) => match p.dst with
      | some d => (i == j || o.dst != some d) && (!(o.looksAt ops).contains d || (decide (i < j) && edgeOn o i))
      | none => true) &&
  ((ops.toList.zipIdx.drop n).all fun (o, j) => (List.range j).all (fun i => if i < n then waitsOr ops o i else edgeOn o i) && (o.after.toList.all fun e => !Region.binds .any e || decide (e.on < j))) &&
  Region.noSelect ops
/-- do the stores wait for those that read or write the same block, and those for them? -/
def memOk (ops : Array Oper) (n : Nat) (T : List Value) : Bool :=
  let l := (ops.toList.take n).zipIdx
  l.all fun (p, i) => match wrBlk p T with
    | some b => l.all fun (o, j) => i == j || !(rdBlk o T == some b || wrBlk o T == some b) || (if i < j then edgeOn o i else edgeOn p j)
    | none => true
section
variable {ξ : Nat → Value} {Φ : World → Prop} {base : Nat} {η η' : Eta} {m m' : Mem} {w w' : World} {P : Program} {t : List Value} {a : Act}
/-- What a quiet call does. -/
def CallQ (P : Program) (ξ : Nat → Value) (Φ : World → Prop) (base : Nat) (g : FuncId) (args : List Value) (v : Value) : Prop :=
  ∀ η m w argsc, Rel ξ Φ base η m w → CVl ξ η args argsc.toList → Calls P g argsc w fun e w' => ∃ c, e = .returned c ∧ CV ξ η v c ∧ Below w.heap.size w w'
def OraQOk {R : Type} (P : Program) (ξ : Nat → Value) (Φ : World → Prop) (base : Nat) (O : OraQ R) : Prop :=
  ∀ g args K r, O g args K = some r → ∃ v, K v = some r ∧ CallQ P ξ Φ base g args v
theorem OraQOk.lift {R : Type} {O : OraQ R} (hs : Stable Φ base) (h : OraQOk P ξ Φ base O) : OraOk P ξ Φ base (liftQ O) := by
  intro g args m K r hr η w argsc hrel hc
  obtain ⟨v, h1, h2⟩ := h g args _ r hr
  refine (h2 η m w argsc hrel hc).mono ?_
  rintro e w' ⟨c, rfl, hcv, hb⟩
  exact ⟨v, m, η, c, h1, rfl, Eta.le.refl _, hcv, hrel.below hs hb, hb.mono hrel.le⟩
theorem ev_congr {t t' : List Value} (x : Operand) (h : ∀ d, x = .tmp d → t.getD d undef = t'.getD d undef) : ev t x = ev t' x := by
  cases x with
  | tmp d => exact h d rfl
  | _ => rfl
/-- A block of the memory that the world has not seen yet. -/
theorem Rel.alloc' (h : Rel ξ Φ base η m w) (hs : Stable Φ base) {id : Nat} {vs : List Value} {ty : TypeId} (cs : Array Value) (hM : m[id]? = some ⟨vs, ty, true⟩) (hn : η id = none) (hv : CVl ξ η vs cs.toList) :
    Rel ξ Φ base (fun b => if b = id then some (w.heap.size, 0) else η b) m (w.alloc (.cells cs ty)) ∧
    η.le (fun b => if b = id then some (w.heap.size, 0) else η b) ∧ Below base w (w.alloc (.cells cs ty)) := by
  have hle : η.le (fun b => if b = id then some (w.heap.size, 0) else η b) := fun b p e => by
    show (if b = id then _ else _) = _
    rw [if_neg (fun hb => by subst hb; rw [hn] at e; cases e)]; exact e
  have hB : Below base w (w.alloc (.cells cs ty)) := (Below.refl _ _).alloc h.le _
  have hid : id < m.length := by
    rcases Nat.lt_or_ge id m.length with h' | h'
    · exact h'
    · simp [List.getElem?_eq_none h'] at hM
  refine ⟨⟨hs _ _ h.ext hB, by rw [World.size_alloc]; exact Nat.le_succ_of_le h.le, ?_, ?_, ?_⟩, hle, hB⟩
  · intro b p e
    by_cases hb : b = id
    · omega
    · simp only [if_neg hb] at e; exact h.dom b p e
  · intro b B o k e hm
    by_cases hb : b = id
    · simp only [if_pos hb] at e; obtain ⟨rfl, rfl⟩ := Prod.mk.inj (Option.some.inj e)
      subst hb; rw [hM] at hm; simp at hm; subst hm
      refine ⟨cs, ty, (0, 0), by show (w.heap.push _)[w.heap.size]? = _; simp, fun i v hi => ?_, fun _ => ⟨rfl, rfl, h.le⟩⟩
      obtain ⟨c, hc, hcv⟩ := hv.get hi
      exact ⟨c, by simpa using hc, hcv.mono hle⟩
    · simp only [if_neg hb] at e
      obtain ⟨cs', ty', fr, hh, hc, ho⟩ := h.blk b B o k e hm
      refine ⟨cs', ty', fr, by rw [Below.heap_alloc _ _ _ (h.lt e)]; exact hh, fun i v hi => ?_, ho⟩
      obtain ⟨c, hc', hcv⟩ := hc i v hi
      exact ⟨c, hc', hcv.mono hle⟩
  · intro b b' B o o' k e e' hm hown
    by_cases hb : b = id <;> by_cases hb' : b' = id
    · omega
    · simp only [if_pos hb] at e; simp only [if_neg hb'] at e'
      have := h.lt e'; have := (Prod.mk.inj (Option.some.inj e)).1; omega
    · simp only [if_neg hb] at e; simp only [if_pos hb'] at e'
      have := h.lt e; have := (Prod.mk.inj (Option.some.inj e')).1; omega
    · simp only [if_neg hb] at e; simp only [if_neg hb'] at e'
      exact h.inj b b' B o o' k e e' hm hown
/-- What the slots T say of an operation's guard. -/
def WantT (ops : Array Oper) (o : Oper) (T : List Value) (b : Bool) : Prop :=
  (o.guard = none ∧ b = true) ∨ ∃ j want d, o.guard = some (j, want) ∧ (ops[j]?).bind (·.dst) = some d ∧
    ((∃ q, T[d]? = some (.bool q) ∧ b = (q == want)) ∨ (T[d]? = some (.tuple ⟨[]⟩) ∧ b = false))
/-- What an operation does in every order, once its slots are known: M before it, M' behind it, in the order of the text. -/
inductive Loc (P : Program) (ξ : Nat → Value) (Φ : World → Prop) (base : Nat) (ops : Array Oper) (o : Oper) (T : List Value) (M M' : Mem) : Prop
  | skip (hw : WantT ops o T false) (hd : ∀ d, o.dst = some d → d < T.length → T[d]? = some undef) (hM' : M' = M)
  | val (hw : WantT ops o T true) (hst : isStore o = false) (hM' : M' = M) (v : Value) (hd : ∀ d, o.dst = some d → d < T.length → T[d]? = some v)
      (H : ∀ (η : Eta) (a : Act) (w : World) (tt : List Value) (Mc : Mem), Rel ξ Φ base η Mc w → (∀ b, rdBlk o T = some b → Mc[b]? = M[b]?) → CVl ξ η tt a.tmps.toList → (∀ x ∈ o.op.operands, ev tt x = ev T x) →
        (∃ c, (execOp a.eval o).run P w = .ok (.value c) w ∧ CV ξ η v c) ∨
        (∃ g argsc, (execOp a.eval o).run P w = .ok (.enter g argsc) w ∧ Calls P g argsc w fun e w' => ∃ c, e = .returned c ∧ CV ξ η v c ∧ Below w.heap.size w w'))
  | alloc (hw : WantT ops o T true) (id : Nat) (vs : List Value) (ty : TypeId) (hal : isAlloc o = true) (hM' : M' = M) (hM : M[id]? = some ⟨vs, ty, true⟩)
      (hd : ∀ d, o.dst = some d → d < T.length → T[d]? = some (.pointer (some ⟨id, 0, none⟩))) (hdst : ∃ d, o.dst = some d ∧ d < T.length)
      (H : ∀ (η : Eta) (a : Act) (w : World) (tt : List Value), CVl ξ η tt a.tmps.toList → (∀ x ∈ o.op.operands, ev tt x = ev T x) →
        ∃ cs, (execOp a.eval o).run P w = .ok (.value (.pointer (some ⟨w.heap.size, 0, none⟩))) (w.alloc (.cells cs ty)) ∧ CVl ξ η vs cs.toList)
  | store (hw : WantT ops o T true) (hst : isStore o = true) (b : Nat) (k : Blk) (hb : wrBlk o T = some b) (hM' : M' = M.set b k)
      (hd : ∀ d, o.dst = some d → d < T.length → T[d]? = some undef)
      (H : ∀ (η : Eta) (a : Act) (w : World) (tt : List Value) (Mc : Mem), Rel ξ Φ base η Mc w → Mc[b]? = M[b]? → CVl ξ η tt a.tmps.toList → (∀ x ∈ o.op.operands, ev tt x = ev T x) →
        (∃ p, η b = some p) ∧ ∃ w', (execOp a.eval o).run P w = .ok .skip w' ∧ Rel ξ Φ base η (Mc.set b k) w' ∧ Below base w w')
def allocId (o : Oper) (T : List Value) : Option Nat :=
  if isAlloc o = true then (match o.dst with | some d => (match T[d]? with | some (.pointer (some ⟨b, 0, none⟩)) => some b | _ => none) | none => none) else none
open Classical in
/-- an operation that makes and writes no memory -/
theorem runOp_mem {R : Type} {O : OraQ R} {K : Value → Mem → Option R} {r : R} {o : Oper} (hst : isStore o = false) (hal : isAlloc o = false) (h : runOp P (liftQ O) o t m K = some r) :
    runOp P (liftQ O) o t m (fun v mm => if mm = m then K v m else none) = some r := by
  obtain ⟨dst, op, type, pos, after, guard⟩ := o
  cases op <;> simp only [isStore, isAlloc, Bool.true_eq_false, reduceCtorEq] at hst hal <;> simp only [runOp, if_true] at h ⊢ <;> first
    | exact h
    | (simp at h; done)
    | skip
  case call c =>
    obtain ⟨callee, args, tys⟩ := c
    cases callee with
    | value f =>
      try simp only at h
      try simp only
      split at h
      · rename_i g fst cap hq
        split at h
        · rename_i hcall; simp only [hcall, if_true, liftQ] at h ⊢; exact h
        · simp at h
      · simp at h
    | builtin b => exact h
    | _ => simp at h
theorem no_store {R : Type} {O : OraQ R} {K : Value → Mem → Option R} {r : R} {o : Oper} (hal : isAlloc o = true) (h : runOp P (liftQ O) o t m K = some r) :
    ∃ vs ty, K (.pointer (some ⟨m.length, 0, none⟩)) (m ++ [⟨vs, ty, true⟩]) = some r ∧
      ∀ (η : Eta) (a : Act) (w : World) (tt : List Value), CVl ξ η tt a.tmps.toList → (∀ x ∈ o.op.operands, ev tt x = ev t x) →
        ∃ cs, (execOp a.eval o).run P w = .ok (.value (.pointer (some ⟨w.heap.size, 0, none⟩))) (w.alloc (.cells cs ty)) ∧ CVl ξ η vs cs.toList := by
  obtain ⟨dst, op, type, pos, after, guard⟩ := o
  cases op <;> simp only [isAlloc, Bool.false_eq_true] at hal <;> simp only [runOp] at h
  case alloc e =>
    split at h
    · rename_i d n z ht'
      obtain ⟨hu, inf, hi, rfl, hz⟩ := tinf_ok ht'
      split at h
      · rename_i hc
        exact ⟨_, _, h, fun η a w tt _ _ => ⟨z.cells, by simp [execOp, Instr.alloc, zeroValue, typeInfo, hi, hz, newVar, newRow], (CV.refl1 (ξ := ξ) (η := η) hc.1).cells hc.2⟩⟩
      · simp at h
    · simp at h
  case box e x =>
    split at h
    · rename_i hk
      refine ⟨_, _, h, fun η a w tt ht hx => ⟨(a.eval x).cells, by simp [execOp, Instr.box, newVar, newRow], ?_⟩⟩
      have h1 := ev_cv ht x
      rw [hx x (by simp [Op.operands])] at h1
      exact h1.cells hk
    · simp at h
theorem Eff.quiet {CO : FuncId → List Value → Value → Mem → Prop} {o : Oper} {v : Value} (h : Eff ξ Φ base P CO η w a o m v m') (hm : m' = m) (hst : isStore o = false) :
    (∃ c, (execOp a.eval o).run P w = .ok (.value c) w ∧ CV ξ η v c) ∨
    (∃ g args argsc, (execOp a.eval o).run P w = .ok (.enter g argsc) w ∧ CVl ξ η args argsc.toList ∧ CO g args v m') := by
  cases h with
  | same v c hr hc => exact .inl ⟨c, hr, hc⟩
  | alloc vs cs ty hr hc => exact absurd (congrArg List.length hm) (by simp)
  | store m' w' hs hr hrel hb => rw [hst] at hs; cases hs
  | call g args argsc v m' hr hc hk => exact .inr ⟨g, args, argsc, hr, hc, hk⟩
open Classical in
theorem runOp_loc {R : Type} {O : OraQ R} {K : Value → Mem → Option R} {r : R} {o : Oper} (hs : Stable Φ base) (hO : OraQOk P ξ Φ base O) (hst : isStore o = false) (hal : isAlloc o = false)
    (h : runOp P (liftQ O) o t m K = some r) :
    ∃ v, K v m = some r ∧ ∀ (η : Eta) (a : Act) (w : World), (∀ x ∈ o.op.operands, CV ξ η (ev t x) (a.eval x)) → (∀ b, rdBlk o t = some b → RelAt ξ η m w b) → Eff ξ Φ base P (fun g args v m' => CallQ P ξ Φ base g args v) η w a o m v m := by
  have h' := runOp_mem hst hal h
  obtain ⟨v, m', h1, h2⟩ := runOp_eff (ξ := ξ) (Φ := Φ) (base := base) (CO := fun g args v m' => CallQ P ξ Φ base g args v) hs (fun g args K r hk => by
    obtain ⟨v, h1, h2⟩ := hO g args _ r hk
    exact ⟨v, _, h1, h2⟩) h'
  split at h1
  · rename_i hm; subst hm; exact ⟨v, h1, fun η a w ht hb => h2 η a w ht hb (fun e => by rw [hst] at e; cases e)⟩
  · simp at h1
theorem wantT_congr {ops : Array Oper} {o : Oper} {T T' : List Value} {b : Bool} (h : ∀ j want d, o.guard = some (j, want) → (ops[j]?).bind (·.dst) = some d → T[d]? = T'[d]?) (hw : WantT ops o T b) : WantT ops o T' b := by
  rcases hw with hw | ⟨j, want, d, hg, hd, hq⟩
  · exact .inl hw
  · refine .inr ⟨j, want, d, hg, hd, ?_⟩
    rw [← h j want d hg hd]; exact hq
theorem WantT.not {ops : Array Oper} {o : Oper} {T : List Value} (h : WantT ops o T false) : ¬ WantT ops o T true := by
  intro k
  rcases h with ⟨_, h⟩ | ⟨j, want, d, hg, hd, hq⟩
  · cases h
  · rcases k with ⟨hg', _⟩ | ⟨j', want', d', hg', hd', hq'⟩
    · rw [hg] at hg'; cases hg'
    · rw [hg] at hg'; cases hg'
      rw [hd] at hd'; cases hd'
      rcases hq with ⟨q, h1, h2⟩ | ⟨h1, h2⟩ <;> rcases hq' with ⟨q', h3, h4⟩ | ⟨h3, h4⟩
      · rw [h1] at h3; cases h3; rw [← h2] at h4; cases h4
      · cases h4
      · rw [h1] at h3; cases h3
      · cases h4
theorem mem_looks_op {ops : Array Oper} {o : Oper} {d : Tmp} (h : Operand.tmp d ∈ o.op.operands) : d ∈ o.looksAt ops :=
  List.mem_append_left _ (List.mem_filterMap.2 ⟨.tmp d, by simpa using h, rfl⟩)
theorem mem_looks_guard {ops : Array Oper} {o : Oper} {j : Nat} {want : Bool} {d : Tmp} (hg : o.guard = some (j, want)) (hd : (ops[j]?).bind (·.dst) = some d) : d ∈ o.looksAt ops :=
  List.mem_append_right _ (by simp [hg, hd])
open Classical in
theorem runOp_store {R : Type} {O : Ora R} {K : Value → Mem → Option R} {r : R} {o : Oper} (hs : Stable Φ base) (hst : isStore o = true) (h : runOp P O o t m K = some r) :
    ∃ b k0 k', wrBlk o t = some b ∧ m[b]? = some k0 ∧ K undef (m.set b k') = some r ∧
      ∀ (η : Eta) (a : Act) (w : World) (tt : List Value) (Mc : Mem), Rel ξ Φ base η Mc w → Mc[b]? = m[b]? → CVl ξ η tt a.tmps.toList → (∀ x ∈ o.op.operands, ev tt x = ev t x) →
        (∃ p, η b = some p) ∧ ∃ w', (execOp a.eval o).run P w = .ok .skip w' ∧ Rel ξ Φ base η (Mc.set b k') w' ∧ Below base w w' := by
  obtain ⟨dst, op, type, pos, after, guard⟩ := o
  cases op <;> simp only [isStore, Bool.false_eq_true] at hst <;> simp only [runOp] at h
  case store ty x y =>
    unfold astore at h
    split at h
    · rename_i b i hx
      split at h
      · rename_i d n z k ht hmb
        split at h
        · rename_i hc
          refine ⟨b, k, _, by simp [wrBlk, hx, ptrBlk], hmb, h, fun η a w tt Mc hrel hMc htt hops => ?_⟩
          have hxe := hops x (by simp [Op.operands])
          have hye := hops y (by simp [Op.operands])
          have h' : astore P ty (ev t x) (ev t y) Mc (fun m' => if m' = Mc.set b ⟨k.cells.take i ++ (ev t y).cells.toList ++ k.cells.drop (i + n), k.elem, true⟩ then some () else none) = some () := by
            simp only [astore, hx, ht, hMc, hmb, hc, and_self, if_true]
          obtain ⟨m', h1, h2⟩ := astore_sound (ξ := ξ) (Φ := Φ) (base := base) hs h'
          have hm' : m' = Mc.set b ⟨k.cells.take i ++ (ev t y).cells.toList ++ k.cells.drop (i + n), k.elem, true⟩ := by
            by_cases hq : m' = Mc.set b ⟨k.cells.take i ++ (ev t y).cells.toList ++ k.cells.drop (i + n), k.elem, true⟩
            · exact hq
            · rw [if_neg hq] at h1; cases h1
          subst hm'
          have hcx := ev_cv htt x
          have hcy := ev_cv htt y
          rw [hxe] at hcx; rw [hye] at hcy
          refine ⟨?_, ?_⟩
          · rw [hx] at hcx
            obtain ⟨B, o, _, he, _⟩ := hcx.ptr_inv
            exact ⟨_, he⟩
          · obtain ⟨w', hr, hrel', hb⟩ := h2 η _ _ w hcx hcy hrel
            exact ⟨w', by simp [execOp, Sem.run_bind, hr], hrel', hb⟩
        · simp at h
      · simp at h
    · simp at h
def consM (M : Mem) (MT : Nat → Mem) : Nat → Mem
  | 0 => M
  | i + 1 => MT i
/-- What the text's order tells of each operation. -/
theorem trace {R : Type} {O : OraQ R} {K : List Value → Mem → Option R} {r : R} (hs : Stable Φ base) (hO : OraQOk P ξ Φ base O) {ops : Array Oper} :
    ∀ (l : List Oper) (t : List Value) (m : Mem),
      (l.Pairwise fun o p => (∀ d, p.dst = some d → d ∉ o.looksAt ops) ∧ ∀ d, p.dst = some d → o.dst ≠ some d) →
      (∀ o ∈ l, ∀ d, o.dst = some d → d ∉ o.looksAt ops ∧ d < t.length) → (∀ o ∈ l, isAlloc o = true → o.dst.isSome = true) →
      runOps P (liftQ O) ops l t m K = some r →
      ∃ (T : List Value) (MT : Nat → Mem), K T (MT l.length) = some r ∧ T.length = t.length ∧ (∀ d, (∀ p ∈ l, p.dst ≠ some d) → T[d]? = t[d]?) ∧
        (∀ (i : Nat) (o : Oper), l[i]? = some o → Loc P ξ Φ base ops o T (MT i) (MT (i + 1))) ∧ m.length ≤ (MT 0).length ∧ (∀ b, b < m.length → (MT 0)[b]? = m[b]?) ∧
        (∀ o ∈ l, ∀ b, allocId o T = some b → m.length ≤ b) ∧
        (l.Pairwise fun o p => ∀ b, allocId o T = some b → allocId p T ≠ some b) ∧
        (∀ (i : Nat) (o : Oper), l[i]? = some o → ∀ b, wrBlk o T = some b → WantT ops o T true → b < m.length ∨ ∃ i' o', i' < i ∧ l[i']? = some o' ∧ allocId o' T = some b) := by
  intro l
  induction l with
  | nil => intro t m _ _ _ h; exact ⟨t, fun _ => m, by simpa [runOps] using h, rfl, fun _ _ => rfl, by simp, Nat.le_refl _, fun _ _ => rfl, by simp, .nil, by simp⟩
  | cons o l ih =>
    intro t m hpw hself hadst h
    have hadst' : ∀ p ∈ l, isAlloc p = true → p.dst.isSome = true := fun p hp => hadst p (by simp [hp])
    obtain ⟨hp1, hpw'⟩ := List.pairwise_cons.1 hpw
    have hlen : ∀ v, (putL t o.dst v).length = t.length := fun v => by cases o.dst <;> simp [putL]
    have hself' : ∀ v, ∀ p ∈ l, ∀ d, p.dst = some d → d ∉ p.looksAt ops ∧ d < (putL t o.dst v).length := fun v p hp d hd => by rw [hlen]; exact hself p (by simp [hp]) d hd
    have hput : ∀ v d, o.dst ≠ some d → (putL t o.dst v)[d]? = t[d]? := fun v d hd => by
      cases ho : o.dst with
      | none => rfl
      | some x => simp only [putL]; rw [List.getElem?_set_ne (fun e => hd (by rw [ho, e]))]
    have hputd : ∀ v d, o.dst = some d → d < t.length → (putL t o.dst v)[d]? = some v := fun v d hd hlt => by simp [putL, hd, hlt]
    -- the slots that o looks at
    have looks : ∀ (T : List Value) v, (∀ d, (∀ p ∈ l, p.dst ≠ some d) → T[d]? = (putL t o.dst v)[d]?) → ∀ d ∈ o.looksAt ops, T[d]? = t[d]? := fun T v hT d hd => by
      rw [hT d (fun p hp e => (hp1 p hp).1 d e hd)]
      refine hput v d fun e => (hself o (by simp) d e).1 hd
    have dsts : ∀ (T : List Value) v, (∀ d, (∀ p ∈ l, p.dst ≠ some d) → T[d]? = (putL t o.dst v)[d]?) → T.length = t.length → ∀ d, o.dst = some d → d < T.length → T[d]? = some v := fun T v hT hl d hd hlt => by
      rw [hT d (fun p hp e => (hp1 p hp).2 d e hd)]; exact hputd v d hd (hl ▸ hlt)
    have keep : ∀ (T : List Value) v, (∀ d, (∀ p ∈ l, p.dst ≠ some d) → T[d]? = (putL t o.dst v)[d]?) → ∀ d, (∀ p ∈ o :: l, p.dst ≠ some d) → T[d]? = t[d]? := fun T v hT d hd => by
      rw [hT d (fun p hp => hd p (by simp [hp]))]; exact hput v d (hd o (by simp))
    have opeq : ∀ (T : List Value), (∀ d ∈ o.looksAt ops, T[d]? = t[d]?) → ∀ x ∈ o.op.operands, ev t x = ev T x := fun T hT x hx => by
      refine ev_congr x fun d hd => ?_
      subst hd
      simp only [List.getD]; rw [hT d (mem_looks_op hx)]
    -- the head put before what is told of the rest
    have rdEq : ∀ {T : List Value}, (∀ d ∈ o.looksAt ops, T[d]? = t[d]?) → rdBlk o T = rdBlk o t := fun {T} hT => by
      have h1 := opeq T hT
      unfold rdBlk
      cases ho : o.op <;> try rfl
      rename_i ty x
      simp only
      rw [h1 x (by simp [ho, Op.operands])]
    have wrEq : ∀ {T : List Value}, (∀ d ∈ o.looksAt ops, T[d]? = t[d]?) → wrBlk o T = wrBlk o t := fun {T} hT => by
      have h1 := opeq T hT
      unfold wrBlk
      cases ho : o.op <;> try rfl
      rename_i ty x y
      simp only
      rw [h1 x (by simp [ho, Op.operands])]
    have join : ∀ {T : List Value} {M0 : Mem} {MT : Nat → Mem}, (∀ (i : Nat) (o : Oper), l[i]? = some o → Loc P ξ Φ base ops o T (MT i) (MT (i + 1))) → Loc P ξ Φ base ops o T M0 (MT 0) →
        ∀ (i : Nat) (p : Oper), (o :: l)[i]? = some p → Loc P ξ Φ base ops p T (consM M0 MT i) (consM M0 MT (i + 1)) := fun {T M0 MT} h1 h2 i p hp => by
      cases i with
      | zero => simp at hp; subst hp; exact h2
      | succ i => exact h1 i p (by simpa using hp)
    have joinW : ∀ {T : List Value} {q : Nat}, (q ≤ m.length ∨ (q ≤ m.length + 1 ∧ allocId o T = some m.length)) → (∀ b, wrBlk o T = some b → WantT ops o T true → b < m.length) →
        (∀ (i : Nat) (o : Oper), l[i]? = some o → ∀ b, wrBlk o T = some b → WantT ops o T true → b < q ∨ ∃ i' o', i' < i ∧ l[i']? = some o' ∧ allocId o' T = some b) →
        ∀ (i : Nat) (p : Oper), (o :: l)[i]? = some p → ∀ b, wrBlk p T = some b → WantT ops p T true → b < m.length ∨ ∃ i' o', i' < i ∧ (o :: l)[i']? = some o' ∧ allocId o' T = some b := fun {T q} hq ho h1 i p hp b hb hw => by
      cases i with
      | zero => simp at hp; subst hp; exact .inl (ho b hb hw)
      | succ i =>
        rcases h1 i p (by simpa using hp) b hb hw with h2 | ⟨i', o', hi', ho', ha⟩
        · rcases hq with hq | ⟨hq, ha⟩
          · exact .inl (by omega)
          · rcases Nat.lt_or_ge b m.length with h3 | h3
            · exact .inl h3
            · refine .inr ⟨0, o, by omega, rfl, ?_⟩
              rw [ha]; congr 1; omega
        · exact .inr ⟨i' + 1, o', by omega, by simpa using ho', ha⟩
    have noWr : isStore o = false → ∀ (T : List Value) b, wrBlk o T ≠ some b := fun hst T b hb => by
      unfold wrBlk at hb
      cases ho : o.op <;> simp [ho, isStore] at hb hst
    let Goal : Prop := ∃ (T : List Value) (MT : Nat → Mem), K T (MT (o :: l).length) = some r ∧ T.length = t.length ∧ (∀ d, (∀ p ∈ o :: l, p.dst ≠ some d) → T[d]? = t[d]?) ∧
        (∀ (i : Nat) (p : Oper), (o :: l)[i]? = some p → Loc P ξ Φ base ops p T (MT i) (MT (i + 1))) ∧ m.length ≤ (MT 0).length ∧ (∀ b, b < m.length → (MT 0)[b]? = m[b]?) ∧
        (∀ p ∈ o :: l, ∀ b, allocId p T = some b → m.length ≤ b) ∧
        ((o :: l).Pairwise fun o p => ∀ b, allocId o T = some b → allocId p T ≠ some b) ∧
        (∀ (i : Nat) (p : Oper), (o :: l)[i]? = some p → ∀ b, wrBlk p T = some b → WantT ops p T true → b < m.length ∨ ∃ i' o', i' < i ∧ (o :: l)[i']? = some o' ∧ allocId o' T = some b)
    -- an operation that is carried out
    have run : WantT ops o t true → runOp P (liftQ O) o t m (fun v m' => runOps P (liftQ O) ops l (putL t o.dst v) m' K) = some r → Goal := by
      intro hw hrun
      by_cases hal : isAlloc o = true
      · obtain ⟨vs, ty, h1, h2⟩ := no_store (ξ := ξ) hal hrun
        obtain ⟨T, MT, hK, hTl0, hT, hloc, hlen0, hM0, hge, hpwT, hwr⟩ := ih _ _ hpw' (hself' _) hadst' h1
        have hTl : T.length = t.length := hTl0.trans (hlen _)
        have hlk := looks T _ hT
        obtain ⟨d0, hd0⟩ := Option.isSome_iff_exists.1 (hadst o (by simp) hal)
        have hd0lt := (hself o (by simp) d0 hd0).2
        have hid : T[d0]? = some (.pointer (some ⟨m.length, 0, none⟩)) := dsts T _ hT hTl d0 hd0 (hTl ▸ hd0lt)
        have haid : allocId o T = some m.length := by simp [allocId, hal, hd0, hid]
        have hsto : isStore o = false := by unfold isAlloc at hal; unfold isStore; cases ho : o.op <;> simp [ho] at hal ⊢
        simp only [List.length_append, List.length_cons, List.length_nil] at hlen0 hM0 hge hwr
        refine ⟨T, consM (MT 0) MT, hK, hTl, keep T _ hT, join hloc ?_, ?_, ?_, ?_, ?_, joinW (q := m.length + 1) (.inr ⟨Nat.le_refl _, haid⟩) (fun b hb => absurd hb (noWr hsto T b)) hwr⟩
        · refine Loc.alloc (wantT_congr (fun j want d hg hd => (hlk d (mem_looks_guard hg hd)).symm) hw) m.length vs ty hal rfl (by rw [hM0 m.length (by omega)]; simp) (dsts T _ hT hTl) ⟨d0, hd0, hTl ▸ hd0lt⟩ ?_
          intro η a w tt ht hx
          exact h2 η a w tt ht fun x hxm => (hx x hxm).trans (opeq T hlk x hxm).symm
        · show m.length ≤ (MT 0).length; omega
        · intro b hb
          show (MT 0)[b]? = _
          rw [hM0 b (by omega), List.getElem?_append_left hb]
        · intro p hp b hb
          rcases List.mem_cons.1 hp with hpo | hp
          · subst hpo; rw [haid] at hb; simp at hb; omega
          · have := hge p hp b hb; omega
        · refine List.pairwise_cons.2 ⟨fun p hp b hb hb2 => ?_, hpwT⟩
          rw [haid] at hb; simp at hb
          have := hge p hp b hb2; omega
      · have hal : isAlloc o = false := by simpa using hal
        have haid : ∀ T, allocId o T = none := fun T => by simp [allocId, hal]
        by_cases hst : isStore o = true
        · obtain ⟨b, k0, k', hwb, hmb, h1, h2⟩ := runOp_store (ξ := ξ) (Φ := Φ) (base := base) hs hst hrun
          obtain ⟨T, MT, hK, hTl0, hT, hloc, hlen0, hM0, hge, hpwT, hwr⟩ := ih _ _ hpw' (hself' _) hadst' h1
          have hTl : T.length = t.length := hTl0.trans (hlen _)
          have hlk := looks T _ hT
          have hbl : b < m.length := (List.getElem?_eq_some_iff.1 hmb).1
          simp only [List.length_set] at hlen0 hM0 hge hwr
          have hMb : (MT 0)[b]? = some k' := by rw [hM0 b hbl]; simp [hbl]
          have hback : ((MT 0).set b k0).set b k' = MT 0 := by rw [List.set_set]; exact set_same hMb
          refine ⟨T, consM ((MT 0).set b k0) MT, hK, hTl, keep T _ hT, join hloc ?_, ?_, ?_, ?_, ?_, joinW (q := m.length) (.inl (Nat.le_refl _)) (fun b' hb' _ => ?_) hwr⟩
          · refine Loc.store (wantT_congr (fun j want d hg hd => (hlk d (mem_looks_guard hg hd)).symm) hw) hst b k' ((wrEq hlk).trans hwb) hback.symm (dsts T _ hT hTl) ?_
            intro η a w tt Mc hrel hMc ht hx
            refine h2 η a w tt Mc hrel ?_ ht fun x hxm => (hx x hxm).trans (opeq T hlk x hxm).symm
            rw [hMc, hmb, List.getElem?_set, if_pos rfl, if_pos (by omega)]
          · show m.length ≤ ((MT 0).set b k0).length; rw [List.length_set]; exact hlen0
          · intro b' hb'
            show ((MT 0).set b k0)[b']? = _
            rw [List.getElem?_set]
            by_cases hq : b = b'
            · subst hq; rw [if_pos rfl, if_pos (by omega), hmb]
            · rw [if_neg hq, hM0 b' hb', List.getElem?_set_ne hq]
          · intro p hp b' hb'
            rcases List.mem_cons.1 hp with hpo | hp
            · subst hpo; rw [haid] at hb'; cases hb'
            · exact hge p hp b' hb'
          · exact List.pairwise_cons.2 ⟨fun p hp b hb hb2 => (by rw [haid] at hb; cases hb), hpwT⟩
          · rw [wrEq hlk, hwb] at hb'; simp at hb'; omega
        · have hst : isStore o = false := by simpa using hst
          obtain ⟨v, h1, h2⟩ := runOp_loc hs hO hst hal hrun
          obtain ⟨T, MT, hK, hTl0, hT, hloc, hlen0, hM0, hge, hpwT, hwr⟩ := ih _ _ hpw' (hself' _) hadst' h1
          have hTl : T.length = t.length := hTl0.trans (hlen _)
          have hlk := looks T _ hT
          refine ⟨T, consM (MT 0) MT, hK, hTl, keep T _ hT, join hloc ?_, hlen0, hM0, ?_, ?_, joinW (q := m.length) (.inl (Nat.le_refl _)) (fun b hb => absurd hb (noWr hst T b)) hwr⟩
          · refine Loc.val (wantT_congr (fun j want d hg hd => (hlk d (mem_looks_guard hg hd)).symm) hw) hst rfl v (dsts T _ hT hTl) ?_
            intro η a w tt Mc hrel hMc ht hx
            have hop : ∀ x ∈ o.op.operands, ev tt x = ev t x := fun x hxm => (hx x hxm).trans (opeq T hlk x hxm).symm
            have hB : ∀ b, rdBlk o t = some b → RelAt ξ η m w b := fun b hb B q k e hm => by
              have hbl : b < m.length := (List.getElem?_eq_some_iff.1 hm).1
              exact hrel.at b B q k e (by rw [hMc b ((rdEq hlk).trans hb), hM0 b hbl]; exact hm)
            have hE := h2 η a w (fun x hxm => by rw [← hop x hxm]; exact ev_cv ht x) hB
            rcases hE.quiet rfl hst with h3 | ⟨g, args, argsc, hr, hc, hk⟩
            · exact .inl h3
            · exact .inr ⟨g, argsc, hr, hk η _ w argsc hrel hc⟩
          · intro p hp b hb
            rcases List.mem_cons.1 hp with hpo | hp
            · subst hpo; rw [haid] at hb; cases hb
            · exact hge p hp b hb
          · exact List.pairwise_cons.2 ⟨fun p hp b hb hb2 => (by rw [haid] at hb; cases hb), hpwT⟩
    have skip : WantT ops o t false → runOps P (liftQ O) ops l (putL t o.dst undef) m K = some r → Goal := by
      intro hw h1
      obtain ⟨T, MT, hK, hTl0, hT, hloc, hlen0, hM0, hge, hpwT, hwr⟩ := ih _ _ hpw' (hself' _) hadst' h1
      have hTl : T.length = t.length := hTl0.trans (hlen _)
      have hlk := looks T _ hT
      have hds := dsts T _ hT hTl
      have haid : allocId o T = none := by
        unfold allocId
        split
        · split
          · rename_i d hd
            have hlt := (hself o (by simp) d hd).2
            rw [hds d hd (hTl ▸ hlt)]; rfl
          · rfl
        · rfl
      have hwT : WantT ops o T false := wantT_congr (fun j want d hg hd => (hlk d (mem_looks_guard hg hd)).symm) hw
      refine ⟨T, consM (MT 0) MT, hK, hTl, keep T _ hT, join hloc (Loc.skip hwT hds rfl), hlen0, hM0, ?_, ?_, joinW (q := m.length) (.inl (Nat.le_refl _)) (fun b _ hw2 => absurd hw2 hwT.not) hwr⟩
      · intro p hp b hb
        rcases List.mem_cons.1 hp with hpo | hp
        · subst hpo; rw [haid] at hb; cases hb
        · exact hge p hp b hb
      · exact List.pairwise_cons.2 ⟨fun p hp b hb hb2 => (by rw [haid] at hb; cases hb), hpwT⟩
    rcases runOps_cases h with ⟨h, hg⟩ | ⟨h, j, want, d, hg, hd, hq⟩
    · refine run ?_ h
      rcases hg with hg | ⟨j, want, d, hg, hd, hb⟩
      · exact .inl ⟨hg, rfl⟩
      · exact .inr ⟨j, want, d, hg, hd, .inl ⟨want, hb, by simp⟩⟩
    · refine skip ?_ h
      rcases hq with hb | hb
      · exact .inr ⟨j, want, d, hg, hd, .inl ⟨_, hb, by cases want <;> rfl⟩⟩
      · exact .inr ⟨j, want, d, hg, hd, .inr ⟨hb, rfl⟩⟩
end
def unl (n : Nat) (listed : Array Bool) : List Nat := (List.range n).filter fun j => !listed.getD j true
theorem filter_lt {α : Type} (p q : α → Bool) (hpq : ∀ x, q x = true → p x = true) : ∀ (l : List α) (x : α), x ∈ l → p x = true → q x = false → (l.filter q).length < (l.filter p).length
  | [], x, h, _, _ => by simp at h
  | y :: l, x, h, h1, h2 => by
    have le : ∀ l : List α, (l.filter q).length ≤ (l.filter p).length := by
      intro l
      induction l with
      | nil => simp
      | cons z l ih =>
        simp only [List.filter_cons]
        split
        · rename_i hz; rw [if_pos (hpq z hz)]; simp; exact ih
        · split
          · simp; omega
          · exact ih
    rcases List.mem_cons.1 h with rfl | h
    · simp only [List.filter_cons, h1, h2, if_true]; simp; exact Nat.lt_succ_of_le (le l)
    · have := filter_lt p q hpq l x h h1 h2
      simp only [List.filter_cons]
      split
      · rename_i hz; rw [if_pos (hpq y hz)]; simp; exact this
      · split
        · simp; omega
        · exact this
theorem unl_lt {n : Nat} {listed : Array Bool} {i : Nat} (hi : i < n) (hl : listed.getD i true = false) : (unl n (listed.setIfInBounds i true)).length < (unl n listed).length := by
  have hsz : i < listed.size := by
    rcases Nat.lt_or_ge i listed.size with h' | h'
    · exact h'
    · simp [Array.getElem?_eq_none h'] at hl
  refine filter_lt _ _ (fun j hj => ?_) _ i (by simpa using hi) (by simp only [hl]; rfl) (by simp [hsz])
  by_cases hij : i = j
  · subst hij; simp [hsz] at hj
  · rw [getD_set_ne true hij] at hj; exact hj
section
variable {ξ : Nat → Value} {Φ : World → Prop} {base : Nat} {η η' : Eta} {m m' : Mem} {w w' : World} {P : Program} {t : List Value} {a : Act}
/-- the slots when the listed operations have been carried out -/
def Cur (n : Nat) (ops : Array Oper) (T : List Value) (listed : Array Bool) (tt : List Value) : Prop :=
  tt.length = T.length ∧ ∀ d, d < T.length → (tt[d]? = T[d]? ∨ (tt[d]? = some (.chan (some 0)) ∧ ∃ j o, j < n ∧ ops[j]? = some o ∧ listed.getD j true = false ∧ o.dst = some d))
theorem Cur.step {n : Nat} {ops : Array Oper} {T : List Value} {listed : Array Bool} {tt : List Value} (h : Cur n ops T listed tt) {i : Nat} {o : Oper} (ho : ops[i]? = some o) {v : Value}
    (hd : ∀ d, o.dst = some d → d < T.length → T[d]? = some v) : Cur n ops T (listed.setIfInBounds i true) (putL tt o.dst v) := by
  refine ⟨by rw [← h.1]; cases o.dst <;> simp [putL], fun d hlt => ?_⟩
  by_cases hod : o.dst = some d
  · left; simp only [putL, hod]; rw [List.getElem?_set, if_pos rfl, if_pos (by rw [h.1]; exact hlt), hd d hod hlt]
  · have hput : (putL tt o.dst v)[d]? = tt[d]? := by
      cases hq : o.dst with
      | none => rfl
      | some x => simp only [putL]; rw [List.getElem?_set_ne (fun e => hod (by rw [hq, e]))]
    rw [hput]
    rcases h.2 d hlt with h1 | ⟨h1, j, p, hjn, hj, hun, hp⟩
    · exact .inl h1
    · refine .inr ⟨h1, j, p, hjn, hj, ?_, hp⟩
      have hij : i ≠ j := fun e => by subst e; rw [ho] at hj; simp at hj; subst hj; exact hod hp
      rw [getD_set_ne true hij]; exact hun
theorem edge_dep {o : Oper} {i : Nat} {listed : Array Bool} (h : edgeOn o i = true) (hdep : ∀ e ∈ o.after, Region.binds .any e = true → listed.getD e.on false = true) (hi : i < listed.size) : listed.getD i true = true := by
  obtain ⟨e, he, hb⟩ := List.any_eq_true.1 h
  simp only [Bool.and_eq_true, beq_iff_eq] at hb
  have := hdep e (by simpa using he) hb.1
  rw [hb.2] at this
  simp [hi] at this ⊢; exact this
/-- the operations at the end, which wait for all that stand before them -/
theorem wpAny_tail {R : Type} {O : Ora R} {K : List Value → Mem → Option R} {r : R} (hs : Stable Φ base) (hO : OraOk P ξ Φ base O) {ops : Array Oper} {n : Nat}
    (hB : ∀ (j : Nat) (o : Oper), n ≤ j → ops[j]? = some o → (∀ i, i < j → (if i < n then waitsOr ops o i else edgeOn o i) = true) ∧ ∀ e ∈ o.after, Region.binds .any e = true → e.on < j) :
    ∀ (l : List Oper) (i fuel : Nat) (listed : Array Bool) (t : List Value) (m : Mem) (a : Act) (w : World) (η : Eta), ops.toList.drop i = l → n ≤ i → (∀ j, j < ops.size → listed.getD j true = decide (j < i)) → listed.size = ops.size →
      l.length ≤ fuel → runOps P O ops l t m K = some r → CVl ξ η t a.tmps.toList → Rel ξ Φ base η m w →
      ∀ Q : Exit → Act → World → Prop, (∀ η' t' m' a' w', η.le η' → K t' m' = some r → CVl ξ η' t' a'.tmps.toList → Rel ξ Φ base η' m' w' → Below base w w' → a'.defers = a.defers → Q .normal a' w') →
      wpAny P .any ops Q fuel listed a w := by
  intro l
  induction l with
  | nil =>
    intro i fuel listed t m a w η hdr hni hl hsz hf h ht hr Q hQ
    have hge : ops.size ≤ i := by
      rcases Nat.lt_or_ge i ops.size with h' | h'
      · have : (ops.toList.drop i).length = 0 := by rw [hdr]; rfl
        simp at this; omega
      · exact h'
    have hrd : Region.ready .any ops listed = [] := by
      cases hq : Region.ready .any ops listed with
      | nil => rfl
      | cons j l =>
        have hj : j ∈ Region.ready .any ops listed := by rw [hq]; simp
        obtain ⟨h1, o, ho, _⟩ := mem_ready.1 hj
        have hjs : j < ops.size := (Array.getElem?_eq_some_iff.1 ho).1
        rw [hl j hjs] at h1
        simp at h1; omega
    exact wpAny_done hrd (hQ η t m a w (Eta.le.refl _) h ht hr (Below.refl _ _) rfl) fuel
  | cons o l ih =>
    intro i fuel listed t m a w η hdr hni hl hsz hf h ht hr Q hQ
    have his : i < ops.size := by
      rcases Nat.lt_or_ge i ops.size with h' | h'
      · exact h'
      · rw [List.drop_eq_nil_of_le (by simpa using h')] at hdr; cases hdr
    have ho : ops[i]? = some o := by
      have : (ops.toList.drop i)[0]? = some o := by rw [hdr]; rfl
      rw [List.getElem?_drop] at this; simpa using this
    have hdr' : ops.toList.drop (i + 1) = l := by rw [← List.drop_drop, hdr]; rfl
    obtain ⟨fuel, rfl⟩ : ∃ f, fuel = f + 1 := ⟨fuel - 1, by simp at hf; omega⟩
    have hri : i ∈ Region.ready .any ops listed := mem_ready.2 ⟨by rw [hl i his]; simp, o, ho, fun e he hb => by
      have hlt := (hB i o hni ho).2 e he hb
      have := hl e.on (by omega)
      have hs' : e.on < listed.size := by omega
      simp [hs', hlt] at this ⊢; exact this⟩
    refine ⟨fun hq => (by rw [hq] at hri; cases hri), fun j hj => ?_⟩
    obtain ⟨h1, p, hp, hdep⟩ := mem_ready.1 hj
    have hjs : j < ops.size := (Array.getElem?_eq_some_iff.1 hp).1
    have hji : j = i := by
      rw [hl j hjs] at h1
      have h1 : ¬ j < i := by simpa using h1
      rcases Nat.lt_or_ge i j with hlt | hge
      · have he := (hB j p (by omega) hp).1 i hlt
        rw [if_neg (by omega)] at he
        have := edge_dep he hdep (by omega)
        rw [hl i his] at this; simp at this
      · omega
    subst hji
    unfold wpOp
    rw [ho]
    simp only
    have := runOps_step hs hO h ht hr Q (wpAny P .any ops Q fuel (listed.setIfInBounds j true)) fun η' t' m' a' w' hle hk ht' hr' hb' hd' => by
      refine ih (j + 1) fuel _ t' m' a' w' η' hdr' (by omega) (fun q hq => ?_) (by simpa using hsz) (by simpa using hf) hk ht' hr' Q fun η2 t2 m2 a2 w2 h1 h2 h3 h4 h5 h6 => hQ η2 t2 m2 a2 w2 (hle.trans h1) h2 h3 h4 (hb'.trans h5) (h6.trans hd')
      by_cases hjq : j = q
      · subst hjq
        have hs' : j < listed.size := by omega
        simp [hs']
      · rw [getD_set_ne true hjq, hl q hq]
        simp; omega
    split
    · rename_i hw; rw [if_pos hw] at this; exact .inl this
    · rename_i hw; rw [if_neg hw] at this; exact this
theorem draw_sound {R : Type} {O : OraQ R} {OB : Ora R} {K : List Value → Mem → Option R} {r : R} (hm : P.follows .mixedOrders = true) (hs : Stable Φ base) (hO : OraQOk P ξ Φ base O) (hOB : OraOk P ξ Φ base OB) {ops : Array Oper} {n : Nat}
    (hok : drawOk ops n = true) (hlen : ((ops.toList.take n).all fun o => match o.dst with | some d => decide (d < t.length) | none => !isAlloc o) = true)
    (h : runOps P (liftQ O) ops (ops.toList.take n) t m (fun t1 m1 => if memOk ops n t1 = true then runOps P OB ops (ops.toList.drop n) t1 m1 K else none) = some r) : RegOk P ξ Φ base ops true t m (fun t' m' => K t' m' = some r) := by
  have hn : ∀ {j : Nat} {o : Oper}, j < n → ops[j]? = some o → (ops.toList.take n)[j]? = some o := fun hj ho => by rw [List.getElem?_take, if_pos hj]; simpa using ho
  have hn' : ∀ {j : Nat} {o : Oper}, (ops.toList.take n)[j]? = some o → j < n ∧ ops[j]? = some o := fun {j o} ho => by
    rw [List.getElem?_take] at ho
    split at ho
    · rename_i hj; exact ⟨hj, by simpa using ho⟩
    · cases ho
  unfold drawOk at hok
  simp only [Bool.and_eq_true] at hok
  obtain ⟨⟨hokA, hokB⟩, hnosel⟩ := hok
  have chk : ∀ (j : Nat) (o : Oper), j < n → ops[j]? = some o → (∀ e ∈ o.after, Region.binds .any e = true → e.on < j) ∧
      ∀ (i : Nat) (p : Oper), i < n → ops[i]? = some p → ∀ d, p.dst = some d → (i = j ∨ o.dst ≠ some d) ∧ (d ∈ o.looksAt ops → i < j ∧ edgeOn o i = true) := by
    intro j o hjn hj
    have hmem : (o, j) ∈ (ops.toList.take n).zipIdx := by rw [List.mem_zipIdx_iff_getElem?]; exact hn hjn hj
    have h1 := List.all_eq_true.1 hokA _ hmem
    simp only [Bool.and_eq_true] at h1
    obtain ⟨h3, h4⟩ := h1
    refine ⟨fun e he hb => ?_, fun i p hin hi d hd => ?_⟩
    · have := List.all_eq_true.1 h3 e (by simpa using he)
      simp [hb] at this; exact this
    · have hmem2 : (p, i) ∈ (ops.toList.take n).zipIdx := by rw [List.mem_zipIdx_iff_getElem?]; exact hn hin hi
      have := List.all_eq_true.1 h4 _ hmem2
      simp only [hd, Bool.and_eq_true, Bool.or_eq_true, beq_iff_eq, bne_iff_ne, ne_eq, Bool.not_eq_true', decide_eq_true_eq] at this
      refine ⟨this.1, fun hl => ?_⟩
      rcases this.2 with h5 | h5
      · have : (o.looksAt ops).contains d = true := by simpa using hl
        rw [h5] at this; cases this
      · exact h5
  have hB : ∀ (j : Nat) (o : Oper), n ≤ j → ops[j]? = some o → (∀ i, i < j → (if i < n then waitsOr ops o i else edgeOn o i) = true) ∧ ∀ e ∈ o.after, Region.binds .any e = true → e.on < j := by
    intro j o hnj hj
    have hmem : (o, j) ∈ ops.toList.zipIdx.drop n := by
      rw [List.mem_iff_getElem?]
      refine ⟨j - n, ?_⟩
      rw [List.getElem?_drop, List.getElem?_zipIdx]
      have : ops.toList[n + (j - n)]? = some o := by rw [show n + (j - n) = j by omega]; simpa using hj
      rw [this]; simp; omega
    have h1 := List.all_eq_true.1 hokB _ hmem
    simp only [Bool.and_eq_true] at h1
    refine ⟨fun i hi => List.all_eq_true.1 h1.1 i (by simpa using hi), fun e he hb => ?_⟩
    have := List.all_eq_true.1 h1.2 e (by simpa using he)
    simp [hb] at this; exact this
  have hdl : ∀ o ∈ ops.toList.take n, (∀ d, o.dst = some d → d < t.length) ∧ (isAlloc o = true → o.dst.isSome = true) := by
    intro o ho
    have := List.all_eq_true.1 hlen o ho
    cases hd : o.dst with
    | none => simp [hd] at this; simp [this]
    | some d => simp [hd] at this; exact ⟨fun d' e => by cases e; exact this, fun _ => rfl⟩
  have hidx : ∀ o ∈ ops.toList.take n, ∃ j, j < n ∧ ops[j]? = some o := fun o ho => by
    obtain ⟨j, hj⟩ := List.getElem?_of_mem ho; exact ⟨j, hn' hj⟩
  obtain ⟨T, MT, hK, hTl, hT, hlocT, hM00, hM0, hge, hpwT, hwrT⟩ := trace (ξ := ξ) (Φ := Φ) (base := base) hs hO (ops.toList.take n) t m
    (by
      rw [List.pairwise_iff_getElem]
      intro i j hi hj hij
      obtain ⟨hin, h1⟩ := hn' (List.getElem?_eq_getElem hi)
      obtain ⟨hjn, h2⟩ := hn' (List.getElem?_eq_getElem hj)
      refine ⟨fun d hd hl => ?_, fun d hd hl => ?_⟩
      · have := ((chk i _ hin h1).2 j _ hjn h2 d hd).2 hl; omega
      · rcases ((chk i _ hin h1).2 j _ hjn h2 d hd).1 with h3 | h3
        · omega
        · exact h3 hl)
    (fun o ho d hd => by
      obtain ⟨j, hjn, hj⟩ := hidx o ho
      exact ⟨fun hl => by have := ((chk j o hjn hj).2 j o hjn hj d hd).2 hl; omega, (hdl o ho).1 d hd⟩)
    (fun o ho => (hdl o ho).2) h
  split at hK
  case isFalse => cases hK
  rename_i hmem
  have hlocI : ∀ (i : Nat) (o : Oper), i < n → ops[i]? = some o → Loc P ξ Φ base ops o T (MT i) (MT (i + 1)) := fun i o hin ho => hlocT i o (hn hin ho)
  have hmo : ∀ (i j : Nat) (p o : Oper) (b : Nat), i < n → j < n → ops[i]? = some p → ops[j]? = some o → i ≠ j → wrBlk p T = some b → (rdBlk o T = some b ∨ wrBlk o T = some b) → (if i < j then edgeOn o i else edgeOn p j) = true := by
    intro i j p o b hin hjn hi hj hij hw hrw
    have hm1 : (p, i) ∈ (ops.toList.take n).zipIdx := by rw [List.mem_zipIdx_iff_getElem?]; exact hn hin hi
    have hm2 : (o, j) ∈ (ops.toList.take n).zipIdx := by rw [List.mem_zipIdx_iff_getElem?]; exact hn hjn hj
    have h1 := List.all_eq_true.1 hmem _ hm1
    simp only [hw] at h1
    have h2 := List.all_eq_true.1 h1 _ hm2
    have h3 : (rdBlk o T == some b || wrBlk o T == some b) = true := by rcases hrw with h | h <;> simp [h]
    simpa [h3, hij] using h2
  have hlenMT : ∀ i, i ≤ (ops.toList.take n).length → (MT i).length = (MT 0).length := by
    intro i
    induction i with
    | zero => intro _; rfl
    | succ i ih =>
      intro hi
      have ho := List.getElem?_eq_getElem (l := ops.toList.take n) (i := i) (by omega)
      cases hlocT i _ ho with
      | skip hw hd hM' => rw [hM']; exact ih (by omega)
      | val hw hst hM' v hd H => rw [hM']; exact ih (by omega)
      | alloc hw id vs ty hal hM' hM hd hdst H => rw [hM']; exact ih (by omega)
      | store hw hst b k hb hM' hd H => rw [hM', List.length_set]; exact ih (by omega)
  let Wr : Oper → Nat → Prop := fun o b => wrBlk o T = some b ∧ WantT ops o T true
  have between : ∀ (b c j : Nat), j + c ≤ (ops.toList.take n).length → (∀ i o, j ≤ i → i < j + c → i < n → ops[i]? = some o → ¬ Wr o b) → (MT j)[b]? = (MT (j + c))[b]? := by
    intro b c
    induction c with
    | zero => intro j _ _; rfl
    | succ c ih =>
      intro j hj hno
      rw [ih j (by omega) (fun i o h1 h2 h3 h4 => hno i o h1 (by omega) h3 h4)]
      have ho := List.getElem?_eq_getElem (l := ops.toList.take n) (i := j + c) (by omega)
      have ho' := hn' ho
      rw [← Nat.add_assoc]
      cases hlocT (j + c) _ ho with
      | skip hw hd hM' => rw [hM']
      | val hw hst hM' v hd H => rw [hM']
      | alloc hw id vs ty hal hM' hM hd hdst H => rw [hM']
      | store hw hst b' k hb hM' hd H =>
        rw [hM', List.getElem?_set_ne]
        intro hbb
        exact hno (j + c) _ (by omega) (by omega) ho'.1 ho'.2 ⟨by rw [hb, hbb], hw⟩
  have betw : ∀ (b i j : Nat), i ≤ (ops.toList.take n).length → j ≤ (ops.toList.take n).length → (∀ q o, (i ≤ q ∧ q < j ∨ j ≤ q ∧ q < i) → q < n → ops[q]? = some o → ¬ Wr o b) → (MT j)[b]? = (MT i)[b]? := by
    intro b i j hi hj hno
    rcases Nat.le_total i j with hij | hij
    · obtain ⟨c, rfl⟩ := Nat.exists_eq_add_of_le hij
      exact (between b c i hj fun q o h1 h2 h3 h4 => hno q o (.inl ⟨h1, h2⟩) h3 h4).symm
    · obtain ⟨c, rfl⟩ := Nat.exists_eq_add_of_le hij
      exact between b c j hi fun q o h1 h2 h3 h4 => hno q o (.inr ⟨h1, h2⟩) h3 h4
  have inLen : ∀ {i : Nat} {o : Oper}, i < n → ops[i]? = some o → i < (ops.toList.take n).length := fun hin ho => (List.getElem?_eq_some_iff.1 (hn hin ho)).1
  let MemI : Array Bool → Mem → Prop := fun listed Mc => Mc.length = (MT 0).length ∧ ∀ b, ∃ j, j ≤ (ops.toList.take n).length ∧ Mc[b]? = (MT j)[b]? ∧
    ∀ q o, q < n → ops[q]? = some o → Wr o b → (listed.getD q true = true ↔ q < j)
  let ClI : Array Bool → Prop := fun listed => ∀ q o, q < n → ops[q]? = some o → listed.getD q true = true → ∀ z, z < ops.size → edgeOn o z = true → listed.getD z true = true
  let WrI : Array Bool → Eta → Prop := fun listed η => ∀ q o, q < n → ops[q]? = some o → listed.getD q true = true → ∀ b, Wr o b → ∃ p, η b = some p
  intro η0 a0 w0 id ht0 hr0
  refine wp_region_any hm ?_
  let Inv : Array Bool → Act → World → Prop := fun listed a w => ∃ η tt Mc, (MemI listed Mc ∧ ClI listed ∧ WrI listed η) ∧ η0.le η ∧ Rel ξ Φ base η Mc w ∧ Cur n ops T listed tt ∧ CVl ξ η tt a.tmps.toList ∧
    (∀ j o, j < n → ops[j]? = some o → listed.getD j true = false → ∀ b, allocId o T = some b → η b = none) ∧ Below base w0 w ∧ a.defers = a0.defers ∧ listed.size = ops.size ∧
    ∀ j, n ≤ j → j < ops.size → listed.getD j true = false
  have main : ∀ (c fuel : Nat) (listed : Array Bool) (a : Act) (w : World), (unl (min n ops.size) listed).length ≤ c → c + (ops.size - n) ≤ fuel → Inv listed a w →
      wpAny P .any ops (fun e a' w' => e = .normal ∧ ∃ η' t' m', η0.le η' ∧ K t' m' = some r ∧ CVl ξ η' t' a'.tmps.toList ∧ Rel ξ Φ base η' m' w' ∧ Below base w0 w' ∧ a'.defers = a0.defers) fuel listed a w := by
    intro c
    induction c with
    | zero =>
      -- the end: bound to the text's order
      intro fuel listed a w hu hf ⟨η, tt, Mc, hMI, h1, h2, h3, h4, h5, h6, h7, h8, h9⟩
      have all : ∀ j, j < n → j < ops.size → listed.getD j true = true := fun j hj hjs => by
        cases hl : listed.getD j true with
        | true => rfl
        | false =>
          have : j ∈ unl (min n ops.size) listed := by unfold unl; rw [List.mem_filter]; exact ⟨by simp; omega, by rw [hl]; rfl⟩
          rw [List.eq_nil_of_length_eq_zero (Nat.le_zero.1 hu)] at this; cases this
      have htt : CVl ξ η T a.tmps.toList := by
        have : ∀ d v, T[d]? = some v → ∀ c, a.tmps.toList[d]? = some c → CV ξ η v c := fun d v hv c hc => by
          have hlt : d < T.length := (List.getElem?_eq_some_iff.1 hv).1
          rcases h3.2 d hlt with h10 | ⟨h10, j, o, hjn, hj, hun, hod⟩
          · exact h4.2 d v c (h10.trans hv) hc
          · rw [all j hjn (Array.getElem?_eq_some_iff.1 hj).1] at hun; cases hun
        exact ⟨by rw [← h3.1]; exact h4.1, fun d v c hv hc => this d v hv c hc⟩
      have hMc : Mc = MT (ops.toList.take n).length := by
        apply List.ext_getElem?
        intro b
        obtain ⟨j, hj, hb, hw⟩ := hMI.1.2 b
        rw [hb]
        refine betw b _ _ (Nat.le_refl _) hj fun q o hq hqn hqo hWr => ?_
        have hlq := (hw q o hqn hqo hWr).1 (all q hqn (Array.getElem?_eq_some_iff.1 hqo).1)
        have := inLen hqn hqo
        omega
      rw [← hMc] at hK
      refine wpAny_tail hs hOB hB (ops.toList.drop n) n fuel listed T Mc a w η rfl (Nat.le_refl _) (fun j hj => ?_) h8 (by simp; omega) hK htt h2 _ fun η2 t2 m2 a2 w2 g1 g2 g3 g4 g5 g6 =>
        ⟨rfl, η2, t2, m2, h1.trans g1, g2, g3, g4, h6.trans g5, g6.trans h7⟩
      by_cases hjn : j < n
      · rw [all j hjn hj]; simp [hjn]
      · rw [h9 j (by omega) hj]; simp [hjn]
    | succ c ih =>
      intro fuel listed a w hu hf hI
      by_cases hz : (unl (min n ops.size) listed).length ≤ c
      · exact ih fuel listed a w hz (by omega) hI
      obtain ⟨fuel, rfl⟩ : ∃ f, fuel = f + 1 := ⟨fuel - 1, by omega⟩
      obtain ⟨η, tt, Mc, hMI, h1, h2, h3, h4, h5, h6, h7, h8, h9⟩ := hI
      have clos : ∀ (i : Nat) (o : Oper), ops[i]? = some o → (∀ e ∈ o.after, Region.binds .any e = true → listed.getD e.on false = true) → ClI (listed.setIfInBounds i true) := by
        intro i o ho hdep q oq hqn hqo hlq z hz hez
        by_cases hiz : i = z
        · subst hiz
          have : i < listed.size := by omega
          simp [this]
        rw [getD_set_ne true hiz]
        by_cases hiq : i = q
        · subst hiq
          rw [ho] at hqo; cases hqo
          exact edge_dep hez hdep (by omega)
        · rw [getD_set_ne true hiq] at hlq
          exact hMI.2.1 q oq hqn hqo hlq z hz hez
      have still : ∀ (i : Nat) (o : Oper), ops[i]? = some o → (∀ b, ¬ Wr o b) → MemI (listed.setIfInBounds i true) Mc ∧ WrI (listed.setIfInBounds i true) η := by
        intro i o ho hno
        refine ⟨⟨hMI.1.1, fun b => ?_⟩, fun q oq hqn hqo hlq b hWr => ?_⟩
        · obtain ⟨j, hj, hb, hw⟩ := hMI.1.2 b
          refine ⟨j, hj, hb, fun q oq hqn hqo hWr => ?_⟩
          have hiq : i ≠ q := fun e => by subst e; rw [ho] at hqo; cases hqo; exact hno b hWr
          rw [getD_set_ne true hiq]; exact hw q oq hqn hqo hWr
        · have hiq : i ≠ q := fun e => by subst e; rw [ho] at hqo; cases hqo; exact hno b hWr
          rw [getD_set_ne true hiq] at hlq
          exact hMI.2.2 q oq hqn hqo hlq b hWr
      -- what a ready operation finds in the block that it reads or writes
      have look : ∀ (i : Nat) (o : Oper) (b : Nat), i < n → ops[i]? = some o → listed.getD i true = false → (∀ e ∈ o.after, Region.binds .any e = true → listed.getD e.on false = true) →
          (rdBlk o T = some b ∨ wrBlk o T = some b) → (∀ q oq, q < n → ops[q]? = some oq → q ≠ i → Wr oq b → (listed.getD q true = true ↔ q < i)) ∧ Mc[b]? = (MT i)[b]? := by
        intro i o b hin ho hl hdep hrw
        have hord : ∀ q oq, q < n → ops[q]? = some oq → q ≠ i → Wr oq b → (listed.getD q true = true ↔ q < i) := by
          intro q oq hqn hqo hqi hWr
          have he := hmo q i oq o b hqn hin hqo ho hqi hWr.1 hrw
          have hqs : q < ops.size := (Array.getElem?_eq_some_iff.1 hqo).1
          have his : i < ops.size := (Array.getElem?_eq_some_iff.1 ho).1
          by_cases hlt : q < i
          · rw [if_pos hlt] at he
            exact ⟨fun _ => hlt, fun _ => edge_dep he hdep (by omega)⟩
          · rw [if_neg hlt] at he
            refine ⟨fun hlq => ?_, fun h => absurd h hlt⟩
            have := hMI.2.1 q oq hqn hqo hlq i his he
            rw [hl] at this; cases this
        refine ⟨hord, ?_⟩
        obtain ⟨j, hj, hb, hw⟩ := hMI.1.2 b
        rw [hb]
        refine betw b i j (Nat.le_of_lt (inLen hin ho)) hj fun q oq hq hqn hqo hWr => ?_
        have h10 := hw q oq hqn hqo hWr
        by_cases hqi : q = i
        · subst hqi
          rw [hl] at h10
          have : ¬ q < j := fun h => by have := h10.2 h; cases this
          omega
        · have h11 := hord q oq hqn hqo hqi hWr
          have : q < j ↔ q < i := h10.symm.trans h11
          omega
      -- one that is not listed
      obtain ⟨j0, hj0n, hj0s, hj0⟩ : ∃ j, j < n ∧ j < ops.size ∧ listed.getD j true = false := by
        cases hq : unl (min n ops.size) listed with
        | nil => rw [hq] at hz; simp at hz
        | cons j l =>
          have hj : j ∈ unl (min n ops.size) listed := by rw [hq]; simp
          unfold unl at hj
          rw [List.mem_filter] at hj
          have h11 := hj.1
          have h11 : j < min n ops.size := by simpa using h11
          exact ⟨j, by omega, by omega, by simpa using hj.2⟩
      have hmin : ∃ i, i < n ∧ i ∈ Region.ready .any ops listed := by
        have : ∀ j, j < n → j < ops.size → listed.getD j true = false → ∃ i, i < n ∧ i ∈ Region.ready .any ops listed := by
          intro j
          induction j using Nat.strongRecOn with
          | _ j ihj =>
            intro hjn hjs hl
            by_cases hall : ∀ q, q < j → listed.getD q true = true
            · refine ⟨j, hjn, mem_ready.2 ⟨hl, ops[j], by simp, fun e he hb => ?_⟩⟩
              have hlt := (chk j ops[j] hjn (by simp)).1 e he hb
              have := hall e.on hlt
              have hs8 : e.on < listed.size := by omega
              simp [hs8] at this ⊢; exact this
            · have : ∃ q, q < j ∧ listed.getD q true = false := by
                refine Classical.byContradiction fun hno => hall fun q hq => ?_
                cases hlq : listed.getD q true with
                | true => rfl
                | false => exact absurd ⟨q, hq, hlq⟩ hno
              obtain ⟨q, hq, hlq⟩ := this
              exact ihj q hq (by omega) (by omega) hlq
        exact this j0 hj0n hj0s hj0
      have atI : ∀ (i : Nat) (o : Oper), i < n → i ∈ Region.ready .any ops listed → ops[i]? = some o → (∀ d ∈ o.looksAt ops, tt[d]? = T[d]?) := by
        intro i o hin hi ho
        obtain ⟨hl, o', ho', hdep⟩ := mem_ready.1 hi
        rw [ho] at ho'; cases ho'
        intro d hd
        rcases Nat.lt_or_ge d T.length with hlt | hge'
        · rcases h3.2 d hlt with h10 | ⟨_, j, p, hjn, hj, hun, hp⟩
          · exact h10
          · obtain ⟨hji, hed⟩ := ((chk i o hin ho).2 j p hjn hj d hp).2 hd
            have hjs : j < ops.size := (Array.getElem?_eq_some_iff.1 hj).1
            rw [edge_dep hed hdep (by omega)] at hun; cases hun
        · rw [List.getElem?_eq_none hge', List.getElem?_eq_none (by rw [h3.1]; exact hge')]
      have opsI : ∀ (o : Oper), (∀ d ∈ o.looksAt ops, tt[d]? = T[d]?) → ∀ x ∈ o.op.operands, ev tt x = ev T x := fun o told x hx => ev_congr x fun d hd => by
        subst hd; simp only [List.getD]; rw [told d (mem_looks_op hx)]
      have wantI : ∀ (o : Oper), (∀ d ∈ o.looksAt ops, tt[d]? = T[d]?) → ∀ {b}, WantT ops o T b → Region.wanted o (yielded ops a.tmps) = b := by
        intro o told b hw
        rcases hw with ⟨hg, rfl⟩ | ⟨j, want, d, hg, hd, hq⟩
        · simp [Region.wanted, hg]
        · have hlk := told d (mem_looks_guard hg hd)
          rcases hq with ⟨q, hq, rfl⟩ | ⟨hq, rfl⟩
          · rw [← hlk] at hq
            obtain ⟨c, hc, hcv⟩ := h4.get hq
            have hcv := hcv.bool_inv; subst hcv
            have hc' : a.tmps[d]? = some (.bool q) := by simpa using hc
            simp [Region.wanted, hg, yielded, hd, hc']
          · rw [← hlk] at hq
            obtain ⟨c, hc, hcv⟩ := h4.get hq
            obtain ⟨cc, rfl, _⟩ := hcv.tup_inv
            have hc' : a.tmps[d]? = some (.tuple cc) := by simpa using hc
            simp [Region.wanted, hg, yielded, hd, hc']
      by_cases hfree : ∃ i o, i < n ∧ i ∈ Region.ready .any ops listed ∧ ops[i]? = some o ∧ isFree o = true
      · -- one that looks at slots alone goes first
        obtain ⟨i, o, hin, hi, ho, hfr⟩ := hfree
        obtain ⟨hl, o', ho', hdep⟩ := mem_ready.1 hi
        rw [ho] at ho'; cases ho'
        have his : i < ops.size := (Array.getElem?_eq_some_iff.1 ho).1
        have hom : o ∈ ops.toList.take n := List.mem_of_getElem? (hn hin ho)
        have told := atI i o hin hi ho
        have hu' : (unl (min n ops.size) (listed.setIfInBounds i true)).length ≤ c := by have := unl_lt (n := min n ops.size) (by omega) hl; omega
        have hnoWr : ∀ b, ¬ Wr o b := fun b hb => by
          have := hb.1
          unfold wrBlk at this
          cases ho2 : o.op <;> simp [isFree, ho2] at hfr this
        have key : ∃ v c0, Yields P ops o c0 a ∧ CV ξ η v c0 ∧ ∀ d, o.dst = some d → d < T.length → T[d]? = some v := by
          cases hlocI i o hin ho with
          | skip hw hd hM' => exact ⟨undef, undef, .inr ⟨wantI o told hw, rfl⟩, .tup [] [] rfl (fun i v c h => by simp at h), hd⟩
          | alloc hw id vs ty hal => exfalso; cases ho2 : o.op <;> simp [isFree, isAlloc, ho2] at hfr hal
          | store hw hst => exfalso; cases ho2 : o.op <;> simp [isFree, isStore, ho2] at hfr hst
          | val hw hst hM' v hd H =>
            have hrun := H η a w tt Mc h2 (fun b hb => by unfold rdBlk at hb; cases ho2 : o.op <;> simp [isFree, ho2] at hfr hb) h4 (opsI o told)
            have hgo : ∀ {x : Next}, (execOp a.eval o).run P w = .ok x w → ∀ w', (execOp a.eval o).run P w' = .ok x w' := by
              intro x hx w'
              cases ho2 : o.op <;> simp [isFree, ho2] at hfr
              case move y => simp [execOp, ho2] at hx ⊢; exact hx
              case assign y => simp [execOp, ho2] at hx ⊢; exact hx
              case extract y q =>
                simp only [execOp, ho2, Instr.extract, Sem.run_bind] at hx ⊢
                split at hx
                · split at hx
                  · simpa using hx
                  · simp at hx
                · simp at hx
            rcases hrun with ⟨c0, hr, hc⟩ | ⟨g, argsc, hr, _⟩
            · exact ⟨v, c0, .inl ⟨wantI o told hw, hgo hr⟩, hc, hd⟩
            · exfalso
              cases ho2 : o.op <;> simp [isFree, ho2] at hfr
              case move y => simp [execOp, ho2] at hr
              case assign y => simp [execOp, ho2] at hr
              case extract y q =>
                simp only [execOp, ho2, Instr.extract, Sem.run_bind] at hr
                split at hr
                · split at hr
                  · simp at hr
                  · simp at hr
                · simp at hr
        obtain ⟨v, c0, hy, hcv, hd⟩ := key
        refine wpAny_first ho (Region.noSelect_spec hnosel) (fun c a w h => by cases h.1) fuel listed a w (fun j oj hj hji hun hno => ?_) hi hy ?_
        · -- apart from the others
          have hjs : j < ops.size := (Array.getElem?_eq_some_iff.1 hj).1
          have hne : edgeOn oj i = false := by
            cases hq : edgeOn oj i with
            | false => rfl
            | true =>
              obtain ⟨e, he, hb⟩ := List.any_eq_true.1 hq
              simp only [Bool.and_eq_true, beq_iff_eq] at hb
              exact absurd hb.2 (hno e (by simpa using he) hb.1)
          rcases Nat.lt_or_ge j n with hjn | hjn
          · unfold Oper.apart
            simp only [Bool.and_eq_true]
            refine ⟨?_, ?_⟩
            · cases hod : o.dst with
              | none => rfl
              | some d =>
                have h11 := (chk j oj hjn hj).2 i o hin ho d hod
                simp only [Bool.and_eq_true, Bool.not_eq_true', bne_iff_ne, ne_eq]
                refine ⟨?_, fun e => ?_⟩
                · cases hq : (oj.looksAt ops).contains d with
                  | false => rfl
                  | true => have := (h11.2 (by simpa using hq)).2; rw [hne] at this; cases this
                · rcases h11.1 with h12 | h12
                  · omega
                  · exact h12 e
            · cases hjd : oj.dst with
              | none => rfl
              | some d =>
                simp only [Bool.not_eq_true']
                cases hq : (o.looksAt ops).contains d with
                | false => rfl
                | true =>
                  have h11 := ((chk i o hin ho).2 j oj hjn hj d hjd).2 (by simpa using hq)
                  rw [edge_dep h11.2 hdep (by omega)] at hun; cases hun
          · have h11 := (hB j oj hjn hj).1 i (by omega)
            rw [if_pos hin] at h11
            simp only [waitsOr, hne, ho, Bool.false_or, Bool.and_eq_true] at h11
            exact h11.2
        · refine ih fuel _ _ _ hu' (by omega) ⟨η, putL tt o.dst v, Mc, ⟨(still i o ho hnoWr).1, clos i o ho hdep, (still i o ho hnoWr).2⟩, h1, h2, h3.step ho hd, putL_cv h4 _ hcv, fun j p hjn hj hun b hb2 => ?_, h6, (put_defers _ _).trans h7, by simpa using h8, fun j hnj hjs => ?_⟩
          · have hij : i ≠ j := fun e => by
              subst e
              have : i < listed.size := by omega
              simp [this] at hun
            rw [getD_set_ne true hij] at hun
            exact h5 j p hjn hj hun b hb2
          · rw [getD_set_ne true (by omega)]; exact h9 j hnj hjs
      refine ⟨fun hrd => (by obtain ⟨i, _, hi⟩ := hmin; rw [hrd] at hi; cases hi), fun i hi => ?_⟩
      obtain ⟨hl, o, ho, hdep⟩ := mem_ready.1 hi
      have his : i < ops.size := (Array.getElem?_eq_some_iff.1 ho).1
      have hin : i < n := by
        rcases Nat.lt_or_ge i n with h' | h'
        · exact h'
        · obtain ⟨q, hqn, hq⟩ := hmin
          obtain ⟨hql, p, hp, _⟩ := mem_ready.1 hq
          have hqs : q < ops.size := (Array.getElem?_eq_some_iff.1 hp).1
          have h11 := (hB i o h' ho).1 q (by omega)
          rw [if_pos hqn] at h11
          have hnf : isFree p = false := by
            cases hz : isFree p with
            | false => rfl
            | true => exact absurd ⟨q, p, hqn, hq, hp, hz⟩ hfree
          simp only [waitsOr, hp, hnf, Bool.false_and, Bool.or_false] at h11
          have := edge_dep h11 hdep (by omega)
          rw [this] at hql; cases hql
      have hom : o ∈ ops.toList.take n := List.mem_of_getElem? (hn hin ho)
      have hu' : (unl (min n ops.size) (listed.setIfInBounds i true)).length ≤ c := by have := unl_lt (n := min n ops.size) (by omega) hl; omega
      have told := atI i o hin hi ho
      have hops := opsI o told
      have hwant : ∀ {b}, WantT ops o T b → Region.wanted o (yielded ops a.tmps) = b := wantI o told
      -- what comes behind
      have next : ∀ (v c0 : Value) (η' : Eta) (w' : World) (Mc' : Mem), MemI (listed.setIfInBounds i true) Mc' → WrI (listed.setIfInBounds i true) η' → (∀ d, o.dst = some d → d < T.length → T[d]? = some v) → η.le η' → CV ξ η' v c0 → Rel ξ Φ base η' Mc' w' → Below base w w' →
          (∀ j p, j < n → ops[j]? = some p → j ≠ i → listed.getD j true = false → ∀ b, allocId p T = some b → η' b = none) →
          wpAny P .any ops (fun e a' w' => e = .normal ∧ ∃ η' t' m', η0.le η' ∧ K t' m' = some r ∧ CVl ξ η' t' a'.tmps.toList ∧ Rel ξ Φ base η' m' w' ∧ Below base w0 w' ∧ a'.defers = a0.defers) fuel (listed.setIfInBounds i true) (a.put o.dst c0) w' := by
        intro v c0 η' w' Mc' hmi hwi hd hle hcv hrel hb hal
        refine ih fuel _ _ _ hu' (by omega) ⟨η', putL tt o.dst v, Mc', ⟨hmi, clos i o ho hdep, hwi⟩, h1.trans hle, hrel, h3.step ho hd, putL_cv (h4.mono hle) _ hcv, fun j p hjn hj hun b hb2 => ?_, h6.trans hb, (put_defers _ _).trans h7, by simpa using h8, fun j hnj hjs => ?_⟩
        · have hij : i ≠ j := fun e => by
            subst e
            have : i < listed.size := by omega
            simp [this] at hun
          rw [getD_set_ne true hij] at hun
          exact hal j p hjn hj (Ne.symm hij) hun b hb2
        · rw [getD_set_ne true (by omega)]; exact h9 j hnj hjs
      have same : ∀ j p, j < n → ops[j]? = some p → j ≠ i → listed.getD j true = false → ∀ b, allocId p T = some b → η b = none := fun j p hjn hj _ hun b hb => h5 j p hjn hj hun b hb
      unfold wpOp
      rw [ho]
      simp only
      cases hlocI i o hin ho with
      | skip hw hd hM' =>
        rw [if_neg (by rw [hwant hw]; simp)]
        have hno : ∀ b, ¬ Wr o b := fun b hb => hw.not hb.2
        exact next undef undef η w Mc (still i o ho hno).1 (still i o ho hno).2 hd (Eta.le.refl _) (.tup [] [] rfl (fun i v c h => by simp at h)) h2 (Below.refl _ _) same
      | val hw hst hM' v hd H =>
        rw [if_pos (hwant hw)]
        have hno : ∀ b, ¬ Wr o b := fun b hb => by
          have := hb.1
          unfold wrBlk at this
          unfold isStore at hst
          cases ho2 : o.op <;> simp [ho2] at hst this
        left
        rcases H η a w tt Mc h2 (fun b hb => (look i o b hin ho hl hdep (.inl hb)).2) h4 hops with ⟨c0, hr, hc⟩ | ⟨g, argsc, hr, hcall⟩
        · unfold Oper.wp; rw [hr]
          exact next v c0 η w Mc (still i o ho hno).1 (still i o ho hno).2 hd (Eta.le.refl _) hc h2 (Below.refl _ _) same
        · unfold Oper.wp; rw [hr]
          exact hcall.mono fun e w' he => by
            obtain ⟨c0, rfl, hcv, hb⟩ := he
            exact next v c0 η w' Mc (still i o ho hno).1 (still i o ho hno).2 hd (Eta.le.refl _) hcv (h2.below hs hb) (hb.mono h2.le) same
      | store hw hst b k hb hM' hd H =>
        rw [if_pos (hwant hw)]
        left
        obtain ⟨hord, hMb⟩ := look i o b hin ho hl hdep (.inr hb)
        obtain ⟨hp, w', hr, hrel, hbel⟩ := H η a w tt Mc h2 hMb h4 hops
        unfold Oper.wp; rw [hr]
        refine next undef undef η w' (Mc.set b k) ⟨by rw [List.length_set]; exact hMI.1.1, fun b' => ?_⟩ (fun q oq hqn hqo hlq b' hWr => ?_) hd (Eta.le.refl _) (.tup [] [] rfl (fun i v c h => by simp at h)) hrel hbel same
        · by_cases hbb : b = b'
          · subst hbb
            refine ⟨i + 1, inLen hin ho, ?_, fun q oq hqn hqo hWr => ?_⟩
            · rw [hM', List.getElem?_set, List.getElem?_set, if_pos rfl, if_pos rfl, hMI.1.1, hlenMT i (Nat.le_of_lt (inLen hin ho))]
            · by_cases hiq : i = q
              · subst hiq
                have : i < listed.size := by omega
                simp [this]
              · rw [getD_set_ne true hiq, hord q oq hqn hqo (Ne.symm hiq) hWr]; omega
          · obtain ⟨j, hj, hb', hw'⟩ := hMI.1.2 b'
            refine ⟨j, hj, by rw [List.getElem?_set_ne hbb]; exact hb', fun q oq hqn hqo hWr => ?_⟩
            have hiq : i ≠ q := fun e => by
              subst e; rw [ho] at hqo; cases hqo
              have := hWr.1; rw [hb] at this; cases this; exact hbb rfl
            rw [getD_set_ne true hiq]; exact hw' q oq hqn hqo hWr
        · by_cases hiq : i = q
          · subst hiq; rw [ho] at hqo; cases hqo
            have := hWr.1; rw [hb] at this; cases this
            exact hp
          · rw [getD_set_ne true hiq] at hlq
            exact hMI.2.2 q oq hqn hqo hlq b' hWr
      | alloc hw id vs ty hal hM' hM hd hdst H =>
        rw [if_pos (hwant hw)]
        have hno : ∀ b, ¬ Wr o b := fun b hb => by
          have := hb.1
          unfold wrBlk at this
          unfold isAlloc at hal
          cases ho2 : o.op <;> simp [ho2] at hal this
        left
        obtain ⟨cs, hr, hc⟩ := H η a w tt h4 hops
        obtain ⟨d0, hd0, hlt0⟩ := hdst
        have haid : allocId o T = some id := by simp [allocId, hal, hd0, hd d0 hd0 hlt0]
        have hηid := h5 i o hin ho hl id haid
        have hMid : Mc[id]? = some ⟨vs, ty, true⟩ := by
          obtain ⟨j, hj, hb, hw'⟩ := hMI.1.2 id
          rw [hb, betw id i j (Nat.le_of_lt (inLen hin ho)) hj, hM]
          intro q oq hq hqn hqo hWr
          rcases hq with ⟨hq1, hq2⟩ | ⟨hq1, hq2⟩
          · have hlq := (hw' q oq hqn hqo hWr).2 hq2
            obtain ⟨p, hp⟩ := hMI.2.2 q oq hqn hqo hlq id hWr
            rw [hηid] at hp; cases hp
          · rcases hwrT q oq (hn hqn hqo) id hWr.1 hWr.2 with h10 | ⟨i', o', hi', ho', ha⟩
            · have := hge o hom id haid; omega
            · have hpw := List.pairwise_iff_getElem.1 hpwT
              obtain ⟨hil, ei⟩ := List.getElem?_eq_some_iff.1 (hn hin ho)
              obtain ⟨hil', ei'⟩ := List.getElem?_eq_some_iff.1 ho'
              have := hpw i' i hil' hil (by omega)
              rw [ei, ei'] at this
              exact this id ha haid
        obtain ⟨h10, h11, h12⟩ := h2.alloc' hs cs hMid hηid hc
        unfold Oper.wp; rw [hr]
        refine next _ _ _ _ Mc (still i o ho hno).1 (fun q oq hqn hqo hlq b hWr => ?_) hd h11 (.ptr id 0 w.heap.size 0 (by simp)) h10 h12 fun j p hjn hj hji hun b hb => ?_
        · obtain ⟨p, hp⟩ := (still i o ho hno).2 q oq hqn hqo hlq b hWr
          exact ⟨p, h11 b p hp⟩
        have hne : b ≠ id := by
          intro hbe; subst hbe
          have hpw := List.pairwise_iff_getElem.1 hpwT
          have hgi := hn hin ho
          have hgj := hn hjn hj
          obtain ⟨hi', ei⟩ := List.getElem?_eq_some_iff.1 hgi
          obtain ⟨hj', ej⟩ := List.getElem?_eq_some_iff.1 hgj
          rcases Nat.lt_or_gt_of_ne hji with hlt | hgt
          · have := hpw j i hj' hi' hlt
            rw [ei, ej] at this
            exact this b hb haid
          · have := hpw i j hi' hj' hgt
            rw [ei, ej] at this
            exact this b haid hb
        show (if b = id then _ else η b) = none
        rw [if_neg hne]; exact same j p hjn hj hji hun b hb
  have hfirst : Inv (Array.replicate ops.size false) a0 { w0 with drawn := w0.drawn + 1 } := by
    have hal : ∀ j o, j < n → ops[j]? = some o → ∀ b, allocId o T = some b → η0 b = none := fun j o hjn hj b hb => by
      have := hge o (List.mem_of_getElem? (hn hjn hj)) b hb
      cases hq : η0 b with
      | none => rfl
      | some q => have := hr0.dom b q hq; omega
    have hcur : ∃ tt, Cur n ops T (Array.replicate ops.size false) tt ∧ CVl ξ η0 tt a0.tmps.toList := by
      refine ⟨(List.range T.length).map fun d => if ((ops.toList.take n).any fun o => o.dst == some d) = true then .chan (some 0) else T.getD d undef, ⟨by simp, fun d hlt => ?_⟩, ?_⟩
      · simp only [List.getElem?_map, List.getElem?_range hlt, Option.map_some]
        by_cases hq : ((ops.toList.take n).any fun o => o.dst == some d) = true
        · rw [if_pos hq]
          obtain ⟨o, ho, hod⟩ := List.any_eq_true.1 hq
          obtain ⟨j, hjn, hj⟩ := hidx o ho
          have hjs : j < ops.size := (Array.getElem?_eq_some_iff.1 hj).1
          exact .inr ⟨rfl, j, o, hjn, hj, by simp [hjs], by simpa using hod⟩
        · rw [if_neg hq]; left; simp [List.getD, hlt]
      · refine ⟨by simp [hTl, ht0.1], fun d v c hv hc => ?_⟩
        rcases Nat.lt_or_ge d T.length with hlt | hge'
        · simp only [List.getElem?_map, List.getElem?_range hlt, Option.map_some, Option.some.injEq] at hv
          by_cases hq : ((ops.toList.take n).any fun o => o.dst == some d) = true
          · rw [if_pos hq] at hv; subst hv; exact .psn _
          · rw [if_neg hq] at hv
            have := hT d fun p hp e => hq (List.any_eq_true.2 ⟨p, hp, by simp [e]⟩)
            simp only [List.getD, this] at hv
            have hlt' : d < t.length := by omega
            rw [List.getElem?_eq_getElem hlt'] at hv
            simp at hv
            exact ht0.2 d v c (by rw [List.getElem?_eq_getElem hlt', hv]) hc
        · rw [List.getElem?_eq_none (by simpa using hge')] at hv; cases hv
    obtain ⟨tt, hc1, hc2⟩ := hcur
    have hrel0 : Rel ξ Φ base η0 (MT 0) w0.drew := by
      have hr1 := hr0.drew hs
      refine ⟨hr1.ext, hr1.le, fun b p e => Nat.lt_of_lt_of_le (hr1.dom b p e) hM00, fun b B o k e hk => ?_, fun b b' B o o' k e e' hk => ?_⟩
      · rw [hM0 b (hr1.dom b _ e)] at hk; exact hr1.blk b B o k e hk
      · rw [hM0 b (hr1.dom b _ e)] at hk; exact hr1.inj b b' B o o' k e e' hk
    have hfl : ∀ q, q < ops.size → (Array.replicate ops.size false).getD q true = false := fun q hq => by simp [hq]
    refine ⟨η0, tt, MT 0, ⟨⟨rfl, fun b => ⟨0, Nat.zero_le _, rfl, fun q o hqn hqo _ => ?_⟩⟩, fun q o hqn hqo hlq => ?_, fun q o hqn hqo hlq => ?_⟩, Eta.le.refl _, hrel0, hc1, hc2, fun j o hjn hj _ b hb => hal j o hjn hj b hb, (Below.refl _ _).drew, rfl, by simp, fun j _ hjs => by simp [hjs]⟩
    · rw [hfl q (Array.getElem?_eq_some_iff.1 hqo).1]; simp
    · rw [hfl q (Array.getElem?_eq_some_iff.1 hqo).1] at hlq; cases hlq
    · rw [hfl q (Array.getElem?_eq_some_iff.1 hqo).1] at hlq; cases hlq
  have hfu : (unl (min n ops.size) (Array.replicate ops.size false)).length ≤ min n ops.size := by
    unfold unl
    exact Nat.le_trans (List.length_filter_le _ _) (by simp)
  exact main (min n ops.size) ops.size _ a0 _ hfu (by omega) hfirst
/-- regions that draw their order: told if the check allows it; OB speaks of calls that stand behind all others -/
def drawO {R : Type} (P : Program) (O : OraQ R) (OB : Ora R) : Dra R := fun ops t m K =>
  if drawOk ops (freeLen ops) = true ∧ ((ops.toList.take (freeLen ops)).all fun o => match o.dst with | some d => decide (d < t.length) | none => !isAlloc o) = true then
    runOps P (liftQ O) ops (ops.toList.take (freeLen ops)) t m (fun t1 m1 => if memOk ops (freeLen ops) t1 = true then runOps P OB ops (ops.toList.drop (freeLen ops)) t1 m1 K else none)
  else none
def drawQ {R : Type} (P : Program) (O : OraQ R) : Dra R := drawO P O (liftQ O)
theorem drawO_ok {R : Type} {O : OraQ R} {OB : Ora R} (hm : P.follows .mixedOrders = true) (hs : Stable Φ base) (hO : OraQOk P ξ Φ base O) (hOB : OraOk P ξ Φ base OB) : DraOk P ξ Φ base (drawO P O OB) := by
  intro ops t m K r h
  unfold drawO at h
  split at h
  · rename_i hc; exact draw_sound hm hs hO hOB hc.1 hc.2 h
  · cases h
theorem drawQ_ok {R : Type} {O : OraQ R} (hm : P.follows .mixedOrders = true) (hs : Stable Φ base) (hO : OraQOk P ξ Φ base O) : DraOk P ξ Φ base (drawQ P O) := drawO_ok hm hs hO (hO.lift hs)
theorem CV.eq0 {v c : Value} (h : CV ξ η v c) (hc : clo0 v = true) : c = v := by
  cases h <;> first | rfl | (simp [clo0] at hc; done)
theorem CVl.eq0 : ∀ {l cs : List Value}, CVl ξ η l cs → l.all clo0 = true → cs = l
  | [], cs, h, _ => CVl.of_nil h
  | v :: l, cs, h, hc => by
    obtain ⟨c, cs', rfl, h1, h2⟩ := h.of_cons
    simp only [List.all_cons, Bool.and_eq_true] at hc
    rw [h1.eq0 hc.1, CVl.eq0 h2 hc.2]
theorem CV.eq1 {v c : Value} (h : CV ξ η v c) (hc : clo v = true) : c = v := by
  unfold clo at hc
  split at hc
  · obtain ⟨cs, rfl, h1⟩ := h.agg_inv
    have := CVl.eq0 h1 hc
    congr 1; exact Array.ext' this
  · obtain ⟨cs, rfl, h1⟩ := h.tup_inv
    have := CVl.eq0 h1 hc
    congr 1; exact Array.ext' this
  · exact h.eq0 hc
theorem CVl.eq1 : ∀ {l cs : List Value}, CVl ξ η l cs → l.all clo = true → cs = l
  | [], cs, h, _ => CVl.of_nil h
  | v :: l, cs, h, hc => by
    obtain ⟨c, cs', rfl, h1, h2⟩ := h.of_cons
    simp only [List.all_cons, Bool.and_eq_true] at hc
    rw [h1.eq1 hc.1, CVl.eq1 h2 hc.2]
/-- results: closed values, tuples of them -/
def clo2 (v : Value) : Bool := match v with | .tuple vs => vs.toList.all clo | v => clo v
theorem CV.eq2 {v c : Value} (h : CV ξ η v c) (hc : clo2 v = true) : c = v := by
  unfold clo2 at hc
  split at hc
  · obtain ⟨cs, rfl, h1⟩ := h.tup_inv
    have := CVl.eq1 h1 hc
    congr 1; exact Array.ext' this
  · exact h.eq1 hc
/-- A function of closed values that keeps nothing: out of the executor, from no memory on. -/
theorem calls_closedO {R : Type} {O : Ora R} {D : Dra R} (hOD : ∀ Φ base, Stable Φ base → OraOk P (fun _ => undef) Φ base O ∧ DraOk P (fun _ => undef) Φ base D) {LF : Nat → Option (List Nat × Nat × LoopF R)}
    {LS : Code → Prop} (hL : ∀ Φ base, Stable Φ base → ∀ c, LS c → ∀ live len f, LF (headId c) = some (live, len, f) → LoopOk P (fun _ => undef) Φ base 0 c f) {f : FuncId} {fn : Func} {c : Code} (hfn : P.funcs[f]? = some fn) (hb : fn.body = some c) (hls : ∀ c' ∈ loops c, LS c')
    {n : Nat} {args : List Value} {F : Value → Mem → Option R} {r : R} {v : Value} (ha : args.all clo = true) (hF : ∀ u m, F u m = some r → u = v) (hv : clo2 v = true)
    (h : runM P O D LF (atEnd P fn F) n [.code c] (args ++ List.replicate (fn.ntmps - args.length) undef) [] = some r) (w : World) :
    Calls P f ⟨args⟩ w fun e w' => e = .returned v ∧ Below w.heap.size w w' := by
  have hs : Stable (fun _ => True) w.heap.size := fun _ _ _ _ => trivial
  obtain ⟨hO, hD⟩ := hOD (fun _ => True) w.heap.size hs
  have hrel : Rel (fun _ => undef) (fun _ => True) w.heap.size (fun _ => none) [] w :=
    ⟨trivial, Nat.le_refl _, fun b p e => (by cases e), fun b B o k e => (by cases e), fun b b' B o o' k e => (by cases e)⟩
  have hcv : CVl (fun _ => undef) (fun _ => none) args args := ⟨rfl, fun i v c hv hc => by
    rw [hv] at hc; simp at hc; subst hc; exact CV.refl1 (List.all_eq_true.1 ha v (List.mem_of_getElem? hv))⟩
  refine (calls_of_run hs hO hD (L := 0) (LS := LS) (fun c hc live len f e => ⟨Nat.zero_le _, hL _ _ hs c hc live len f e⟩) hfn hb hls h hcv hrel).mono ?_
  rintro e w' ⟨u, m', η', c, h0, rfl, _, h3, _, h5⟩
  have := hF u m' h0; subst this
  exact ⟨by rw [h3.eq2 hv], h5⟩
theorem calls_closed {R : Type} {OQ : OraQ R} (hm : P.follows .mixedOrders = true) (hO : ∀ Φ base, Stable Φ base → OraQOk P (fun _ => undef) Φ base OQ) {LF : Nat → Option (List Nat × Nat × LoopF R)}
    {LS : Code → Prop} (hL : ∀ Φ base, Stable Φ base → ∀ c, LS c → ∀ live len f, LF (headId c) = some (live, len, f) → LoopOk P (fun _ => undef) Φ base 0 c f) {f : FuncId} {fn : Func} {c : Code} (hfn : P.funcs[f]? = some fn) (hb : fn.body = some c) (hls : ∀ c' ∈ loops c, LS c')
    {n : Nat} {args : List Value} {F : Value → Mem → Option R} {r : R} {v : Value} (ha : args.all clo = true) (hF : ∀ u m, F u m = some r → u = v) (hv : clo2 v = true)
    (h : runM P (liftQ OQ) (drawQ P OQ) LF (atEnd P fn F) n [.code c] (args ++ List.replicate (fn.ntmps - args.length) undef) [] = some r) (w : World) :
    Calls P f ⟨args⟩ w fun e w' => e = .returned v ∧ Below w.heap.size w w' :=
  calls_closedO (fun Φ base hs => ⟨(hO Φ base hs).lift hs, drawQ_ok hm hs (hO Φ base hs)⟩) hL hfn hb hls ha hF hv h w
end
end Go.Proofs.Ytblidfmhlhhmkaa.Sx
