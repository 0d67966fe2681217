/- The symbolic executor's operations are the model's. -/
import Derived.Test.YtblidfmhlhhmkaaOscillPlaysn5
set_option linter.unusedVariables false
set_option linter.unusedSimpArgs false
namespace Go.Proofs.Ytblidfmhlhhmkaa.Sx
open Go Go.RowKit
section
variable {ξ : Nat → Value} {Φ : World → Prop} {base : Nat} {η η' : Eta} {m m' : Mem} {w w' : World} {P : Program} {t : List Value} {a : Act}
theorem ev_cv (h : CVl ξ η t a.tmps.toList) (x : Operand) : CV ξ η (ev t x) (a.eval x) := by
  cases x with
  | tmp i =>
    have := h.getD i
    have e : a.tmps.getD i undef = a.tmps.toList.getD i undef := by simp [List.getD, Array.getD_eq_getD_getElem?]
    show CV ξ η (t.getD i undef) (a.tmps.getD i undef)
    rw [e]; exact this
  | const v =>
    show CV ξ η (if clo v = true then v else .chan (some 0)) v
    split
    · rename_i hc; exact CV.refl1 hc
    · exact .psn _
  | global g => exact .psn _
  | func f => exact .func (.func f) [] [] rfl (fun i v c h => by simp at h)
theorem putL_cv (h : CVl ξ η t a.tmps.toList) (dst : Option Tmp) {v c : Value} (hv : CV ξ η v c) : CVl ξ η (putL t dst v) (a.put dst c).tmps.toList := by
  cases dst with
  | none => exact h
  | some d => simp only [putL, Act.put, Array.toList_setIfInBounds]; exact h.set d hv
theorem put_defers (dst : Option Tmp) (c : Value) : (a.put dst c).defers = a.defers := by cases dst <;> rfl
/-- A step of an operation that the executor has told right. -/
def Good (ξ : Nat → Value) (Φ : World → Prop) (base : Nat) (P : Program) (η : Eta) (w : World) (a : Act) (o : Oper) (v : Value) (m' : Mem) : Prop :=
  ∀ (Kc : Act → World → Prop) (Q : Exit → Act → World → Prop),
    (∀ η' c w', η.le η' → CV ξ η' v c → Rel ξ Φ base η' m' w' → Below base w w' → Kc (a.put o.dst c) w') → o.wp P a w Kc Q
theorem Good.value {o : Oper} {v c : Value} (hr : (execOp a.eval o).run P w = .ok (.value c) w') (he : η.le η') (hc : CV ξ η' v c) (hrel : Rel ξ Φ base η' m' w') (hb : Below base w w') :
    Good ξ Φ base P η w a o v m' := fun Kc Q h => by
  unfold Oper.wp; rw [hr]; exact h η' c w' he hc hrel hb
theorem Good.skip {o : Oper} (hr : (execOp a.eval o).run P w = .ok .skip w') (he : η.le η') (hrel : Rel ξ Φ base η' m' w') (hb : Below base w w') :
    Good ξ Φ base P η w a o undef m' := fun Kc Q h => by
  unfold Oper.wp; rw [hr]; exact h η' undef w' he (.tup [] [] rfl (fun i v c h => by simp at h)) hrel hb
/-- What an operation does, told by kinds. -/
inductive Eff (ξ : Nat → Value) (Φ : World → Prop) (base : Nat) (P : Program) (CO : FuncId → List Value → Value → Mem → Prop) (η : Eta) (w : World) (a : Act) (o : Oper) (m : Mem) : Value → Mem → Prop
  | same (v c : Value) (hr : (execOp a.eval o).run P w = .ok (.value c) w) (hc : CV ξ η v c) : Eff ξ Φ base P CO η w a o m v m
  | alloc (vs : List Value) (cs : Array Value) (ty : TypeId) (hr : (execOp a.eval o).run P w = .ok (.value (.pointer (some ⟨w.heap.size, 0, none⟩))) (w.alloc (.cells cs ty)))
      (hc : CVl ξ η vs cs.toList) : Eff ξ Φ base P CO η w a o m (.pointer (some ⟨m.length, 0, none⟩)) (m ++ [⟨vs, ty, true⟩])
  | store (m' : Mem) (w' : World) (hst : isStore o = true) (hr : (execOp a.eval o).run P w = .ok .skip w') (hrel : Rel ξ Φ base η m' w') (hb : Below base w w') : Eff ξ Φ base P CO η w a o m undef m'
  | call (g : FuncId) (args : List Value) (argsc : Array Value) (v : Value) (m' : Mem) (hr : (execOp a.eval o).run P w = .ok (.enter g argsc) w) (hc : CVl ξ η args argsc.toList)
      (hk : CO g args v m') : Eff ξ Φ base P CO η w a o m v m'
theorem Good.same {o : Oper} {v c : Value} (hr : (execOp a.eval o).run P w = .ok (.value c) w) (hc : CV ξ η v c) (hrel : Rel ξ Φ base η m w) :
    Good ξ Φ base P η w a o v m := Good.value hr (Eta.le.refl _) hc hrel (Below.refl _ _)
theorem fill_cv (place : Nat → Option (Nat × Nat)) : ∀ (pa pc : List (Nat × Value)) (ca cc ra : Array Value), CVl ξ η ca.toList cc.toList →
    pa.length = pc.length → (∀ (i : Nat) (x y : Nat × Value), pa[i]? = some x → pc[i]? = some y → x.1 = y.1 ∧ CV ξ η x.2 y.2 ∧ known x.2 = true) →
    Instr.fill place ca pa = some ra → ∃ rc, Instr.fill place cc pc = some rc ∧ CVl ξ η ra.toList rc.toList := by
  intro pa
  induction pa with
  | nil =>
    intro pc ca cc ra h hl _ hf
    cases pc with
    | nil => simp only [Instr.fill, Option.some.injEq] at hf; subst hf; exact ⟨cc, rfl, h⟩
    | cons _ _ => simp at hl
  | cons x pa ih =>
    intro pc ca cc ra h hl hp hf
    cases pc with
    | nil => simp at hl
    | cons y pc =>
      obtain ⟨i, v⟩ := x; obtain ⟨j, u⟩ := y
      obtain ⟨hij, hvu, hk⟩ := hp 0 _ _ rfl rfl
      simp only at hij hvu hk; subst hij
      simp only [Instr.fill] at hf ⊢
      have hcells := hvu.cells hk
      have hsz : u.cells.size = v.cells.size := by have := hcells.1; simpa using this.symm
      have hcs : cc.size = ca.size := by have := h.1; simpa using this.symm
      cases hpl : place i with
      | none => simp [hpl] at hf
      | some q =>
        obtain ⟨off, size⟩ := q
        simp only [hpl] at hf ⊢
        rw [hsz, hcs]
        split at hf
        · simp at hf
        · rename_i hn
          rw [if_neg hn]
          refine ih pc _ _ ra ?_ (by simpa using hl) (fun n x y hx hy => hp (n + 1) x y (by simpa using hx) (by simpa using hy)) hf
          -- the cells of one part
          have fold : ∀ (l1 l2 : List Value) (k : Nat) (A C : Array Value), CVl ξ η l1 l2 → CVl ξ η A.toList C.toList →
              CVl ξ η ((l1.zipIdx k).foldl (fun cs (q : Value × Nat) => cs.setIfInBounds (off + q.2) q.1) A).toList ((l2.zipIdx k).foldl (fun cs (q : Value × Nat) => cs.setIfInBounds (off + q.2) q.1) C).toList := by
            intro l1
            induction l1 with
            | nil => intro l2 k A C h1 h2; rw [CVl.of_nil h1]; exact h2
            | cons p l1 ih =>
              intro l2 k A C h1 h2
              obtain ⟨c, l2', rfl, hc, h1'⟩ := h1.of_cons
              simp only [List.zipIdx_cons, List.foldl_cons]
              refine ih l2' (k + 1) _ _ h1' ?_
              simp only [Array.toList_setIfInBounds]; exact h2.set _ hc
          have := fold v.cells.toList u.cells.toList 0 ca cc hcells h
          simp only [← Array.foldl_toList, Array.toList_zipIdx]; exact this
theorem abin_sound {R : Type} {op : BinOp} {x y : Value} {K : Value → Option R} {r : R} (h : abin op x y K = some r) :
    ∃ v, K v = some r ∧ ∀ (η : Eta) (cx cy : Value) (w : World) (ty : TypeId) (ox oy : Operand), CV ξ η x cx → CV ξ η y cy →
      CV ξ η v v ∧ (do eqGuard op ty ox oy cx cy; binOp op ty cx cy : Sem Value).run P w = .ok v w := by
  unfold abin at h
  split at h <;> first
    | (simp at h; done)
    | (split at h
       · rename_i hk; subst hk
         first
         | exact ⟨_, h, fun η cx cy w ty ox oy hx hy => by
             have ex := hx.int_inv; have ey := hy.int_inv; subst ex ey
             exact ⟨by first | exact .int _ _ | exact .bool _, by simp [eqGuard, binOp, Op.intArith, Op.intCmp, bits, Op.intBits]⟩⟩
         | (split at h
            · simp at h
            · rename_i hz
              exact ⟨_, h, fun η cx cy w ty ox oy hx hy => by
                have ex := hx.int_inv; have ey := hy.int_inv; subst ex ey
                exact ⟨.int _ _, by simp [eqGuard, binOp, Op.intDiv, hz]⟩⟩)
       · simp at h)
    | (split at h
       · simp at h
       · rename_i hz
         exact ⟨_, h, fun η cx cy w ty ox oy hx hy => by
           have ex := hx.int_inv; have ey := hy.int_inv; subst ex ey
           exact ⟨.int _ _, by simp [eqGuard, binOp, Op.shift, hz]⟩⟩)
theorem aun_sound {R : Type} {op : UnOp} {x : Value} {K : Value → Option R} {r : R} (h : aun op x K = some r) :
    ∃ v, K v = some r ∧ ∀ (η : Eta) (cx : Value) (w : World), CV ξ η x cx → CV ξ η v v ∧ (Op.unary op cx).run P w = .ok v w := by
  unfold aun at h
  split at h
  · exact ⟨_, h, fun η cx w hx => by have := hx.int_inv; subst this; exact ⟨.int _ _, by simp [Op.unary, Op.intArith]⟩⟩
  · exact ⟨_, h, fun η cx w hx => by have := hx.bool_inv; subst this; exact ⟨.bool _, by simp [Op.unary]⟩⟩
  · simp at h
theorem run_isAgg {ty : TypeId} {d : TypeDesc} (h : P.underlying ty = some d) : (isAgg ty).run P w = .ok (aggD d) w := by
  unfold isAgg
  simp only [Sem.run_bind, run_underlying h, Result.andThen_ok]
  cases d <;> rfl
theorem run_size {ty : TypeId} {i : TypeInfo} (h : P.info? ty = some i) : (sizeOf ty).run P w = .ok i.size w := by simp [sizeOf, typeInfo, h]
theorem addr_add (B o i : Nat) : (⟨B, o, none⟩ : Addr).add i = ⟨B, o + i, none⟩ := by unfold Addr.add; split <;> simp_all
theorem aload_sound {R : Type} {ty : TypeId} {x : Value} {K : Value → Option R} {r : R} (h : aload P ty x m K = some r) :
    ∃ v, K v = some r ∧ ∀ (η : Eta) (cx : Value) (w : World), CV ξ η x cx → (∀ b, ptrBlk x = some b → RelAt ξ η m w b) → ∃ c, CV ξ η v c ∧ (Instr.loadAt ty cx).run P w = .ok c w := by
  unfold aload at h
  split at h
  · rename_i b i
    split at h
    · rename_i d n z k ht hm
      obtain ⟨hu, inf, hi, rfl, hz⟩ := tinf_ok ht
      split at h
      · rename_i hd
        split at h
        · rename_i l hl
          unfold cellsAt at hl
          simp only at hl
          split at hl
          · rename_i hlen
            simp at hl; subst hl
            refine ⟨_, h, fun η cx w hx hrel' => ?_⟩
            have hrel := hrel' b rfl
            obtain ⟨B, o, _, he, rfl⟩ := hx.ptr_inv
            simp only at he
            -- the cells of the world
            have hex : ∀ j v, ((k.cells.drop i).take inf.size)[j]? = some v → ∃ c, w.cell? ⟨B, o + i + j, none⟩ = some c ∧ CV ξ η v c := fun j v hj => by
              rw [List.getElem?_take] at hj
              split at hj
              · rw [List.getElem?_drop] at hj
                obtain ⟨c, h1, h2⟩ := hrel.load he hm hj
                exact ⟨c, by rw [Nat.add_assoc]; exact h1, h2⟩
              · simp at hj
            let f : Nat → Value := fun j => (w.cell? ⟨B, o + i + j, none⟩).getD undef
            have hf : ∀ j, j < inf.size → w.cell? ((⟨B, o + i, none⟩ : Addr).add j) = some (f j) := fun j hj => by
              have hj' : j < ((k.cells.drop i).take inf.size).length := by omega
              obtain ⟨c, h1, _⟩ := hex j _ (List.getElem?_eq_getElem hj')
              rw [addr_add]; simp [f, h1]
            have hrun := run_loadCells (P := P) w ⟨B, o + i, none⟩ inf.size f hf
            refine ⟨.agg ((List.range inf.size).map f).toArray, .agg _ _ (by simp at hlen ⊢; omega) (fun j v c hj hc => ?_), ?_⟩
            · obtain ⟨c', h1, h2⟩ := hex j v hj
              rw [List.getElem?_map] at hc
              have hj2 : j < inf.size := by
                rcases Nat.lt_or_ge j inf.size with h' | h'
                · exact h'
                · simp [List.getElem?_eq_none, h'] at hc
              simp [hj2, f, h1] at hc; subst hc; exact h2
            · simp [Instr.loadAt, Instr.sureAddr, loadVar, run_isAgg hu, hd, run_size hi, hrun]
          · simp at hl
        · simp at h
      · rename_i hd
        split at h
        · rename_i v hv
          refine ⟨v, h, fun η cx w hx hrel' => ?_⟩
          have hrel := hrel' b rfl
          obtain ⟨B, o, _, he, rfl⟩ := hx.ptr_inv
          simp only at he
          obtain ⟨c, h1, h2⟩ := hrel.load he hm hv
          exact ⟨c, h2, by simp [Instr.loadAt, Instr.sureAddr, loadVar, run_isAgg hu, hd, h1]⟩
        · simp at h
    · simp at h
  · simp at h
theorem astore_sound {R : Type} {ty : TypeId} {x y : Value} {K : Mem → Option R} {r : R} (hs : Stable Φ base) (h : astore P ty x y m K = some r) :
    ∃ m', K m' = some r ∧ ∀ (η : Eta) (cx cy : Value) (w : World), CV ξ η x cx → CV ξ η y cy → Rel ξ Φ base η m w →
      ∃ w', (Instr.storeAt ty cx cy).run P w = .ok () w' ∧ Rel ξ Φ base η m' w' ∧ Below base w w' := by
  unfold astore at h
  split at h
  · rename_i b i
    split at h
    · rename_i d n z k ht hm
      obtain ⟨hu, inf, hi, rfl, hz⟩ := tinf_ok ht
      split at h
      · rename_i hc
        obtain ⟨hown, hk, hone, hlen, hfit⟩ := hc
        refine ⟨_, h, fun η cx cy w hx hy hrel => ?_⟩
        obtain ⟨B, o, _, he, rfl⟩ := hx.ptr_inv
        simp only at he
        obtain ⟨cs, cty, fr, hh, hcells, ho⟩ := hrel.blk b B o k he hm
        obtain ⟨rfl, rfl, hB⟩ := ho hown
        have hcv := hy.cells hk
        have hl2 : cy.cells.toList.length = inf.size := by rw [← hcv.1]; exact hlen
        have hcsz : k.cells.length ≤ cs.size := by
          rcases Nat.eq_zero_or_pos k.cells.length with h0 | h0
          · omega
          · obtain ⟨c, hc, _⟩ := hcells (k.cells.length - 1) _ (List.getElem?_eq_getElem (by omega))
            rw [Nat.zero_add] at hc
            have := (List.getElem?_eq_some_iff.1 hc).1
            simp at this; omega
        have hst := run_storeCells_at P B i cty cy.cells.toList 0 cs w hh (by rw [hl2]; omega) (hcv.ones hone)
        simp only [Nat.add_zero] at hst
        have hnew : ∀ (j : Nat) (v : Value), (k.cells.take i ++ y.cells.toList ++ k.cells.drop (i + inf.size))[j]? = some v →
            ∃ c, ((cs.toList.take i ++ cy.cells.toList ++ cs.toList.drop (i + cy.cells.toList.length)).toArray).toList[j]? = some c ∧ CV ξ η v c := by
          intro j v hj
          have hti : (k.cells.take i).length = i := by simp; omega
          have hti2 : (cs.toList.take i).length = i := by simp; omega
          simp only [List.append_assoc] at hj ⊢
          by_cases h1 : j < i
          · rw [List.getElem?_append_left (by omega)] at hj
            rw [List.getElem?_append_left (by omega)]
            rw [List.getElem?_take, if_pos h1] at hj
            obtain ⟨c, hc, hcv'⟩ := hcells j v hj
            exact ⟨c, by rw [List.getElem?_take, if_pos h1]; simpa using hc, hcv'⟩
          · rw [List.getElem?_append_right (by omega), hti] at hj
            rw [List.getElem?_append_right (by omega), hti2]
            by_cases h2 : j - i < inf.size
            · rw [List.getElem?_append_left (by omega)] at hj
              rw [List.getElem?_append_left (by omega)]
              exact hcv.get hj
            · rw [List.getElem?_append_right (by omega), hlen, List.getElem?_drop] at hj
              rw [List.getElem?_append_right (by omega), hl2, List.getElem?_drop]
              obtain ⟨c, hc, hcv'⟩ := hcells _ v hj
              exact ⟨c, by simpa using hc, hcv'⟩
        obtain ⟨hr', hb'⟩ := hrel.store hs he hm hown _ hh hnew
        refine ⟨_, ?_, hr', hb'⟩
        have hsz : cy.cells.size = inf.size := by simpa using hl2
        simp only [Instr.storeAt, Instr.sureAddr, storeVar, Sem.run_bind, Sem.run_pure, Result.andThen_ok, run_size hi, hsz, ne_eq, not_true_eq_false, if_false, Nat.zero_add, hst, Sem.run_ite]
      · simp at h
    · simp at h
  · simp at h
theorem apart_sound {R : Type} {ty : TypeId} {l : List Value} {off : Nat} {K : Value → Option R} {r : R} (h : apart P ty l off K = some r) :
    ∃ v, K v = some r ∧ ∀ (η : Eta) (lc : List Value) (w : World), CVl ξ η l lc → ∃ c, CV ξ η v c ∧ (part ty ⟨lc⟩ off).run P w = .ok c w := by
  unfold apart at h
  split at h
  · rename_i d n z ht
    obtain ⟨hu, inf, hi, rfl, hz⟩ := tinf_ok ht
    split at h
    · rename_i hd
      refine ⟨_, h, fun η lc w hl => ?_⟩
      have := (hl.drop off).take inf.size
      refine ⟨.agg ⟨(lc.drop off).take inf.size⟩, .agg _ _ this.1 this.2, ?_⟩
      simp only [part, Sem.run_bind, run_isAgg hu, Result.andThen_ok, hd, if_true, run_size hi, Sem.run_pure, Sem.run_ite]
      congr 2
      apply Array.ext'
      simp [Array.toList_extract, List.extract]
    · rename_i hd
      split at h
      · rename_i v hv
        refine ⟨v, h, fun η lc w hl => ?_⟩
        obtain ⟨c, hc, hcv⟩ := hl.get hv
        refine ⟨c, hcv, ?_⟩
        simp only [part, Sem.run_bind, run_isAgg hu, Result.andThen_ok, hd]
        simp [hc]
      · simp at h
  · simp at h
theorem aeq1_sound {ty : TypeId} {x y : Value} {b : Bool} (h : aeq1 P ty x y = some b) {η : Eta} {cx cy : Value} (hx : CV ξ η x cx) (hy : CV ξ η y cy) (d : Nat) (w : World) :
    (Op.equalIn (d + 1) ty cx cy).run P w = .ok b w := by
  unfold aeq1 at h
  split at h
  · rename_i k0 n z k a k' b' ht
    obtain ⟨hu, _⟩ := tinf_ok ht
    have hx := hx.int_inv; have hy := hy.int_inv; subst hx hy
    split at h
    · rename_i hk; subst hk
      cases h
      exact run_equalIn_int w d ty k k0 a b' hu
    · cases h
  · rename_i n z a b' ht
    obtain ⟨hu, _⟩ := tinf_ok ht
    have hx := hx.bool_inv; have hy := hy.bool_inv; subst hx hy
    cases h
    exact run_equalIn_bool' w d ty a b' hu
  · rename_i e n z ht
    obtain ⟨hu, _⟩ := tinf_ok ht
    cases hx; cases hy; cases h
    simp [Op.equalIn, run_underlying hu]
  · rename_i e n z ad ht
    obtain ⟨hu, _⟩ := tinf_ok ht
    obtain ⟨B, o, _, _, rfl⟩ := hy.ptr_inv
    cases hx; cases h
    simp [Op.equalIn, run_underlying hu]
  · rename_i e n z ad ht
    obtain ⟨hu, _⟩ := tinf_ok ht
    obtain ⟨B, o, _, _, rfl⟩ := hx.ptr_inv
    cases hy; cases h
    simp [Op.equalIn, run_underlying hu]
  · cases h
theorem aeq1_noagg {ty : TypeId} {x y : Value} {b : Bool} (h : aeq1 P ty x y = some b) {η : Eta} {cx : Value} (hx : CV ξ η x cx) (a : Array Value) : cx ≠ .agg a := by
  unfold aeq1 at h
  split at h <;> first
    | (cases h; done)
    | (intro e; subst e; cases hx)
theorem run_eq_bool (t : TypeId) (x y : Bool) : (binOp .eql t (.bool x) (.bool y)).run P w = ((Op.equalIn 10000 t (.bool x) (.bool y)).run P w).andThen fun b w' => .ok (.bool b) w' := by
  simp only [binOp]; simp [Op.equal, Op.maxDepth]
theorem run_ne_bool (t : TypeId) (x y : Bool) : (binOp .neq t (.bool x) (.bool y)).run P w = ((Op.equalIn 10000 t (.bool x) (.bool y)).run P w).andThen fun b w' => .ok (.bool (!b)) w' := by
  simp only [binOp]; simp [Op.equal, Op.maxDepth]
theorem run_eq_ptr (t : TypeId) (x y : Option Addr) : (binOp .eql t (.pointer x) (.pointer y)).run P w = ((Op.equalIn 10000 t (.pointer x) (.pointer y)).run P w).andThen fun b w' => .ok (.bool b) w' := by
  simp only [binOp]; simp [Op.equal, Op.maxDepth]
theorem run_ne_ptr (t : TypeId) (x y : Option Addr) : (binOp .neq t (.pointer x) (.pointer y)).run P w = ((Op.equalIn 10000 t (.pointer x) (.pointer y)).run P w).andThen fun b w' => .ok (.bool (!b)) w' := by
  simp only [binOp]; simp [Op.equal, Op.maxDepth]
theorem like_bin {ty : TypeId} {cx cy : Value} {b : Bool} (hl : like cx cy = true) (he : (Op.equalIn 10000 ty cx cy).run P w = .ok b w) :
    (binOp .eql ty cx cy).run P w = .ok (.bool b) w ∧ (binOp .neq ty cx cy).run P w = .ok (.bool (!b)) w := by
  unfold like at hl
  split at hl
  · exact ⟨by rw [run_eq_bool, he]; rfl, by rw [run_ne_bool, he]; rfl⟩
  · exact ⟨by rw [run_eq_ptr, he]; rfl, by rw [run_ne_ptr, he]; rfl⟩
  · exact ⟨by rw [run_eql_struct, he]; rfl, by rw [run_neq_struct, he]; rfl⟩
  · cases hl
theorem like_cv {x y cx cy : Value} (hl : like x y = true) (hx : CV ξ η x cx) (hy : CV ξ η y cy) : like cx cy = true := by
  unfold like at hl
  split at hl
  · have hx := hx.bool_inv; have hy := hy.bool_inv; subst hx hy; rfl
  · cases hx <;> cases hy <;> rfl
  · obtain ⟨_, rfl, _⟩ := hx.agg_inv; obtain ⟨_, rfl, _⟩ := hy.agg_inv; rfl
  · cases hl
theorem like_guard {cx cy : Value} (hl : like cx cy = true) (op : BinOp) (ty : TypeId) (ox oy : Operand) (hg : P.eqGuardType P.depth ty = false ∨ ∀ a, cx ≠ .agg a) : (eqGuard op ty ox oy cx cy).run P w = .ok () w := by
  unfold like at hl
  split at hl
  · cases op <;> simp [eqGuard]
  · cases op <;> simp [eqGuard]
  · rename_i a b
    rcases hg with hg | hg
    · exact run_eqGuard_agg w op ty ox oy a b hg
    · exact absurd rfl (hg a)
  · cases hl
theorem aeqFs_sound {xs ys : List Value} : ∀ (fs : List Field) {b : Bool}, aeqFs P xs ys fs = some b → ∀ {η : Eta} {cxs cys : List Value}, CVl ξ η xs cxs → CVl ξ η ys cys → ∀ (d : Nat) (w : World),
    (Op.eqFields (d + 1) ⟨cxs⟩ ⟨cys⟩ fs).run P w = .ok b w
  | [], b, h, η, cxs, cys, hx, hy, d, w => by simp [aeqFs] at h; subst h; simp [Op.eqFields]
  | f :: fs, b, h, η, cxs, cys, hx, hy, d, w => by
    simp only [aeqFs] at h
    split at h
    · cases h
    · rename_i hn
      split at h
      · rename_i r s h1 h2
        simp only [Option.some.injEq] at h
        subst h
        obtain ⟨v, h3, h4⟩ := apart_sound (ξ := ξ) h1
        obtain ⟨u, h5, h6⟩ := apart_sound (ξ := ξ) h3
        obtain ⟨c, hc, hrc⟩ := h4 η cxs w hx
        obtain ⟨c', hc', hrc'⟩ := h6 η cys w hy
        have he := aeq1_sound (ξ := ξ) h5 hc hc' d w
        have ih := aeqFs_sound fs h2 hx hy d w
        have hn' : f.name ≠ "_" := by simpa using hn
        rw [Op.eqFields]
        simp only [if_pos hn', Sem.run_bind, hrc, hrc', he, Result.andThen_ok]
        cases r
        · simp
        · simpa using ih
      · cases h
theorem aeqT_sound {ty : TypeId} {x y : Value} {b : Bool} (h : aeqT P ty x y = some b) (hl : like x y = true) {η : Eta} {cx cy : Value} (hx : CV ξ η x cx) (hy : CV ξ η y cy) (w : World) :
    (∀ (op : BinOp) (ox oy : Operand), (eqGuard op ty ox oy cx cy).run P w = .ok () w) ∧ (binOp .eql ty cx cy).run P w = .ok (.bool b) w ∧ (binOp .neq ty cx cy).run P w = .ok (.bool (!b)) w := by
  have hl' := like_cv hl hx hy
  unfold aeqT at h
  split at h
  · rename_i xs ys
    obtain ⟨cxs, rfl, hx1⟩ := hx.agg_inv
    obtain ⟨cys, rfl, hy1⟩ := hy.agg_inv
    split at h
    · rename_i fs n z ht
      obtain ⟨hu, _⟩ := tinf_ok ht
      split at h
      · rename_i hc
        have hf : P.fieldsOf ty = fs := by simp [Program.fieldsOf, hu]
        have := aeqFs_sound (ξ := ξ) fs.toList h hx1 hy1 9998 w
        have he : (Op.equalIn 10000 ty (.agg cxs) (.agg cys)).run P w = .ok b w := by
          rw [run_equalIn_struct (P := P) w 9999 ty cxs cys (by rw [hf]; exact hu) hc.1, hf]
          exact this
        exact ⟨fun op ox oy => like_guard hl' op ty ox oy (.inl hc.2), like_bin hl' he⟩
      · cases h
    · cases h
  · exact ⟨fun op ox oy => like_guard hl' op ty ox oy (.inr (aeq1_noagg h hx)), like_bin hl' (aeq1_sound h hx hy 9999 w)⟩
theorem acmp_sound {R : Type} {op : BinOp} {ty : TypeId} {x y : Value} {K : Value → Option R} {r : R} (h : acmp P op ty x y K = some r) :
    ∃ v, K v = some r ∧ ∀ (η : Eta) (cx cy : Value) (w : World) (ox oy : Operand), CV ξ η x cx → CV ξ η y cy →
      CV ξ η v v ∧ (do eqGuard op ty ox oy cx cy; binOp op ty cx cy : Sem Value).run P w = .ok v w := by
  unfold acmp at h
  split at h
  · obtain ⟨v, h1, h2⟩ := abin_sound (ξ := ξ) (P := P) h
    exact ⟨v, h1, fun η cx cy w ox oy hx hy => h2 η cx cy w ty ox oy hx hy⟩
  · split at h
    · rename_i hl
      split at h
      · split at h
        · rename_i hb
          refine ⟨_, h, fun η cx cy w ox oy hx hy => ⟨.bool _, ?_⟩⟩
          obtain ⟨h2, h3, _⟩ := aeqT_sound (ξ := ξ) hb hl hx hy w
          rw [Sem.run_bind, h2, Result.andThen_ok, h3]
        · cases h
      · split at h
        · rename_i hb
          refine ⟨_, h, fun η cx cy w ox oy hx hy => ⟨.bool _, ?_⟩⟩
          obtain ⟨h2, _, h3⟩ := aeqT_sound (ξ := ξ) hb hl hx hy w
          rw [Sem.run_bind, h2, Result.andThen_ok, h3]
        · cases h
      · cases h
    · cases h
theorem sel_sound {R : Type} {K : Nat → Option R} {r : R} : ∀ (n off step : Nat) (j : Int), sel n off step j K = some r → 0 ≤ j ∧ j < n ∧ K (off + j.toNat * step) = some r
  | 0, off, step, j, h => by simp [sel] at h
  | n + 1, off, step, j, h => by
    simp only [sel] at h
    split at h
    · rename_i hj; subst hj; exact ⟨by omega, by omega, by simpa using h⟩
    · obtain ⟨h1, h2, h3⟩ := sel_sound n (off + step) step (j - 1) h
      refine ⟨by omega, by omega, ?_⟩
      have : j.toNat = (j - 1).toNat + 1 := by omega
      rw [this, Nat.add_mul, Nat.one_mul]
      rw [show off + ((j - 1).toNat * step + step) = off + step + (j - 1).toNat * step by omega]; exact h3
theorem amax_sound {R : Type} {K : Value → Option R} {r : R} {k : IntKind} : ∀ (l : List Value) (x : Int), amax l k x K = some r →
    ∃ z, K (.int k z) = some r ∧ ∀ (η : Eta) (lc : List Value) (w : World), CVl ξ η l lc → (lc.foldlM Builtin.max2 (.int k x) : Sem Value).run P w = .ok (.int k z) w
  | [], x, hk => ⟨x, hk, fun η lc w h => by rw [CVl.of_nil h]; rfl⟩
  | v :: l, x, hk => by
    unfold amax at hk
    split at hk
    · rename_i heq; simp at heq
    · rename_i k' y l' heq
      simp at heq; obtain ⟨rfl, rfl⟩ := heq
      obtain ⟨z, h1, h2⟩ := amax_sound _ _ hk
      refine ⟨z, h1, fun η lc w h => ?_⟩
      obtain ⟨c, lc', rfl, hc, h'⟩ := h.of_cons
      have := hc.int_inv; subst this
      simp [List.foldlM_cons, Builtin.max2, h2 η lc' w h']
    · simp at hk
theorem amin_sound {R : Type} {K : Value → Option R} {r : R} {k : IntKind} : ∀ (l : List Value) (x : Int), amin l k x K = some r →
    ∃ z, K (.int k z) = some r ∧ ∀ (η : Eta) (lc : List Value) (w : World), CVl ξ η l lc → (lc.foldlM Builtin.min2 (.int k x) : Sem Value).run P w = .ok (.int k z) w
  | [], x, hk => ⟨x, hk, fun η lc w h => by rw [CVl.of_nil h]; rfl⟩
  | v :: l, x, hk => by
    unfold amin at hk
    split at hk
    · rename_i heq; simp at heq
    · rename_i k' y l' heq
      simp at heq; obtain ⟨rfl, rfl⟩ := heq
      obtain ⟨z, h1, h2⟩ := amin_sound _ _ hk
      refine ⟨z, h1, fun η lc w h => ?_⟩
      obtain ⟨c, lc', rfl, hc, h'⟩ := h.of_cons
      have := hc.int_inv; subst this
      simp [List.foldlM_cons, Builtin.min2, h2 η lc' w h']
    · simp at hk
end
end Go.Proofs.Ytblidfmhlhhmkaa.Sx
