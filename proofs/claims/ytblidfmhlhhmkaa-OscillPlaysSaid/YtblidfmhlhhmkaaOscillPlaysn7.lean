/- The symbolic executor is right: regions in the order of the text, and whole functions. -/
import Derived.Test.YtblidfmhlhhmkaaOscillPlaysn6
set_option linter.unusedVariables false
set_option linter.unusedSimpArgs false
namespace Go.Proofs.Ytblidfmhlhhmkaa.Sx
open Go Go.RowKit
section
variable {ξ : Nat → Value} {Φ : World → Prop} {base : Nat} {η η' : Eta} {m m' : Mem} {w w' : World} {P : Program} {t : List Value} {a : Act}
/-- What a call does, as it was told. -/
def CallOk (P : Program) (ξ : Nat → Value) (Φ : World → Prop) (base : Nat) (g : FuncId) (args : List Value) (m : Mem) (v : Value) (m' : Mem) : Prop :=
  ∀ η w argsc, Rel ξ Φ base η m w → CVl ξ η args argsc.toList →
    Calls P g argsc w fun e w' => ∃ η' c, e = .returned c ∧ η.le η' ∧ CV ξ η' v c ∧ Rel ξ Φ base η' m' w' ∧ Below base w w'
def OraOk {R : Type} (P : Program) (ξ : Nat → Value) (Φ : World → Prop) (base : Nat) (O : Ora R) : Prop :=
  ∀ g args m K r, O g args m K = some r → ∀ η w argsc, Rel ξ Φ base η m w → CVl ξ η args argsc.toList →
    Calls P g argsc w fun e w' => ∃ v m' η' c, K v m' = some r ∧ e = .returned c ∧ η.le η' ∧ CV ξ η' v c ∧ Rel ξ Φ base η' m' w' ∧ Below base w w'
theorem run_callFunc (g : FuncId) (args : Array Value) (h : callable P g = true) : (callFunc g args).run P w = .ok (.enter g args) w := by
  unfold callable at h
  split at h
  · rename_i fn hf
    simp only [Bool.and_eq_true, Bool.not_eq_true'] at h
    obtain ⟨h1, h2⟩ := h
    have h3 : fn.body.isNone = false := by cases hb : fn.body <;> simp_all
    have h1' : ¬ (fn.name = "runtime.NumGoroutine") := by simpa using h1
    have h3' : ¬ (fn.body = none) := by intro e; simp [e] at h2
    simp [callFunc, hf, h1', h3']
  · simp at h
theorem runOp_eff {R : Type} {O : Ora R} {CO : FuncId → List Value → Value → Mem → Prop} {K : Value → Mem → Option R} {r : R} (hs : Stable Φ base)
    (hO : ∀ g args K r, O g args m K = some r → ∃ v m', K v m' = some r ∧ CO g args v m') {o : Oper} (h : runOp P O o t m K = some r) :
    ∃ v m', K v m' = some r ∧ ∀ (η : Eta) (a : Act) (w : World), (∀ x ∈ o.op.operands, CV ξ η (ev t x) (a.eval x)) → (∀ b, rdBlk o t = some b → RelAt ξ η m w b) → (isStore o = true → Rel ξ Φ base η m w) → Eff ξ Φ base P CO η w a o m v m' := by
  unfold runOp at h
  split at h
  case h_1 x ho => exact ⟨_, _, h, fun η a w ht hrel hrs => Eff.same _ _ (by simp [execOp, ho]) (ht x (by simp [ho, Op.operands]))⟩
  case h_2 x ho => exact ⟨_, _, h, fun η a w ht hrel hrs => Eff.same _ _ (by simp [execOp, ho]) (ht x (by simp [ho, Op.operands]))⟩
  case h_3 c x y ho =>
    split at h
    · rename_i q hq
      split at h
      · rename_i hq'; subst hq'
        refine ⟨_, _, h, fun η a w ht hrel hrs => ?_⟩
        have hc := ht c (by simp [ho, Op.operands])
        rw [hq] at hc; have hc := hc.bool_inv
        exact Eff.same _ (a.eval x) (by simp [execOp, ho, hc, asBool]) (ht x (by simp [ho, Op.operands]))
      · rename_i hq'
        have hq' : q = false := by cases q <;> simp_all
        subst hq'
        refine ⟨_, _, h, fun η a w ht hrel hrs => ?_⟩
        have hc := ht c (by simp [ho, Op.operands])
        rw [hq] at hc; have hc := hc.bool_inv
        exact Eff.same _ (a.eval y) (by simp [execOp, ho, hc, asBool]) (ht y (by simp [ho, Op.operands]))
    · simp at h
  case h_4 e ho =>
    split at h
    · rename_i d n z ht'
      obtain ⟨hu, inf, hi, rfl, hz⟩ := tinf_ok ht'
      split at h
      · rename_i hc
        refine ⟨_, _, h, fun η a w ht hrel hrs => ?_⟩
        have hv : CVl ξ η z.cells.toList z.cells.toList := (CV.refl1 (ξ := ξ) (η := η) hc.1).cells hc.2
        exact Eff.alloc _ _ _ (by simp [execOp, ho, Instr.alloc, zeroValue, typeInfo, hi, hz, newVar, newRow]) hv
      · simp at h
    · simp at h
  case h_5 e x ho =>
    split at h
    · rename_i hk
      exact ⟨_, _, h, fun η a w ht hrel hrs => Eff.alloc _ _ _ (by simp [execOp, ho, Instr.box, newVar, newRow]) ((ht x (by simp [ho, Op.operands])).cells hk)⟩
    · simp at h
  case h_6 ty parts ho =>
    split at h
    · rename_i d n z cs ht' hb
      obtain ⟨hu, inf, hi, hn, hz⟩ := tinf_ok ht'
      split at h
      · rename_i hk
        obtain ⟨hk, hcz, hkz⟩ := hk
        refine ⟨_, _, h, fun η a w ht hrel hrs => ?_⟩
        have key : ∃ rc, P.built ty (parts.toList.map fun p => (p.1, a.eval p.2)) = some rc ∧ CVl ξ η cs.toList rc.toList := by
          have hp : ∀ (i : Nat) (x y : Nat × Value), (parts.toList.map fun p => (p.1, ev t p.2))[i]? = some x → (parts.toList.map fun p => (p.1, a.eval p.2))[i]? = some y → x.1 = y.1 ∧ CV ξ η x.2 y.2 ∧ known x.2 = true := by
            intro i x y hx hy
            rw [List.getElem?_map] at hx hy
            cases hq : parts.toList[i]? with
            | none => simp [hq] at hx
            | some q => simp [hq] at hx hy; subst hx hy; exact ⟨rfl, ht q.2 (by simp [ho, Op.operands]; exact ⟨q.1, by simpa using List.mem_of_getElem? hq⟩), List.all_eq_true.1 hk q (List.mem_of_getElem? hq)⟩
          have hzz : CVl ξ η z.cells.toList z.cells.toList := (CV.refl1 (ξ := ξ) (η := η) hcz).cells hkz
          unfold Program.built at hb ⊢
          rw [hi, hu] at hb ⊢
          cases d <;> simp only [hz] at hb ⊢ <;> try (simp at hb; done)
          case array n e =>
            cases hie : P.info? e with
            | none => simp [hie] at hb
            | some ie =>
              simp only [hie] at hb ⊢
              exact fill_cv _ _ _ _ _ _ hzz (by simp) hp hb
          case struct fs =>
            cases hpl : fs.toList.mapM (fun f => (P.info? f.type).map fun i => (f.offset, i.size)) with
            | none => simp [hpl] at hb
            | some pl =>
              simp only [hpl] at hb ⊢
              exact fill_cv _ _ _ _ _ _ hzz (by simp) hp hb
        obtain ⟨rc, h1, h2⟩ := key
        refine Eff.same _ (.agg rc) ?_ (.agg _ _ h2.1 h2.2)
        have e : (parts.map fun (i, x) => (i, a.eval x)).toList = parts.toList.map fun p => (p.1, a.eval p.2) := by simp
        have := run_build w ty (parts.map fun (i, x) => (i, a.eval x)) rc (by rw [e]; exact h1)
        simp only [execOp, ho, Sem.run_bind, this, Result.andThen_ok, Sem.run_pure]
      · simp at h
    · simp at h
  case h_7 ty x ho =>
    obtain ⟨v, h1, h2⟩ := aload_sound (ξ := ξ) h
    refine ⟨_, _, h1, fun η a w ht hrel hrs => ?_⟩
    obtain ⟨c, h3, h4⟩ := h2 η _ w (ht x (by simp [ho, Op.operands])) (fun b hb => hrel b (by simp only [rdBlk, ho]; exact hb))
    exact Eff.same _ c (by simp [execOp, ho, h4]) h3
  case h_8 ty x y ho =>
    obtain ⟨m', h1, h2⟩ := astore_sound (ξ := ξ) hs h
    refine ⟨_, _, h1, fun η a w ht hrel hrs => ?_⟩
    obtain ⟨w', h3, h4, h5⟩ := h2 η _ _ w (ht x (by simp [ho, Op.operands])) (ht y (by simp [ho, Op.operands])) (hrs (by simp [isStore, ho]))
    exact Eff.store _ w' (by simp [isStore, ho]) (by simp [execOp, ho, h3]) h4 h5
  case h_9 x ho =>
    split at h
    · rename_i b i hq
      refine ⟨_, _, h, fun η a w ht hrel hrs => ?_⟩
      have hx := ht x (by simp [ho, Op.operands])
      rw [hq] at hx
      obtain ⟨B, o', _, he, hc⟩ := hx.ptr_inv
      exact Eff.same _ (a.eval x) (by simp [execOp, ho, hc]) hx
    · rename_i g f c hq
      refine ⟨_, _, h, fun η a w ht hrel hrs => ?_⟩
      have hx := ht x (by simp [ho, Op.operands])
      rw [hq] at hx
      generalize hcx : a.eval x = cx at hx
      cases hx with
      | func fn as cs hl hcs => exact Eff.same _ (.func (.func g) #[] ⟨cs⟩) (by simp [execOp, ho, hcx]) (.func (.func g) as cs hl hcs)
    · simp at h
  case h_10 op ty x y yt ho =>
    obtain ⟨v, h1, h2⟩ := acmp_sound (ξ := ξ) (P := P) h
    refine ⟨_, _, h1, fun η a w ht hrel hrs => ?_⟩
    obtain ⟨h3, h4⟩ := h2 η _ _ w x y (ht x (by simp [ho, Op.operands])) (ht y (by simp [ho, Op.operands]))
    refine Eff.same _ v ?_ h3
    have e : execOp a.eval o = (do pure (.value (← (do eqGuard op ty x y (a.eval x) (a.eval y); binOp op ty (a.eval x) (a.eval y))))) := by simp only [execOp, ho]
    rw [e, Sem.run_bind, h4]; rfl
  case h_11 op ty x ho =>
    obtain ⟨v, h1, h2⟩ := aun_sound (ξ := ξ) (P := P) h
    refine ⟨_, _, h1, fun η a w ht hrel hrs => ?_⟩
    obtain ⟨h3, h4⟩ := h2 η _ w (ht x (by simp [ho, Op.operands]))
    exact Eff.same _ v (by simp [execOp, ho, h4]) h3
  case h_12 s d x ho =>
    split at h
    · rename_i q1 k n1 z1 k2 n hs' hd' hq
      obtain ⟨d1, n0, z0⟩ := q1
      obtain ⟨hu1, _⟩ := tinf_ok hs'
      obtain ⟨hu2, _⟩ := tinf_ok hd'
      refine ⟨_, _, h, fun η a w ht hrel hrs => ?_⟩
      have hx := ht x (by simp [ho, Op.operands])
      rw [hq] at hx; have hx := hx.int_inv
      exact Eff.same _ (.int k (k.wrap n)) (by simp [execOp, ho, hx, convert, run_underlying hu1, run_underlying hu2, Conv.intToInt]) (.int _ _)
    · simp at h
  case h_13 fn first captured ho =>
    split at h
    · rename_i hf
      have hf' : first = #[] := by cases first; simp_all
      refine ⟨_, _, h, fun η a w ht hrel hrs => ?_⟩
      have hc := CVl.map (l := captured.toList) (f := ev t) (g := a.eval) fun x hx => ht x (by simp [ho, Op.operands]; exact .inr (by simpa using hx))
      refine Eff.same _ (.func fn #[] ⟨captured.toList.map a.eval⟩) ?_ (.func _ _ _ hc.1 hc.2)
      have e : captured.map a.eval = ⟨captured.toList.map a.eval⟩ := by apply Array.ext'; simp
      simp [execOp, ho, hf', Instr.makeFunc, e]
    · simp at h
  case h_14 s x f ho =>
    unfold afieldAddr at h
    split at h
    · rename_i fs n z b i hts hq
      obtain ⟨hu, _⟩ := tinf_ok hts
      split at h
      · rename_i fd hf
        split at h
        · rename_i d2 n2 z2 htf
          obtain ⟨_, inf, hi, rfl, _⟩ := tinf_ok htf
          split at h
          · simp at h
          · rename_i hn
            refine ⟨_, _, h, fun η a w ht hrel hrs => ?_⟩
            have hx := ht x (by simp [ho, Op.operands])
            rw [hq] at hx
            obtain ⟨B, o', _, he, hc⟩ := hx.ptr_inv
            refine Eff.same _ (.pointer (some ⟨B, o' + i + fd.offset, none⟩)) ?_ ?_
            · simp only at hc
              simp [execOp, ho, hc, Instr.fieldAt, run_underlying hu, hf, Instr.sureAddr, fieldPlace, run_size hi, hn, addr_add]
            · rw [Nat.add_assoc]; exact .ptr b _ B o' he
        · simp at h
      · simp at h
    · simp at h
  case h_15 s x f ho =>
    unfold afield at h
    split at h
    · rename_i fs n z cs hts hq
      obtain ⟨hu, _⟩ := tinf_ok hts
      split at h
      · rename_i fd hf
        obtain ⟨v, h1, h2⟩ := apart_sound (ξ := ξ) h
        refine ⟨_, _, h1, fun η a w ht hrel hrs => ?_⟩
        have hx := ht x (by simp [ho, Op.operands])
        rw [hq] at hx
        obtain ⟨cc, hc, hcv⟩ := hx.agg_inv
        obtain ⟨c, h3, h4⟩ := h2 η cc.toList w hcv
        have h4 : (part fd.type cc fd.offset).run P w = .ok c w := h4
        exact Eff.same _ c (by simp [execOp, ho, hc, Instr.field, run_underlying hu, hf, asAgg, h4]) h3
      · simp at h
    · simp at h
  case h_16 ty x ix ho =>
    unfold aindexAddr at h
    split at h
    · rename_i e n z b i len cap k j hty hqx hqj
      obtain ⟨hu, _⟩ := tinf_ok hty
      split at h
      · rename_i d2 n2 z2 hte
        obtain ⟨_, inf, hi, rfl, _⟩ := tinf_ok hte
        obtain ⟨h1, h2, h3⟩ := sel_sound _ _ _ _ h
        refine ⟨_, _, h3, fun η a w ht hrel hrs => ?_⟩
        have hx := ht x (by simp [ho, Op.operands])
        have hj := ht ix (by simp [ho, Op.operands])
        rw [hqx] at hx; rw [hqj] at hj
        have hj := hj.int_inv
        generalize hcx : a.eval x = cx at hx
        cases hx with
        | slice b i B o' n c c' he hc' =>
          refine Eff.same _ (.pointer (some ⟨B, o' + (i + (0 + j.toNat * inf.size)), none⟩)) ?_ (.ptr b _ B o' he)
          simp only [Nat.zero_add]
          simp [execOp, ho, hcx, hj, Instr.indexAt, asIntOf, run_underlying hu, h1, h2, run_size hi, addr_add, Nat.add_assoc]
      · simp at h
    · rename_i len e n z b i k j hty hqx hqj
      obtain ⟨hu, _⟩ := tinf_ok hty
      split at h
      · rename_i d2 n2 z2 hte
        obtain ⟨_, inf, hi, rfl, _⟩ := tinf_ok hte
        obtain ⟨h1, h2, h3⟩ := sel_sound _ _ _ _ h
        refine ⟨_, _, h3, fun η a w ht hrel hrs => ?_⟩
        have hx := ht x (by simp [ho, Op.operands])
        have hj := ht ix (by simp [ho, Op.operands])
        rw [hqx] at hx; rw [hqj] at hj
        have hj := hj.int_inv
        obtain ⟨B, o', _, he, hc⟩ := hx.ptr_inv
        simp only at hc he
        refine Eff.same _ (.pointer (some ⟨B, o' + (i + (0 + j.toNat * inf.size)), none⟩)) ?_ (.ptr b _ B o' he)
        simp only [Nat.zero_add]
        simp [execOp, ho, hc, hj, Instr.indexAt, Instr.sureAddr, asIntOf, run_underlying hu, h1, h2, run_size hi, addr_add, Nat.add_assoc]
      · simp at h
    · simp at h
  case h_17 ty x ix ho =>
    unfold aindex at h
    split at h
    · rename_i len e n z cs k j hty hqx hqj
      obtain ⟨hu, _⟩ := tinf_ok hty
      split at h
      · rename_i d2 n2 z2 hte
        obtain ⟨_, inf, hi, rfl, _⟩ := tinf_ok hte
        obtain ⟨h1, h2, h3⟩ := sel_sound _ _ _ _ h
        obtain ⟨v, h4, h5⟩ := apart_sound (ξ := ξ) h3
        refine ⟨_, _, h4, fun η a w ht hrel hrs => ?_⟩
        have hx := ht x (by simp [ho, Op.operands])
        have hj := ht ix (by simp [ho, Op.operands])
        rw [hqx] at hx; rw [hqj] at hj
        have hj := hj.int_inv
        obtain ⟨cc, hc, hcv⟩ := hx.agg_inv
        obtain ⟨c, h6, h7⟩ := h5 η cc.toList w hcv
        have h7 : (part e cc (0 + j.toNat * inf.size)).run P w = .ok c w := h7
        rw [Nat.zero_add] at h7
        exact Eff.same _ c (by simp [execOp, ho, hc, hj, Instr.index, asIntOf, run_underlying hu, h1, h2, run_size hi, h7]) h6
      · simp at h
    · simp at h
  case h_18 x i ho =>
    split at h
    · rename_i vs hq
      split at h
      · rename_i v hv
        refine ⟨_, _, h, fun η a w ht hrel hrs => ?_⟩
        have hx := ht x (by simp [ho, Op.operands])
        rw [hq] at hx
        obtain ⟨cc, hc, hcv⟩ := hx.tup_inv
        obtain ⟨c, h1, h2⟩ := hcv.get hv
        have h1 : cc[i]? = some c := by simpa using h1
        exact Eff.same _ c (by simp [execOp, ho, hc, Instr.extract, h1]) h2
      · simp at h
    · simp at h
  case h_19 c ho =>
    split at h
    · rename_i f hf
      split at h
      · rename_i g fst cap hq
        split at h
        · rename_i hcall
          obtain ⟨v, m', h1, h2⟩ := hO _ _ _ _ h
          refine ⟨v, m', h1, fun η a w ht hrel hrs => ?_⟩
          have hfv := ht f (by simp [ho, Op.operands, Call.operands, hf])
          rw [hq] at hfv
          generalize hcf : a.eval f = cf at hfv
          cases hfv with
          | func fn as cs hl hcs =>
            have hargs : CVl ξ η (c.args.toList.map (ev t) ++ as) ((c.args.map a.eval ++ (⟨cs⟩ : Array Value)).toList) := by
              have := (CVl.map (l := c.args.toList) (f := ev t) (g := a.eval) fun x hx => ht x (by simp [ho, Op.operands, Call.operands]; exact .inr (by simpa using hx))).append ⟨hl, hcs⟩
              simpa using this
            have hr : (execOp a.eval o).run P w = .ok (.enter g (c.args.map a.eval ++ (⟨cs⟩ : Array Value))) w := by
              simp only [execOp, ho, resolve, hf, hcf, Deferred.ofValue, Sem.run_bind, Sem.run_pure, Result.andThen_ok, invoke]
              have := run_callFunc (P := P) (w := w) g (c.args.map a.eval ++ (⟨cs⟩ : Array Value)) hcall
              simpa using this
            exact Eff.call g _ _ v m' hr hargs h2
        · simp at h
      · simp at h
    · rename_i b hb
      unfold abuiltin at h
      split at h
      · rename_i k x l hq
        obtain ⟨z, h1, h2⟩ := amax_sound (ξ := ξ) (P := P) _ _ h
        refine ⟨_, _, h1, fun η a w ht hrel hrs => ?_⟩
        have hl := CVl.map (l := c.args.toList) (f := ev t) (g := a.eval) fun x hx => ht x (by simp [ho, Op.operands, Call.operands]; exact .inr (by simpa using hx))
        rw [hq] at hl
        obtain ⟨c0, lc, hlc, hc0, hl'⟩ := hl.of_cons
        have hc0 := hc0.int_inv; subst hc0
        exact Eff.same _ (.int k z) (by simp [execOp, ho, resolve, hb, invoke, builtin, Builtin.max_, hlc, h2 η lc w hl']) (.int _ _)
      · rename_i k x l hq
        obtain ⟨z, h1, h2⟩ := amin_sound (ξ := ξ) (P := P) _ _ h
        refine ⟨_, _, h1, fun η a w ht hrel hrs => ?_⟩
        have hl := CVl.map (l := c.args.toList) (f := ev t) (g := a.eval) fun x hx => ht x (by simp [ho, Op.operands, Call.operands]; exact .inr (by simpa using hx))
        rw [hq] at hl
        obtain ⟨c0, lc, hlc, hc0, hl'⟩ := hl.of_cons
        have hc0 := hc0.int_inv; subst hc0
        exact Eff.same _ (.int k z) (by simp [execOp, ho, resolve, hb, invoke, builtin, Builtin.min_, hlc, h2 η lc w hl']) (.int _ _)
      · rename_i ad n cap hq
        split at h
        · rename_i ty hty
          split at h
          · rename_i e2 n2 z2 hti
            obtain ⟨hu, _⟩ := tinf_ok hti
            refine ⟨_, _, h, fun η a w ht hrel hrs => ?_⟩
            have hl := CVl.map (l := c.args.toList) (f := ev t) (g := a.eval) fun x hx => ht x (by simp [ho, Op.operands, Call.operands]; exact .inr (by simpa using hx))
            rw [hq] at hl
            obtain ⟨c0, lc, hlc, hc0, hl'⟩ := hl.of_cons
            have hnil := CVl.of_nil hl'; subst hnil
            have e : (c.args.map a.eval).toList = [c0] := by simpa using hlc
            have e' : c.args.map a.eval = #[c0] := by apply Array.ext'; simpa using e
            refine Eff.same _ (.int .i64 (n : Int)) ?_ (.int _ _)
            cases hc0 <;> simp [execOp, ho, resolve, hb, invoke, builtin, Builtin.len_, e', hty, run_underlying hu, goInt]
          · simp at h
        · simp at h
      · simp at h
    · simp at h
  case h_20 => simp at h
theorem runOp_call {R : Type} {O : Ora R} {K : Value → Mem → Option R} {r : R} {o : Oper} {c : Call} {f : Operand} (ho : o.op = .call c) (hf : c.callee = .value f) (h : runOp P O o t m K = some r) :
    ∃ g args, O g args m K = some r ∧ ∀ (η : Eta) (a : Act) (w : World), (∀ x ∈ o.op.operands, CV ξ η (ev t x) (a.eval x)) → ∃ argsc, (execOp a.eval o).run P w = .ok (.enter g argsc) w ∧ CVl ξ η args argsc.toList := by
  unfold runOp at h
  rw [ho] at h
  simp only [hf] at h
  split at h
  · rename_i g fst cap hq
    split at h
    · rename_i hcall
      refine ⟨_, _, h, fun η a w ht => ?_⟩
      have hfv := ht f (by simp [ho, Op.operands, Call.operands, hf])
      rw [hq] at hfv
      generalize hcf : a.eval f = cf at hfv
      cases hfv with
      | func fn as cs hl hcs =>
        have hargs : CVl ξ η (c.args.toList.map (ev t) ++ as) ((c.args.map a.eval ++ (⟨cs⟩ : Array Value)).toList) := by
          have := (CVl.map (l := c.args.toList) (f := ev t) (g := a.eval) fun x hx => ht x (by simp [ho, Op.operands, Call.operands]; exact .inr (by simpa using hx))).append ⟨hl, hcs⟩
          simpa using this
        have hr : (execOp a.eval o).run P w = .ok (.enter g (c.args.map a.eval ++ (⟨cs⟩ : Array Value))) w := by
          simp only [execOp, ho, resolve, hf, hcf, Deferred.ofValue, Sem.run_bind, Sem.run_pure, Result.andThen_ok, invoke]
          have := run_callFunc (P := P) (w := w) g (c.args.map a.eval ++ (⟨cs⟩ : Array Value)) hcall
          simpa using this
        exact ⟨_, hr, hargs⟩
    · simp at h
  · simp at h
theorem runOp_noCall {R : Type} {O O' : Ora R} {K : Value → Mem → Option R} {o : Oper} (hn : ∀ c f, o.op = .call c → c.callee = .value f → False) : runOp P O o t m K = runOp P O' o t m K := by
  obtain ⟨dst, op, type, pos, after, guard⟩ := o
  cases op <;> simp only [runOp]
  case call c =>
    obtain ⟨callee, args, tys⟩ := c
    cases callee with
    | value f => exact (hn _ f rfl rfl).elim
    | _ => rfl
theorem Eff.good {o : Oper} {v : Value} (hs : Stable Φ base) (hrel : Rel ξ Φ base η m w) (h : Eff ξ Φ base P (fun g args v m' => CallOk P ξ Φ base g args m v m') η w a o m v m') : Good ξ Φ base P η w a o v m' := by
  cases h with
  | same v c hr hc => exact Good.same hr hc hrel
  | alloc vs cs ty hr hc =>
    obtain ⟨h1, h2, h3⟩ := hrel.alloc hs vs cs ty hc
    exact Good.value hr h2 (.ptr m.length 0 w.heap.size 0 (by simp)) h1 h3
  | store m' w' hst hr hrel' hb => exact Good.skip hr (Eta.le.refl _) hrel' hb
  | call g args argsc v m' hr hc hk =>
    intro Kc Q hK
    unfold Oper.wp
    rw [hr]
    exact (hk η w _ hrel hc).mono fun e w' he => by
      obtain ⟨η', cv, rfl, hle, hcv, hr', hb'⟩ := he
      exact hK η' cv w' hle hcv hr' hb'
theorem runOp_sound {R : Type} {O : Ora R} {K : Value → Mem → Option R} {r : R} (hs : Stable Φ base) (hO : OraOk P ξ Φ base O) {o : Oper} (h : runOp P O o t m K = some r)
    (ht : CVl ξ η t a.tmps.toList) (hrel : Rel ξ Φ base η m w) (Kc : Act → World → Prop) (Q : Exit → Act → World → Prop)
    (hK : ∀ v m' η' c w', K v m' = some r → η.le η' → CV ξ η' v c → Rel ξ Φ base η' m' w' → Below base w w' → Kc (a.put o.dst c) w') : o.wp P a w Kc Q := by
  by_cases hc : ∃ c f, o.op = .call c ∧ c.callee = .value f
  · obtain ⟨c, f, ho, hf⟩ := hc
    obtain ⟨g, args, h1, h2⟩ := runOp_call (ξ := ξ) ho hf h
    obtain ⟨argsc, hr, hargs⟩ := h2 η a w (fun x _ => ev_cv ht x)
    unfold Oper.wp
    rw [hr]
    exact (hO g args m K r h1 η w argsc hrel hargs).mono fun e w' he => by
      obtain ⟨v, m', η', cv, hk, rfl, hle, hcv, hr', hb'⟩ := he
      exact hK v m' η' cv w' hk hle hcv hr' hb'
  · rw [runOp_noCall (O' := fun _ _ _ _ => none) (fun c f e e' => hc ⟨c, f, e, e'⟩)] at h
    obtain ⟨v, m', h1, h2⟩ := runOp_eff (ξ := ξ) (Φ := Φ) (base := base) (CO := fun g args v m' => CallOk P ξ Φ base g args m v m') hs (fun g args K r h => by cases h) h
    exact ((h2 η a w (fun x _ => ev_cv ht x) (fun b _ => hrel.at b) (fun _ => hrel)).good hs hrel) _ _ fun η' c w' hle hcv hr' hb' => hK v m' η' c w' h1 hle hcv hr' hb'
theorem set_same {α : Type} {l : List α} {i : Nat} {x : α} (h : l[i]? = some x) : l.set i x = l := by
  apply List.ext_getElem?
  intro j
  rw [List.getElem?_set]
  split
  · rename_i hij; subst hij
    split
    · exact h.symm
    · rename_i hlt; rw [List.getElem?_eq_none (by omega)] at h; cases h
  · rfl
/-- one operation of a region, with its guard: either it is carried out, or it is left out -/
theorem runOps_cases {R : Type} {O : Ora R} {K : List Value → Mem → Option R} {r : R} {ops : Array Oper} {o : Oper} {l : List Oper} (h : runOps P O ops (o :: l) t m K = some r) :
    (runOp P O o t m (fun v m' => runOps P O ops l (putL t o.dst v) m' K) = some r ∧ (o.guard = none ∨ ∃ j want d, o.guard = some (j, want) ∧ (ops[j]?).bind (·.dst) = some d ∧ t[d]? = some (.bool want))) ∨
    (runOps P O ops l (putL t o.dst undef) m K = some r ∧ ∃ j want d, o.guard = some (j, want) ∧ (ops[j]?).bind (·.dst) = some d ∧ (t[d]? = some (.bool !want) ∨ t[d]? = some (.tuple ⟨[]⟩))) := by
  simp only [runOps, forceV_eq] at h
  split at h
  · rename_i hg; exact .inl ⟨h, .inl hg⟩
  · rename_i j want hg
    split at h
    · rename_i d hd
      split at h
      · rename_i b hb
        split at h
        · rename_i hbt; subst hbt
          rw [set_same hb] at h
          split at h
          · rename_i hw; subst hw; exact .inl ⟨h, .inr ⟨j, true, d, hg, hd, hb⟩⟩
          · rename_i hw
            have hw : want = false := by simpa using hw
            subst hw; exact .inr ⟨h, j, false, d, hg, hd, .inl hb⟩
        · rename_i hbt
          have hbt : b = false := by simpa using hbt
          subst hbt
          rw [set_same hb] at h
          split at h
          · rename_i hw; subst hw; exact .inr ⟨h, j, true, d, hg, hd, .inl hb⟩
          · rename_i hw
            have hw : want = false := by simpa using hw
            subst hw; exact .inl ⟨h, .inr ⟨j, false, d, hg, hd, hb⟩⟩
      · rename_i hb; exact .inr ⟨h, j, want, d, hg, hd, .inr hb⟩
      · cases h
    · cases h
/-- one operation of a region, as the world does it -/
theorem runOps_step {R : Type} {O : Ora R} {K : List Value → Mem → Option R} {r : R} (hs : Stable Φ base) (hO : OraOk P ξ Φ base O) {ops : Array Oper} {o : Oper} {l : List Oper}
    (h : runOps P O ops (o :: l) t m K = some r) (ht : CVl ξ η t a.tmps.toList) (hr : Rel ξ Φ base η m w) (Q : Exit → Act → World → Prop) (Kc : Act → World → Prop)
    (hK : ∀ η' t' m' a' w', η.le η' → runOps P O ops l t' m' K = some r → CVl ξ η' t' a'.tmps.toList → Rel ξ Φ base η' m' w' → Below base w w' → a'.defers = a.defers → Kc a' w') :
    if Region.wanted o (yielded ops a.tmps) then o.wp P a w Kc Q else Kc (a.put o.dst undef) w := by
  have undefcv : ∀ η, CV ξ η undef undef := fun η => .tup [] [] rfl (fun i v c h => by simp at h)
  rcases runOps_cases h with ⟨h, hg⟩ | ⟨h, j, want, d, hg, hd, hq⟩
  · have hw : Region.wanted o (yielded ops a.tmps) = true := by
      rcases hg with hg | ⟨j, want, d, hg, hd, hb⟩
      · simp [Region.wanted, hg]
      · obtain ⟨c, hc, hcv⟩ := ht.get hb
        have hcv := hcv.bool_inv; subst hcv
        have hc' : a.tmps[d]? = some (.bool want) := by simpa using hc
        simp [Region.wanted, hg, yielded, hd, hc']
    rw [if_pos hw]
    exact runOp_sound hs hO h ht hr _ _ fun v m' η' c w' h1 hle hc hr' hb' => hK η' _ _ _ _ hle h1 (putL_cv (ht.mono hle) _ hc) hr' hb' (put_defers _ _)
  · have hw : ¬ Region.wanted o (yielded ops a.tmps) = true := by
      rcases hq with hb | hb
      · obtain ⟨c, hc, hcv⟩ := ht.get hb
        have hcv := hcv.bool_inv; subst hcv
        have hc' : a.tmps[d]? = some (.bool !want) := by simpa using hc
        simp [Region.wanted, hg, yielded, hd, hc']
      · obtain ⟨c, hc, hcv⟩ := ht.get hb
        obtain ⟨cc, rfl, _⟩ := hcv.tup_inv
        have hc' : a.tmps[d]? = some (.tuple cc) := by simpa using hc
        simp [Region.wanted, hg, yielded, hd, hc']
    rw [if_neg hw]
    exact hK η _ _ _ _ (Eta.le.refl _) h (putL_cv ht _ (undefcv η)) hr (Below.refl _ _) (put_defers _ _)
theorem runOps_sound {R : Type} {O : Ora R} {K : List Value → Mem → Option R} {r : R} (hs : Stable Φ base) (hO : OraOk P ξ Φ base O) {ops : Array Oper} :
    ∀ (l : List Oper) (t : List Value) (m : Mem) (a : Act) (w : World) (η : Eta), runOps P O ops l t m K = some r → CVl ξ η t a.tmps.toList → Rel ξ Φ base η m w →
    ∀ Q : Exit → Act → World → Prop, (∀ η' t' m' a' w', η.le η' → K t' m' = some r → CVl ξ η' t' a'.tmps.toList → Rel ξ Φ base η' m' w' → Below base w w' → a'.defers = a.defers → Q .normal a' w') →
    wpList P ops Q l a w := by
  intro l
  induction l with
  | nil => intro t m a w η h ht hr Q hQ; exact hQ η t m a w (Eta.le.refl _) h ht hr (Below.refl _ _) rfl
  | cons o l ih =>
    intro t m a w η h ht hr Q hQ
    have := runOps_step hs hO h ht hr Q (wpList P ops Q l) fun η' t' m' a' w' hle hk ht' hr' hb' hd' =>
      ih _ _ _ _ η' hk ht' hr' Q fun η2 t2 m2 a2 w2 h1 h2 h3 h4 h5 h6 => hQ η2 t2 m2 a2 w2 (hle.trans h1) h2 h3 h4 (hb'.trans h5) (h6.trans hd')
    unfold wpList
    split
    · rename_i hw; rw [if_pos hw] at this; exact .inl this
    · rename_i hw; rw [if_neg hw] at this; exact this
/-- A region that goes on in the states of S. -/
def RegOk (P : Program) (ξ : Nat → Value) (Φ : World → Prop) (base : Nat) (ops : Array Oper) (draw : Bool) (t : List Value) (m : Mem) (S : List Value → Mem → Prop) : Prop :=
  ∀ (η : Eta) (a : Act) (w : World) (id : Nat), CVl ξ η t a.tmps.toList → Rel ξ Φ base η m w →
    (Code.region id ops draw).wp P (fun e a' w' => e = .normal ∧ ∃ η' t' m', η.le η' ∧ S t' m' ∧ CVl ξ η' t' a'.tmps.toList ∧ Rel ξ Φ base η' m' w' ∧ Below base w w' ∧ a'.defers = a.defers) a w
theorem runOps_reg {R : Type} {O : Ora R} {K : List Value → Mem → Option R} {r : R} (hs : Stable Φ base) (hO : OraOk P ξ Φ base O) {ops : Array Oper}
    (h : runOps P O ops ops.toList t m K = some r) : RegOk P ξ Φ base ops false t m (fun t' m' => K t' m' = some r) := by
  intro η a w id ht hr
  exact wp_region_list (runOps_sound hs hO _ _ _ _ _ η h ht hr _ fun η' t' m' a' w' h1 h2 h3 h4 h5 h6 => ⟨rfl, η', t', m', h1, h2, h3, h4, h5, h6⟩)
abbrev Dra (R : Type) := Array Oper → List Value → Mem → (List Value → Mem → Option R) → Option R
def DraOk {R : Type} (P : Program) (ξ : Nat → Value) (Φ : World → Prop) (base : Nat) (D : Dra R) : Prop :=
  ∀ ops t m K r, D ops t m K = some r → RegOk P ξ Φ base ops true t m (fun t' m' => K t' m' = some r)
def resF (tmps : Array Value) : ResultVar → Sem Value
  | .tmp i => pure (tmps.getD i undef)
  | .cell i ty => do loadVar ty (← asAddr (tmps.getD i undef))
theorem results_eq (fn : Func) (tmps : Array Value) : results fn tmps = (do let vs ← fn.results.mapM (resF tmps); pure (if h : vs.size = 1 then vs[0] else .tuple vs)) := by
  unfold results
  congr 1
theorem finL_sound : ∀ (l : List ResultVar) (vs : List Value), finL P l t m = some vs → ∀ (η : Eta) (a : Act) (w : World), CVl ξ η t a.tmps.toList → Rel ξ Φ base η m w →
    ∃ cs, (l.mapM (resF a.tmps)).run P w = .ok cs w ∧ CVl ξ η vs cs
  | [], vs, h => fun η a w ht hr => by simp [finL] at h; subst h; exact ⟨[], by simp, CVl.nil⟩
  | .tmp i :: l, vs, h => fun η a w ht hr => by
    simp only [finL] at h
    split at h
    · rename_i vs' hv
      simp at h; subst h
      obtain ⟨cs, h1, h2⟩ := finL_sound l vs' hv η a w ht hr
      have h7 : (resF a.tmps (.tmp i)).run P w = .ok (a.tmps.getD i undef) w := rfl
      refine ⟨a.tmps.getD i undef :: cs, ?_, CVl.cons (ev_cv ht (.tmp i)) h2⟩
      rw [List.mapM_cons, Sem.run_bind, h7, Result.andThen_ok, Sem.run_bind, h1]; rfl
    · simp at h
  | .cell i ty :: l, vs, h => fun η a w ht hr => by
    simp only [finL] at h
    split at h
    · rename_i v vs' hl hv
      simp at h; subst h
      obtain ⟨cs, h1, h2⟩ := finL_sound l vs' hv η a w ht hr
      obtain ⟨v', h3, h4⟩ := aload_sound (ξ := ξ) hl
      simp at h3; subst h3
      obtain ⟨c, h5, h6⟩ := h4 η _ w (ev_cv ht (.tmp i)) (fun b _ => hr.at b)
      have h6 : (Instr.loadAt ty (a.tmps.getD i undef)).run P w = .ok c w := h6
      refine ⟨c :: cs, ?_, CVl.cons h5 h2⟩
      have h7 : (resF a.tmps (.cell i ty)).run P w = .ok c w := by
        show (do loadVar ty (← asAddr (a.tmps.getD i undef)) : Sem Value).run P w = .ok c w
        generalize a.tmps.getD i undef = q at h6 ⊢
        unfold Instr.loadAt Instr.sureAddr at h6
        split at h6
        · simpa [asAddr] using h6
        · simp at h6
      rw [List.mapM_cons, Sem.run_bind, h7, Result.andThen_ok, Sem.run_bind, h1]; rfl
    · simp at h
theorem fin_sound {R : Type} {F : Value → Mem → Option R} {r : R} {fn : Func} (h : fin P fn t m F = some r) (ht : CVl ξ η t a.tmps.toList) (hr : Rel ξ Φ base η m w) : ∃ v, F v m = some r ∧ ∃ c, (results fn a.tmps).run P w = .ok c w ∧ CV ξ η v c := by
  unfold fin at h
  split at h
  · rename_i vs hv
    obtain ⟨cs, h1, h2⟩ := finL_sound _ vs hv η a w ht hr
    refine ⟨_, h, ?_⟩
    have hrun : (results fn a.tmps).run P w = .ok (if h : (⟨cs⟩ : Array Value).size = 1 then (⟨cs⟩ : Array Value)[0] else .tuple ⟨cs⟩) w := by
      rw [results_eq, Array.mapM_eq_mapM_toList]
      simp only [Sem.run_bind, Sem.run_map, h1]
      rfl
    refine ⟨_, hrun, ?_⟩
    have hl := h2.1
    split
    · rename_i v0
      obtain ⟨c, cs', rfl, hc, h'⟩ := h2.of_cons
      rw [CVl.of_nil h']
      exact hc
    · rename_i hne
      have : ¬ (⟨cs⟩ : Array Value).size = 1 := by
        intro e
        have e : cs.length = 1 := by simpa using e
        match vs, hne, hl with
        | [x], hne, _ => exact hne x rfl
        | [], _, hl => simp at hl; omega
        | _ :: _ :: _, _, hl => simp at hl; omega
      rw [dif_neg this]
      exact .tup _ _ h2.1 h2.2
  · simp at h
def Eta.cut (η : Eta) (len : Nat) : Eta := fun b => if b < len then η b else none
def Eta.leTo (L : Nat) (η η' : Eta) : Prop := ∀ b p, b < L → η b = some p → η' b = some p
theorem CV.cut {v c : Value} (h : CV ξ η v c) (len : Nat) : ∀ d, refs len d v = true → CV ξ (η.cut len) v c := by
  have lt : ∀ {b i : Nat} {a : Option Nat}, decide ((⟨b, i, a⟩ : Addr).block < len) = true → ∀ {p}, η b = some p → η.cut len b = some p := fun hd _ e => by
    have hd := of_decide_eq_true hd
    unfold Eta.cut; rw [if_pos hd]; exact e
  induction h with
  | psn c => exact fun _ _ => .psn c
  | opq i => exact fun _ _ => .opq i
  | bool b => exact fun _ _ => .bool b
  | int k n => exact fun _ _ => .int k n
  | str s => exact fun _ _ => .str s
  | pnil => exact fun _ _ => .pnil
  | ptr b i B o h => exact fun d hd => .ptr b i B o (lt (by cases d <;> exact hd) h)
  | snil => exact fun _ _ => .snil
  | slice b i B o n c c' h hc => exact fun d hd => .slice b i B o n c c' (lt (by cases d <;> exact hd) h) hc
  | func fn as cs hl h ih =>
      intro d hd
      cases d with
      | zero => simp [refs] at hd
      | succ d => exact .func fn as cs hl fun i v c hv hc => ih i v c hv hc d (List.all_eq_true.1 (show as.all (refs len d) = true from hd) v (List.mem_of_getElem? hv))
  | agg as cs hl h ih =>
      intro d hd
      cases d with
      | zero => simp [refs] at hd
      | succ d => exact .agg as cs hl fun i v c hv hc => ih i v c hv hc d (List.all_eq_true.1 (show as.all (refs len d) = true from hd) v (List.mem_of_getElem? hv))
  | tup as cs hl h ih =>
      intro d hd
      cases d with
      | zero => simp [refs] at hd
      | succ d => exact .tup as cs hl fun i v c hv hc => ih i v c hv hc d (List.all_eq_true.1 (show as.all (refs len d) = true from hd) v (List.mem_of_getElem? hv))
  | nilFunc => exact fun _ _ => .nilFunc
  | nilIface => exact fun _ _ => .nilIface
  | iface t v c h ih =>
      intro d hd
      cases d with
      | zero => simp [refs] at hd
      | succ d => exact .iface t v c (ih d hd)
theorem CVl.cut {as cs : List Value} (h : CVl ξ η as cs) (len d : Nat) (hr : as.all (refs len d) = true) : CVl ξ (η.cut len) as cs :=
  ⟨h.1, fun i v c hv hc => (h.2 i v c hv hc).cut len d (List.all_eq_true.1 hr v (List.mem_of_getElem? hv))⟩
theorem CVl.kill (live : List Nat) : ∀ (i : Nat) {as cs : List Value}, CVl ξ η as cs → CVl ξ η (kill live i as) cs
  | i, [], cs, h => by rw [CVl.of_nil h]; exact CVl.nil
  | i, v :: as, cs, h => by
    obtain ⟨c, cs', rfl, h1, h2⟩ := h.of_cons
    simp only [Sx.kill]
    refine CVl.cons ?_ (CVl.kill live (i + 1) h2)
    split
    · exact h1
    · exact .psn c
theorem Rel.cut (h : Rel ξ Φ base η m w) (len : Nat) (hr : (m.take len).all (fun k => k.cells.all (refs len 4)) = true) : Rel ξ Φ base (η.cut len) (m.take len) w := by
  have lt : ∀ {b p}, η.cut len b = some p → b < len ∧ η b = some p := fun {b p} e => by
    unfold Eta.cut at e
    split at e
    · rename_i hlt; exact ⟨hlt, e⟩
    · cases e
  have tk : ∀ {b k}, (m.take len)[b]? = some k → m[b]? = some k := fun {b k} hk => by
    rw [List.getElem?_take] at hk
    split at hk
    · exact hk
    · cases hk
  refine ⟨h.ext, h.le, fun b p e => ?_, fun b B o k e hm => ?_, fun b b' B o o' k e e' hm hown => h.inj b b' B o o' k (lt e).2 (lt e').2 (tk hm) hown⟩
  · have := h.dom b p (lt e).2; have := (lt e).1; simp; omega
  · obtain ⟨cs, ty, fr, h1, h2, h3⟩ := h.blk b B o k (lt e).2 (tk hm)
    refine ⟨cs, ty, fr, h1, fun i v hv => ?_, h3⟩
    obtain ⟨c, hc, hcv⟩ := h2 i v hv
    have hk := List.all_eq_true.1 hr k (List.mem_of_getElem? hm)
    exact ⟨c, hc, hcv.cut len 4 (List.all_eq_true.1 hk v (List.mem_of_getElem? hv))⟩
theorem clean_sound {R : Type} {live : List Nat} {len : Nat} {K : List Value → Mem → Option R} {r : R} (h : clean live len t m K = some r) :
    ∃ t' m', K t' m' = some r ∧ ∀ (η : Eta) (a : Act) (w : World), CVl ξ η t a.tmps.toList → Rel ξ Φ base η m w → CVl ξ (η.cut len) t' a.tmps.toList ∧ Rel ξ Φ base (η.cut len) m' w := by
  unfold clean at h
  split at h
  · rename_i hc
    exact ⟨_, _, h, fun η a w ht hr => ⟨(ht.kill live 0).cut len 4 hc.1, hr.cut len hc.2⟩⟩
  · cases h
def Ex.to : Ex → Exit
  | .normal => .normal
  | .exit id => .exit id
  | .ret => .ret
/-- What a piece of code does: left so, with these slots and this memory. -/
def Leaves (P : Program) (ξ : Nat → Value) (Φ : World → Prop) (base L : Nat) (todo : List Item) (t : List Value) (m : Mem) (S : Ex → List Value → Mem → Prop) : Prop :=
  ∀ (η : Eta) (a : Act) (w : World), CVl ξ η t a.tmps.toList → Rel ξ Φ base η m w →
    ∀ (b : Frame) (k : List Item) (cs : List Frame), ∃ e t' m' η' a' w', S e t' m' ∧ η.leTo L η' ∧ CVl ξ η' t' a'.tmps.toList ∧ Rel ξ Φ base η' m' w' ∧ Below base w w' ∧ a'.defers = a.defers ∧
      Arrives P (lone (b.at a (todo ++ k)) cs w) b k cs e.to a' w'
/-- A loop that is told right. -/
def LoopOk {R : Type} (P : Program) (ξ : Nat → Value) (Φ : World → Prop) (base L : Nat) (c : Code) (f : LoopF R) : Prop :=
  ∀ t m κ r, f t m κ = some r → Leaves P ξ Φ base L [.code c, .inLoop c] t m (fun e t' m' => κ e t' m' = some r ∧ (Ex → e ≠ .normal))
theorem exitTo_append {id : Nat} : ∀ (l k : List Item), exitTo id (l ++ k) = match exitTo id l with | some l' => some (l' ++ k) | none => exitTo id k
  | [], k => rfl
  | x :: l, k => by
    cases x <;> simp only [List.cons_append, exitTo]
    case inBlock id' => split <;> rename_i h <;> simp [h, exitTo_append l k]
    all_goals exact exitTo_append l k
theorem Leaves.mono {L : Nat} {todo : List Item} {S S' : Ex → List Value → Mem → Prop} (h : Leaves P ξ Φ base L todo t m S) (hS : ∀ e t m, S e t m → S' e t m) : Leaves P ξ Φ base L todo t m S' := by
  intro η a w ht hr b k cs
  obtain ⟨e, t', m', η', a', w', h1, h2⟩ := h η a w ht hr b k cs
  exact ⟨e, t', m', η', a', w', hS _ _ _ h1, h2⟩
theorem Eta.leTo.refl (L : Nat) (η : Eta) : η.leTo L η := fun _ _ _ h => h
theorem Eta.leTo.trans {L : Nat} {a b c : Eta} (h : a.leTo L b) (k : b.leTo L c) : a.leTo L c := fun x p hx e => k x p hx (h x p hx e)
theorem Eta.le.to {a b : Eta} (h : a.le b) (L : Nat) : a.leTo L b := fun x p _ e => h x p e
theorem Eta.cut_leTo {L len : Nat} (h : L ≤ len) (a : Eta) : a.leTo L (a.cut len) := fun x p hx e => by unfold Eta.cut; rw [if_pos (by omega)]; exact e
theorem exitTo_mem {id : Nat} : ∀ {l k : List Item}, exitTo id l = some k → ∀ i ∈ k, i ∈ l
  | [], k, h, i, hi => by simp [exitTo] at h
  | x :: l, k, h, i, hi => by
    cases x <;> simp only [exitTo] at h
    case inBlock id' =>
      split at h
      · cases h; exact List.mem_cons_of_mem _ hi
      · exact List.mem_cons_of_mem _ (exitTo_mem h i hi)
    all_goals exact List.mem_cons_of_mem _ (exitTo_mem h i hi)
theorem runM_sound (hs : Stable Φ base) {R : Type} {O : Ora R} (hO : OraOk P ξ Φ base O) {D : Dra R} (hD : DraOk P ξ Φ base D) {LF : Nat → Option (List Nat × Nat × LoopF R)} {L : Nat}
    {LS : Code → Prop} (hL : ∀ c, LS c → ∀ live len f, LF (headId c) = some (live, len, f) → L ≤ len ∧ LoopOk P ξ Φ base L c f) {E : Ex → List Value → Mem → Option R} {r : R} :
    ∀ (n : Nat) (todo : List Item) (t : List Value) (m : Mem), (∀ i ∈ todo, ∀ c ∈ loopsI i, LS c) → runM P O D LF E n todo t m = some r → Leaves P ξ Φ base L todo t m (fun e t' m' => E e t' m' = some r) := by
  intro n
  induction n with
  | zero => intro todo t m _ h; simp [runM] at h
  | succ n ih =>
    intro todo t m hls h
    -- a step that leaves slots and memory
    have step : ∀ {todo todo' : List Item}, (∀ i ∈ todo', ∀ c ∈ loopsI i, LS c) → runM P O D LF E n todo' t m = some r →
        (∀ (η : Eta) (a : Act) (w : World), CVl ξ η t a.tmps.toList → ∀ (b : Frame) (k : List Item) (cs : List Frame), Steps P (lone (b.at a (todo ++ k)) cs w) (lone (b.at a (todo' ++ k)) cs w)) →
        Leaves P ξ Φ base L todo t m (fun e t' m' => E e t' m' = some r) := by
      intro todo todo' hls h hst η a w ht hr b k cs
      obtain ⟨e, t', m', η', a', w', h1, h2, h3, h4, h5, h6, h7⟩ := ih _ _ _ hls h η a w ht hr b k cs
      exact ⟨e, t', m', η', a', w', h1, h2, h3, h4, h5, h6, Arrives.of_steps (hst η a w ht b k cs) h7⟩
    -- a loop that is told
    have loop : ∀ {c : Code} {k : List Item} {x : Item} {live : List Nat} {len : Nat} {f : LoopF R}, LS c → (∀ i ∈ k, ∀ c ∈ loopsI i, LS c) → LF (headId c) = some (live, len, f) →
        (∀ (a : Act) (w : World) (b : Frame) (k : List Item) (cs : List Frame), Steps P (lone (b.at a (x :: k)) cs w) (lone (b.at a (.code c :: .inLoop c :: k)) cs w)) →
        clean live len t m (fun t' m' => f t' m' (fun e t2 m2 => match e with
        | .normal => none
        | .ret => E .ret t2 m2
        | .exit id => (match exitTo id k with | some k' => runM P O D LF E n k' t2 m2 | none => E (.exit id) t2 m2))) = some r →
        Leaves P ξ Φ base L (x :: k) t m (fun e t' m' => E e t' m' = some r) := by
      intro c k x live len f hlsc hlsk hl hst h η a w ht hr b k2 cs
      obtain ⟨hle, hok⟩ := hL c hlsc live len f hl
      obtain ⟨t1, m1, h1, h2⟩ := clean_sound (ξ := ξ) (Φ := Φ) (base := base) h
      obtain ⟨ht1, hr1⟩ := h2 η a w ht hr
      obtain ⟨e, t', m', η', a', w', ⟨h3, h4⟩, h5, h6, h7, h8, h9, h10⟩ := hok _ _ _ _ h1 (η.cut len) a w ht1 hr1 b (k ++ k2) cs
      have hle' : η.leTo L η' := (Eta.cut_leTo hle η).trans h5
      have h10 := Arrives.of_steps (hst a w b (k ++ k2) cs) h10
      cases e with
      | normal => exact absurd rfl (h4 .normal)
      | ret => exact ⟨.ret, t', m', η', a', w', h3, hle', h6, h7, h8, h9, h10⟩
      | exit id =>
        simp only at h3
        split at h3
        · rename_i k' hk'
          obtain ⟨e, t3, m3, η3, a3, w3, h11, h12, h13, h14, h15, h16, h17⟩ := ih _ _ _ (fun i hi => hlsk i (exitTo_mem hk' i hi)) h3 η' a' w' h6 h7 b k2 cs
          refine ⟨e, t3, m3, η3, a3, w3, h11, hle'.trans h12, h13, h14, h8.trans h15, h16.trans h9, ?_⟩
          have hst2 := h10 (k' ++ k2) (by rw [exitTo_append, hk'])
          exact Arrives.of_steps hst2 h17
        · rename_i hk'
          refine ⟨.exit id, t', m', η', a', w', h3, hle', h6, h7, h8, h9, fun k3 hk3 => h10 k3 ?_⟩
          rw [exitTo_append, hk']; exact hk3
    unfold runM at h
    split at h
    · intro η a w ht hr b k cs
      exact ⟨.normal, t, m, η, a, w, h, Eta.leTo.refl _ _, ht, hr, Below.refl _ _, rfl, Steps.refl _ _⟩
    · intro η a w ht hr b k cs
      exact ⟨.ret, t, m, η, a, w, h, Eta.leTo.refl _ _, ht, hr, Below.refl _ _, rfl, _, .one step_ret⟩
    · exact step (fun i hi => hls i (List.mem_cons_of_mem _ hi)) h fun η a w ht b k cs => .one step_skip
    · exact step (fun i hi => hls i (List.mem_cons_of_mem _ hi)) h fun η a w ht b k cs => .one step_label
    · exact step (fun i hi => hls i (List.mem_cons_of_mem _ hi)) h fun η a w ht b k cs => .one step_inBlock
    · refine step (fun i hi c hc => ?_) h fun η a w ht b k cs => .one step_seq
      simp only [List.mem_cons] at hi
      rcases hi with rfl | rfl | hi
      · exact hls _ List.mem_cons_self c (by simp only [loopsI, loops, List.mem_append]; exact .inl hc)
      · exact hls _ List.mem_cons_self c (by simp only [loopsI, loops, List.mem_append]; exact .inr hc)
      · exact hls i (List.mem_cons_of_mem _ hi) c hc
    · rename_i c x y k
      split at h
      · rename_i q hq
        have hc : ∀ {η : Eta} {a : Act}, CVl ξ η t a.tmps.toList → a.eval c = .bool q := fun {η a} ht => by
          have hc := ev_cv ht c
          rw [hq] at hc; exact hc.bool_inv
        split at h
        · rename_i hq'; subst hq'
          exact step (fun i hi c hc => by
            simp only [List.mem_cons] at hi
            rcases hi with rfl | hi
            · exact hls _ List.mem_cons_self c (by simp only [loopsI, loops, List.mem_append]; exact .inl hc)
            · exact hls i (List.mem_cons_of_mem _ hi) c hc) h fun η a w ht b k cs => .one (step_cond (hc ht))
        · rename_i hq'
          have hq' : q = false := by cases q <;> simp_all
          subst hq'
          exact step (fun i hi c hc => by
            simp only [List.mem_cons] at hi
            rcases hi with rfl | hi
            · exact hls _ List.mem_cons_self c (by simp only [loopsI, loops, List.mem_append]; exact .inr hc)
            · exact hls i (List.mem_cons_of_mem _ hi) c hc) h fun η a w ht b k cs => .one (step_cond (hc ht))
      · cases h
    · refine step (fun i hi c hc => ?_) h fun η a w ht b k cs => .one step_block
      simp only [List.mem_cons] at hi
      rcases hi with rfl | rfl | hi
      · exact hls _ List.mem_cons_self c (by simpa only [loopsI, loops] using hc)
      · simp [loopsI] at hc
      · exact hls i (List.mem_cons_of_mem _ hi) c hc
    · rename_i c k
      split at h
      · refine step (fun i hi c' hc => ?_) h fun η a w ht b k cs => .one step_loop
        simp only [List.mem_cons] at hi
        rcases hi with rfl | rfl | hi
        · exact hls _ List.mem_cons_self c' (by simp only [loopsI, loops, List.mem_cons] at hc ⊢; exact .inr hc)
        · exact hls _ List.mem_cons_self c' (by simp only [loopsI, loops, List.mem_cons] at hc ⊢; exact hc)
        · exact hls i (List.mem_cons_of_mem _ hi) c' hc
      · rename_i live len f hl; exact loop (hls _ List.mem_cons_self c (by simp [loopsI, loops])) (fun i hi => hls i (List.mem_cons_of_mem _ hi)) hl (fun a w b k cs => .one step_loop) h
    · rename_i c k
      split at h
      · refine step (fun i hi c' hc => ?_) h fun η a w ht b k cs => .one step_inLoop
        simp only [List.mem_cons] at hi
        rcases hi with rfl | rfl | hi
        · exact hls _ List.mem_cons_self c' (by simp only [loopsI, loops, List.mem_cons] at hc ⊢; exact .inr hc)
        · exact hls _ List.mem_cons_self c' (by simp only [loopsI, loops, List.mem_cons] at hc ⊢; exact hc)
        · exact hls i (List.mem_cons_of_mem _ hi) c' hc
      · rename_i live len f hl; exact loop (hls _ List.mem_cons_self c (by simp [loopsI])) (fun i hi => hls i (List.mem_cons_of_mem _ hi)) hl (fun a w b k cs => .one step_inLoop) h
    · rename_i id k
      split at h
      · rename_i k' hk'
        exact step (fun i hi => hls i (List.mem_cons_of_mem _ (exitTo_mem hk' i hi))) h fun η a w ht b k2 cs => .one (step_exit (show exitTo id (k ++ k2) = _ by rw [exitTo_append, hk']))
      · rename_i hk'
        intro η a w ht hr b k2 cs
        refine ⟨.exit id, t, m, η, a, w, h, Eta.leTo.refl _ _, ht, hr, Below.refl _ _, rfl, fun k3 hk3 => .one (step_exit ?_)⟩
        show exitTo id (k ++ k2) = _
        rw [exitTo_append, hk']; exact hk3
    · rename_i id ops draw k
      simp only [forceL_eq, forceM_eq] at h
      have reg : RegOk P ξ Φ base ops draw t m (fun t' mq => runM P O D LF E n k t' mq = some r) → Leaves P ξ Φ base L (.code (.region id ops draw) :: k) t m (fun e t' m' => E e t' m' = some r) := by
        intro hreg η a w ht hr b k2 cs
        obtain ⟨e, a', w', ⟨rfl, η', t', m2, h1, h2, h3, h4, h5, h6⟩, harr⟩ := hreg η a w id ht hr b (k ++ k2) cs
        obtain ⟨e2, t3, m3, η3, a3, w3, h7, h8, h9, h10, h11, h12, h13⟩ := ih _ _ _ (fun i hi => hls i (List.mem_cons_of_mem _ hi)) h2 η' a' w' h3 h4 b k2 cs
        exact ⟨e2, t3, m3, η3, a3, w3, h7, (h1.to L).trans h8, h9, h10, h5.trans h11, h12.trans h6, Arrives.of_steps harr h13⟩
      split at h
      · rename_i hdr; subst hdr
        exact reg (hD _ _ _ _ _ h)
      · rename_i hdr
        have hdr : draw = false := by cases draw <;> simp_all
        subst hdr
        exact reg (runOps_reg hs hO h)
    · cases h
/-- what a body's end must tell -/
def Post {R : Type} (ξ : Nat → Value) (Φ : World → Prop) (base L : Nat) (η : Eta) (w : World) (F : Value → Mem → Option R) (r : R) (e : Ending) (w' : World) : Prop :=
  ∃ v m' η' c, F v m' = some r ∧ e = .returned c ∧ η.leTo L η' ∧ CV ξ η' v c ∧ Rel ξ Φ base η' m' w' ∧ Below base w w'
/-- A function, out of the executor. -/
theorem calls_of_run (hs : Stable Φ base) {R : Type} {O : Ora R} (hO : OraOk P ξ Φ base O) {D : Dra R} (hD : DraOk P ξ Φ base D) {LF : Nat → Option (List Nat × Nat × LoopF R)} {L : Nat}
    {LS : Code → Prop} (hL : ∀ c, LS c → ∀ live len f, LF (headId c) = some (live, len, f) → L ≤ len ∧ LoopOk P ξ Φ base L c f) {f : FuncId} {fn : Func} {c : Code} (hfn : P.funcs[f]? = some fn) (hb : fn.body = some c) (hls : ∀ c' ∈ loops c, LS c')
    {F : Value → Mem → Option R} {r : R} {n : Nat} {args : List Value} {argsc : Array Value} (h : runM P O D LF (atEnd P fn F) n [.code c] (args ++ List.replicate (fn.ntmps - args.length) undef) m = some r)
    (ha : CVl ξ η args argsc.toList) (hr : Rel ξ Φ base η m w) : Calls P f argsc w (Post ξ Φ base L η w F r) := by
  refine calls_of_wp hfn hb ?_
  have hsz : argsc.size = args.length := by have := ha.1; simpa using this.symm
  have ht : CVl ξ η (args ++ List.replicate (fn.ntmps - args.length) undef) (argsc ++ Array.replicate (fn.ntmps - argsc.size) undef).toList := by
    simp only [Array.toList_append, Array.toList_replicate, hsz]
    refine ha.append ⟨by simp, fun i v c hv hc => ?_⟩
    rw [List.getElem?_replicate] at hv hc
    split at hv
    · rename_i hi; simp only [if_pos hi] at hc; simp at hv hc; subst hv hc; exact .tup [] [] rfl (fun i v c h => by simp at h)
    · simp at hv
  intro b k cs
  obtain ⟨e, t', m', η', a', w', h1, h2, h3, h4, h5, h6, h7⟩ := runM_sound hs hO hD hL n _ _ _ (fun i hi => by simp only [List.mem_singleton] at hi; subst hi; exact hls) h η { tmps := argsc ++ Array.replicate (fn.ntmps - argsc.size) undef, defers := [] } w ht hr b k cs
  have done : fin P fn t' m' F = some r → ∃ v, (results fn a'.tmps).run P w' = .ok v w' ∧ Post ξ Φ base L η w F r (.returned v) w' := fun hf => by
    obtain ⟨v, hv, c, hc, hcv⟩ := fin_sound (P := P) (w := w') hf h3 h4
    exact ⟨c, hc, v, m', η', c, hv, rfl, h2, hcv, h4, h5⟩
  cases e with
  | normal => obtain ⟨v, h8, h9⟩ := done h1; exact ⟨.normal, a', w', ⟨h6, v, h8, h9⟩, h7⟩
  | ret => obtain ⟨v, h8, h9⟩ := done h1; exact ⟨.ret, a', w', ⟨h6, v, h8, h9⟩, h7⟩
  | exit id => cases h1
/-- A call that is told by the callee's own code. -/
def inl {R : Type} (P : Program) (G : FuncId) (fn : Func) (c : Code) (n : Nat) (O : Ora R) (D : Dra R) (rest : Ora R) : Ora R := fun g args m K =>
  if g = G then runM P O D (fun _ => none) (atEnd P fn K) n [.code c] (args ++ List.replicate (fn.ntmps - args.length) undef) m else rest g args m K
end
end Go.Proofs.Ytblidfmhlhhmkaa.Sx
