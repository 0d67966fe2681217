/- Opening an argument as data: what the reading of a value's cells tells, kind by kind; lemmas for the rows of this seat. -/
import Derived.Test.YtblidfmhlhhmkaaOscillPlaysn0
import Derived.Deep.Slices
import Derived.ChangeArms
import Derived.SizedLaws
namespace Go.Proofs.Ytblidfmhlhhmkaa.Opn
open Go.RowKit Go.Proofs.YtblidfmhlhhmkaaW.PrintWords Go.ChangeShapes Go.WideShapes
/-- A whole number of 64 bits. -/
def I64 (n : Int) : Prop := -9223372036854775808 ≤ n ∧ n ≤ 9223372036854775807
/-- A list of a length that fits, of elements that fit. -/
def ListOk {α : Type} (ok : α → Prop) (l : List α) : Prop := l.length ≤ 9223372036854775807 ∧ ∀ x ∈ l, ok x
theorem i64_of {n : Int} (hn : (Lit.int .i64 n).wf = true) : I64 n := by
  simp only [Lit.wf, IntKind.min, IntKind.max, IntKind.signed, IntKind.bits, Bool.and_eq_true, decide_eq_true_eq, if_true] at hn
  unfold I64
  omega
section
variable {H : Type} {enc : TypeId × Value → H} {P : Program} {w : World} {base : Nat} {spare : Nat → Bool} {held : Bool}
def Opens (enc : TypeId × Value → H) (P : Program) (w : World) (base : Nat) (spare : Nat → Bool) (held : Bool) (t : TypeId) {α : Type} (d : Kd α) (ok : α → Prop) : Prop :=
  ∀ (fuel : Nat) (cs : List Value) (x : DataW H × List MemPlace), DataW.trod enc P w base spare held fuel t cs = some x → ∃ v, d.K w v cs ∧ ok v
theorem opens_int {t : TypeId} (ht : P.underlying t = some (.int .i64)) : Opens enc P w base spare held t (Kd.int .i64) I64 := by
  intro fuel cs x h
  obtain ⟨n, rfl, _, hn⟩ := DataW.trod_int ht h
  exact ⟨n, rfl, i64_of hn⟩
theorem opens_slice {t e : TypeId} (q : Nat) {α : Type} {d : Kd α} {ok : α → Prop} (ht : P.underlying t = some (.slice e)) (hc : P.cellsOf e = d.sz) (he : Opens enc P w base spare held e d ok) : Opens enc P w base spare held t (Kd.slice q d) (ListOk ok) := by
  intro fuel cs x h
  rcases Go.Deep.open_slice ht h with ⟨rfl, _⟩ | ⟨a, len, cap, m, n, D, Pl, rfl, hb, hl, hm, hmm, _, hx⟩
  · refine ⟨[], ⟨none, 0, rfl, Nat.le_refl _, ⟨rfl, by simp, fun h0 => by simp at h0⟩⟩, ⟨by simp, by simp⟩⟩
  · have hlm : len ≤ m := by rw [hmm]; split <;> omega
    have each : ∀ i : Fin len, ∃ v, (∃ c, c.length = d.sz ∧ d.K w v c ∧ ∀ j u, c[j]? = some u → w.cell? (a.add (i.1 * d.sz + j)) = some u) ∧ ok v := by
      rintro ⟨i, hi⟩
      obtain ⟨cs', h1, h2⟩ := hx i (by omega)
      obtain ⟨v, hv, hok⟩ := he _ _ _ h2
      obtain ⟨_, hlen, hcell⟩ := World.cells?_some h1
      refine ⟨v, ⟨cs', hlen.trans hc, hv, fun j u hj => ?_⟩, hok⟩
      have hj' : j < cs'.length := by
        rcases Nat.lt_or_ge j cs'.length with hlt | hge
        · exact hlt
        · rw [List.getElem?_eq_none hge] at hj; cases hj
      have := hcell j (by omega)
      rw [Go.Deep.add_add, hc] at this
      rw [this, hj]
    have hex := Classical.axiomOfChoice each
    obtain ⟨f, hf⟩ := hex
    have hlen : (List.ofFn f).length = len := List.length_ofFn
    have hmax : len ≤ 9223372036854775807 := by simp only [maxLen] at hm; omega
    refine ⟨List.ofFn f, ⟨some a, cap, by rw [hlen], by rw [hlen]; exact hl, ⟨rfl, by rw [hlen]; omega, fun _ => ⟨a, rfl, ?_⟩⟩⟩, ⟨by rw [hlen]; exact hmax, ?_⟩⟩
    · intro j p hj
      obtain ⟨hlt, hp⟩ := List.getElem?_eq_some_iff.1 hj
      have hlt' : j < len := by rw [hlen] at hlt; exact hlt
      rw [List.getElem_ofFn] at hp
      subst hp
      exact (hf ⟨j, hlt'⟩).1
    · intro y hy
      obtain ⟨i, hi⟩ := List.mem_ofFn.1 hy
      rw [← hi]
      exact (hf i).2
/-- Two neighbours in a struct's cells. -/
theorem pair_at {α β : Type} {a : Kd α} {b : Kd β} {x : α} {y : β} {cs : List Value} {o n1 n2 : Nat} (h1 : a.K w x ((cs.drop o).take n1)) (h2 : b.K w y ((cs.drop (o + n1)).take n2)) : (Kd.pair a b).K w (x, y) ((cs.drop o).take (n1 + n2)) := by
  refine ⟨_, _, ?_, h1, h2⟩
  rw [List.take_add, List.drop_drop]
/-- A struct's field's reading. -/
theorem field_at {t : TypeId} {fs : Array Field} {fuel : Nat} {cs : List Value} {x : DataW H × List MemPlace} (ht : P.underlying t = some (.struct fs)) (h : DataW.trod enc P w base spare held fuel t cs = some x) (i : Nat) (f : Field) (hf : fs[i]? = some f) :
    ∃ n y, DataW.trod enc P w base spare held n f.type ((cs.drop f.offset).take (P.cellsOf f.type)) = some y := by
  obtain ⟨xs, n, _, _, _, hlen, hf'⟩ := DataW.trod_struct ht h
  have hi : i < xs.length := by
    rcases Nat.lt_or_ge i fs.size with hlt | hge
    · omega
    · rw [Array.getElem?_eq_none hge] at hf; cases hf
  exact ⟨n, xs[i], (hf' i f hf).trans (List.getElem?_eq_getElem hi)⟩
theorem field_is {t : TypeId} {fs : Array Field} {fuel : Nat} {cs : List Value} {x : DataW H × List MemPlace} (ht : P.underlying t = some (.struct fs)) (h : DataW.trod enc P w base spare held fuel t cs = some x) (i tt off n : Nat)
    (hf : (fs[i]?).map (fun f => (f.type, f.offset)) = some (tt, off)) (hc : P.cellsOf tt = n) : ∃ m y, DataW.trod enc P w base spare held m tt ((cs.drop off).take n) = some y := by
  obtain ⟨f, h1, h2⟩ := Option.map_eq_some_iff.1 hf
  obtain ⟨m, y, h3⟩ := field_at ht h i f h1
  injection h2 with h4 h5
  subst h4 h5 hc
  exact ⟨m, y, h3⟩
theorem struct_len {t : TypeId} {fs : Array Field} {fuel : Nat} {cs : List Value} {x : DataW H × List MemPlace} (ht : P.underlying t = some (.struct fs)) (h : DataW.trod enc P w base spare held fuel t cs = some x) : cs.length = P.cellsOf t := by
  obtain ⟨xs, n, _, _, hl, _, _⟩ := DataW.trod_struct ht h
  exact hl
theorem whole_take {cs : List Value} {n : Nat} (h : cs.length = n) : (cs.drop 0).take n = cs := by
  rw [List.drop_zero, ← h, List.take_length]
theorem open_slice_arg {t : TypeId} {q : Nat} {α : Type} {d : Kd α} {ok : α → Prop} (op : Opens enc P w base spare held t (Kd.slice q d) (ListOk ok)) {A : Option Addr} {n c : Nat} {dd : DataW H} {ps : List MemPlace}
    (h : DataW.Trod enc P w base spare held t (.slice A n c) dd ps) : ∃ l : List α, l.length ≤ c ∧ d.C w A l.length l ∧ ListOk ok l ∧ n = l.length := by
  obtain ⟨fuel, hf⟩ := h
  obtain ⟨l, ⟨A', c', e, hc, hr⟩, hok⟩ := op fuel _ _ hf
  have e' : [Value.slice A n c] = [Value.slice A' l.length c'] := by simpa [Value.cells] using e
  injection e' with e' _
  injection e' with e1 e2 e3
  subst e1 e3
  exact ⟨l, hc, hr, hok, e2⟩
end
end Go.Proofs.Ytblidfmhlhhmkaa.Opn
