/- Opening an argument as data: what the reading of a value's cells tells, kind by kind; lemmas for the rows of this seat. -/
import Derived.Test.YtedakilpogagiaaSharpenEarliersn0
import Derived.Deep.Slices
import Derived.ChangeArms
import Derived.SizedLaws
namespace Go.Proofs.Ytedakilpogagiaa.Opn
open Go.RowKit YtedakilpogagiaaW.PrintWords Go.ChangeShapes Go.WideShapes
def I64 (n : Int) : Prop := -9223372036854775808 ≤ n ∧ n ≤ 9223372036854775807
theorem i64_of {n : Int} (hn : (Lit.int .i64 n).wf = true) : I64 n := by
 simp only [Lit.wf, IntKind.min, IntKind.max, IntKind.signed, IntKind.bits, Bool.and_eq_true, decide_eq_true_eq, if_true] at hn
 unfold I64
 omega
section
variable {H : Type} {enc : TypeId × Value → H} {P : Program} {w : World} {base : Nat} {spare : Nat → Bool} {held : Bool}
def Opens (enc : TypeId × Value → H) (P : Program) (w : World) (base : Nat) (spare : Nat → Bool) (held : Bool) (t : TypeId) {α : Type} (d : Kd α) (ok : α → Prop) : Prop :=
 ∀ (fuel : Nat) (cs : List Value) (x : DataW H × List MemPlace), DataW.trod enc P w base spare held fuel t cs = some x → ∃ v, d.K w v cs ∧ ok v
theorem opens_int {t : TypeId} (ht : P.underlying t = some (.int .i64)) : Opens enc P w base spare held t (Kd.int .i64) I64 := by
 intro fuel cs x h
 obtain ⟨n, rfl, _, hn⟩ := DataW.trod_int ht h
 exact ⟨n, rfl, i64_of hn⟩
theorem pair_at {α β : Type} {a : Kd α} {b : Kd β} {x : α} {y : β} {cs : List Value} {o n1 n2 : Nat} (h1 : a.K w x ((cs.drop o).take n1)) (h2 : b.K w y ((cs.drop (o + n1)).take n2)) : (Kd.pair a b).K w (x, y) ((cs.drop o).take (n1 + n2)) := by
 refine ⟨_, _, ?_, h1, h2⟩
 rw [List.take_add, List.drop_drop]
theorem field_at {t : TypeId} {fs : Array Field} {fuel : Nat} {cs : List Value} {x : DataW H × List MemPlace} (ht : P.underlying t = some (.struct fs)) (h : DataW.trod enc P w base spare held fuel t cs = some x) (i : Nat) (f : Field) (hf : fs[i]? = some f) :
  ∃ n y, DataW.trod enc P w base spare held n f.type ((cs.drop f.offset).take (P.cellsOf f.type)) = some y := by
 obtain ⟨xs, n, _, _, _, hlen, hf'⟩ := DataW.trod_struct ht h
 have hi : i < xs.length := by
  rcases Nat.lt_or_ge i fs.size with hlt | hge
  ·omega
  ·rw [Array.getElem?_eq_none hge] at hf; cases hf
 exact ⟨n, xs[i], (hf' i f hf).trans (List.getElem?_eq_getElem hi)⟩
theorem field_is {t : TypeId} {fs : Array Field} {fuel : Nat} {cs : List Value} {x : DataW H × List MemPlace} (ht : P.underlying t = some (.struct fs)) (h : DataW.trod enc P w base spare held fuel t cs = some x) (i tt off n : Nat)
  (hf : (fs[i]?).map (fun f => (f.type, f.offset)) = some (tt, off)) (hc : P.cellsOf tt = n) : ∃ m y, DataW.trod enc P w base spare held m tt ((cs.drop off).take n) = some y := by
 obtain ⟨f, h1, h2⟩ := Option.map_eq_some_iff.1 hf
 obtain ⟨m, y, h3⟩ := field_at ht h i f h1
 injection h2 with h4 h5
 subst h4 h5 hc
 exact ⟨m, y, h3⟩
theorem struct_len {t : TypeId} {fs : Array Field} {fuel : Nat} {cs : List Value} {x : DataW H × List MemPlace} (ht : P.underlying t = some (.struct fs)) (h : DataW.trod enc P w base spare held fuel t cs = some x) : cs.length = P.cellsOf t := by
 obtain ⟨xs, n, _, _, hl, _, _⟩ := DataW.trod_struct ht h
 exact hl
theorem whole_take {cs : List Value} {n : Nat} (h : cs.length = n) : (cs.drop 0).take n = cs := by
 rw [List.drop_zero, ← h, List.take_length]
theorem open_struct_arg {t : TypeId} {α : Type} {d : Kd α} {ok : α → Prop} (op : Opens enc P w base spare held t d ok) {g : Array Value} {dd : DataW H} {ps : List MemPlace}
  (h : DataW.Trod enc P w base spare held t (.agg g) dd ps) : ∃ s : α, d.K w s g.toList ∧ ok s := by
 obtain ⟨fuel, hf⟩ := h
 exact op fuel _ _ (by simpa [Value.cells] using hf)
end
end Go.Proofs.Ytedakilpogagiaa.Opn
