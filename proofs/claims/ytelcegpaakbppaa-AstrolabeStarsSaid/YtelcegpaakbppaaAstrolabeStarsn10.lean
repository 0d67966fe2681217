/- A word that names numbers in the executor's trees, and an executor that names what it is told to. -/
import Derived.Test.YtelcegpaakbppaaAstrolabeStarsn6
import Derived.Test.YtelcegpaakbppaaAstrolabeStarsn0
set_option linter.unusedVariables false
set_option linter.unusedSimpArgs false
namespace Go.Proofs.Ytelcegpaakbppaa.Sx
open Go Go.RowKit Go.Proofs.YtelcegpaakbppaaW.PrintWords
/-- a number that is named -/
def ol {β : Type} (a : Int) (f : Int → Option β) : Option β := f a
theorem ol_eq {β : Type} (a : Int) (f : Int → Option β) : ol a f = f a := rfl
theorem ol_goal {β : Type} {a : Int} {f : Int → Option β} {P : β → Prop} (h : ∀ n, n = a → ∃ r, f n = some r ∧ P r) : ∃ r, ol a f = some r ∧ P r := h a rfl
theorem LeO.ol {β : Type} {a : Int} {f g : Int → Option β} (h : ∀ n, LeO (f n) (g n)) : LeO (ol a f) (ol a g) := h a
abbrev Hook (R : Type) := Nat → List Value → Mem → (List Value → Mem → Option R) → Option R
abbrev Named (R : Type) := Int → (Int → Option R) → Option R
section
variable {R : Type}
def nmS (o : Named R) : List Nat → List Value → (List Value → Option R) → Option R
  | [], t, K => K t
  | s :: l, t, K => match t[s]? with
    | some (.int k n) => o n (fun n => nmS o l (t.set s (.int k n)) K)
    | _ => nmS o l t K
def nmB (o : Named R) : List Nat → Blk → (Blk → Option R) → Option R
  | [], b, K => K b
  | i :: l, ⟨cs, e, ow⟩, K => match cs[i]? with
    | some (.int k n) => o n (fun n => nmB o l ⟨cs.set i (.int k n), e, ow⟩ K)
    | _ => nmB o l ⟨cs, e, ow⟩ K
def nmM (o : Named R) : List (Nat × List Nat) → Mem → (Mem → Option R) → Option R
  | [], m, K => K m
  | (b, l) :: q, m, K => match m[b]? with
    | some k => nmB o l k (fun k' => nmM o q (m.set b k') K)
    | none => nmM o q m K
/-- what is named at the end of a region: of each region its slots, and of its blocks their cells -/
def hook (o : Named R) (spec : List (Nat × List Nat × List (Nat × List Nat))) : Hook R := fun id t m K =>
  match spec.lookup id with
  | some (s, c) => nmS o s t fun t => nmM o c m fun m => K t m
  | none => K t m
theorem nmS_eq : ∀ (l : List Nat) (t : List Value) (K : List Value → Option R), nmS ol l t K = K t
  | [], t, K => rfl
  | s :: l, t, K => by
    unfold nmS
    split
    · rename_i k n h
      rw [ol_eq, nmS_eq l, set_same h]
    · exact nmS_eq l t K
theorem nmB_eq : ∀ (l : List Nat) (b : Blk) (K : Blk → Option R), nmB ol l b K = K b
  | [], b, K => rfl
  | i :: l, ⟨cs, e, ow⟩, K => by
    unfold nmB
    split
    · rename_i k n h
      rw [ol_eq, nmB_eq l, set_same h]
    · exact nmB_eq l _ K
theorem nmM_eq : ∀ (l : List (Nat × List Nat)) (m : Mem) (K : Mem → Option R), nmM ol l m K = K m
  | [], m, K => rfl
  | (b, l) :: q, m, K => by
    unfold nmM
    split
    · rename_i k h
      rw [nmB_eq l, nmM_eq q, set_same h]
    · exact nmM_eq q m K
theorem hook_eq (spec : List (Nat × List Nat × List (Nat × List Nat))) (id : Nat) (t : List Value) (m : Mem) (K : List Value → Mem → Option R) : hook ol spec id t m K = K t m := by
  unfold hook
  split
  · rw [nmS_eq, nmM_eq]
  · rfl
/-- the executor that names -/
def runNm {R : Type} (P : Program) (O : Ora R) (D : Array Oper → List Value → Mem → (List Value → Mem → Option R) → Option R) (L : Nat → Option (List Nat × Nat × LoopF R)) (H : Hook R) (E : Ex → List Value → Mem → Option R) :
    Nat → List Item → List Value → Mem → Option R
  | 0, _, _, _ => none
  | n + 1, todo, t, m =>
    match todo with
    | [] => E .normal t m
    | .code .ret :: _ => E .ret t m
    | .code .skip :: k => runNm P O D L H E n k t m
    | .code (.label _) :: k => runNm P O D L H E n k t m
    | .inBlock _ :: k => runNm P O D L H E n k t m
    | .code (.seq a b) :: k => runNm P O D L H E n (.code a :: .code b :: k) t m
    | .code (.cond c a b) :: k => (match ev t c with
      | .bool q => if q = true then runNm P O D L H E n (.code a :: k) t m else runNm P O D L H E n (.code b :: k) t m
      | _ => none)
    | .code (.block id c) :: k => runNm P O D L H E n (.code c :: .inBlock id :: k) t m
    | .code (.loop c) :: k => (match L (headId c) with
      | none => runNm P O D L H E n (.code c :: .inLoop c :: k) t m
      | some (live, len, f) => clean live len t m (fun t' m' => f t' m' (fun e t2 m2 => match e with
        | .normal => none
        | .ret => E .ret t2 m2
        | .exit id => (match exitTo id k with | some k' => runNm P O D L H E n k' t2 m2 | none => E (.exit id) t2 m2))))
    | .inLoop c :: k => (match L (headId c) with
      | none => runNm P O D L H E n (.code c :: .inLoop c :: k) t m
      | some (live, len, f) => clean live len t m (fun t' m' => f t' m' (fun e t2 m2 => match e with
        | .normal => none
        | .ret => E .ret t2 m2
        | .exit id => (match exitTo id k with | some k' => runNm P O D L H E n k' t2 m2 | none => E (.exit id) t2 m2))))
    | .code (.exit id) :: k => (match exitTo id k with | some k' => runNm P O D L H E n k' t m | none => E (.exit id) t m)
    | .code (.region id ops draw) :: k =>
      if draw = true then D ops t m (fun t' m' => forceL t' fun t' => forceM m' fun m' => H id t' m' fun t' m' => forceL t' fun t' => forceM m' fun m' => runNm P O D L H E n k t' m')
      else runOps P O ops ops.toList t m (fun t' m' => forceL t' fun t' => forceM m' fun m' => H id t' m' fun t' m' => forceL t' fun t' => forceM m' fun m' => runNm P O D L H E n k t' m')
    | _ => none
theorem runNm_eq {P : Program} {O : Ora R} {D : Array Oper → List Value → Mem → (List Value → Mem → Option R) → Option R} {L : Nat → Option (List Nat × Nat × LoopF R)} {H : Hook R} {E : Ex → List Value → Mem → Option R}
    (hH : ∀ id t m K, H id t m K = K t m) : ∀ (n : Nat) (todo : List Item) (t : List Value) (m : Mem), runNm P O D L H E n todo t m = runM P O D L E n todo t m := by
  intro n
  induction n with
  | zero => intro todo t m; rfl
  | succ n ih =>
    intro todo t m
    unfold runNm runM
    simp only [ih, hH, forceL_eq, forceM_eq]
    rfl
end
end Go.Proofs.Ytelcegpaakbppaa.Sx
