/- slices.Delete of one element of a row of the call's own (structs of @W@ numbers), and contradict.without. -/
import Derived.Test.YtfbjpdiaicaagaaContradictImpliedsn8
import Derived.Lib.SliceRun
import Derived.Shelf.RegionOpenPlain
namespace Go.Proofs.Ytfbjpdiaicaagaa.PAll
open Go.RowKit Go.Proofs.YtfbjpdiaicaagaaW.PrintWords Go.Proofs.YtfbjpdiaicaagaaW.PrintLast Go.Proofs.YtfbjpdiaicaagaaW.PrintMore Go.Proofs.Ytfbjpdiaicaagaa.More2
attribute [local go_sem] max2_int min2_int max_two min_two max_three min_three max_four min_four tdiv2e18_ tdiv1e18_ cellSS_
set_option linter.unusedVariables false
set_option linter.unusedSimpArgs false
section
variable {P : Program} {α : Type}
/-- clear of one element behind a row of the call's own: the row stays as it is. -/
theorem R_clear_run (d : Kd α) {W : World} (base : Nat) (t ty e : TypeId) (z : Value) (ht : P.underlying t = some (.slice e)) (hv : ∀ w, (zeroValue e).run P w = .ok z w) (zs : List Value) (hz : (Builtin.zeroCells z.cells 1).toList = zs) (hzl : zs.length = d.sz) (hz1 : ∀ u ∈ zs, u.oneCell' = true)
    {g n c : Nat} {xs : List α} {ok : Nat → Prop} (HO : d.R e W base ok (.slice (some ⟨g, 0, none⟩) n c) xs) (hc : n + 1 ≤ c) :
    ∃ w1, (∀ cc, (Builtin.clear_ #[t] ty #[.slice (some ⟨g, n * d.sz, none⟩) 1 cc]).run P W = .ok (.tuple #[]) w1) ∧ d.R e w1 base ok (.slice (some ⟨g, 0, none⟩) n c) xs ∧ W.grownBy w1 (some g) := by
  obtain ⟨hn, hnc, _⟩ := Kd.R_reads' HO
  obtain ⟨hok, inner, hown, hr⟩ := HO
  rcases hown.2 with ⟨hv', _⟩ | ⟨g', cap', cur, hv', hb, hh, hle, hcm, hcs, htake⟩
  · cases hv'
  injection hv' with ha hn' hc'
  injection ha with ha
  injection ha with hg
  subst hg; subst hc'
  have hks : (n + 1) * d.sz = n * d.sz + d.sz := Nat.succ_mul _ _
  have hle2 : (n + 1) * d.sz ≤ c * d.sz := Nat.mul_le_mul_right _ hc
  have hfit : n * d.sz + zs.length ≤ cur.size := by omega
  have hst := run_storeCells_cells (P := P) g (n * d.sz) zs 0 W (fun j hj => by rw [cell_of_row W g _ cur e (0, 0) hh]; simp; omega) (fun j _ => blk_frozen hh _) hz1
  rw [Nat.add_zero] at hst
  obtain ⟨cur', h3, h4, h5⟩ := setCells_row zs (n * d.sz) W cur hh hfit
  obtain ⟨s1, s2, s3, s4⟩ := setCells_same g zs (n * d.sz) W
  have hfar : ∀ k', k' ≠ g → (W.setCells g (n * d.sz) zs).heap[k']? = W.heap[k']? := fun k' hk' => setCells_far zs _ k' hk'
  refine ⟨W.setCells g (n * d.sz) zs, ?_, ⟨hok, inner, ⟨hown.1, .inr ⟨g, c, cur', by rw [hn'], hb, h3, hle, hcm, by rw [h4, hcs], ?_⟩⟩, ?_⟩, ⟨s1, s2, s3, by rw [s4]; exact Nat.le_refl _, fun k' _ hk' => hfar k' (fun he => hk' (by rw [he]))⟩⟩
  · intro cc; simp [Builtin.clear_, run_underlying ht, hv, hz, hst]
  · rw [h5, ← hn', List.append_assoc, List.take_append_of_le_length (by rw [List.length_take, Array.length_toList]; omega), List.take_take, Nat.min_self, ← htake, ← hn']
  · exact hr.imp_ fun p q hp => d.M_move (fun k' hk' => hfar k' (fun he => hk'.2 (by rw [he]; simp [Value.ownBlock]))) hp
end
theorem zero43 : ∀ w, (zeroValue 43).run Try.prog w = .ok (.agg #[.int .i64 0, .int .i64 0, .int .i64 0, .int .i64 0]) w := fun w => by
  kernel_rfl
set_option maxHeartbeats 8000000 in
set_option maxRecDepth 100000 in
/-- slices.Delete of one element of a row of the call's own. -/
theorem delete_calls (base : Nat) (w0 w : World) (g c i n : Nat) (xs : List S43) (HB : Below base w0 w) (hbase : base ≤ w.heap.size) (HO : Kd.R k43 43 w base (fun _ => True) (.slice (some ⟨g, 0, none⟩) (n + 1) c) xs) (hi : i < n + 1) (hc : c ≤ 9223372036854775807) (hlc : n + 1 ≤ c) :
    Calls Try.prog 31 #[.slice (some ⟨g, 0, none⟩) (n + 1) c, .int .i64 (i : Int), .int .i64 ((i + 1 : Nat) : Int)] w fun e w' => e = .returned (.slice (some ⟨g, 0, none⟩) n c) ∧ Kd.R k43 43 w' base (fun _ => True) (.slice (some ⟨g, 0, none⟩) n c) (xs.eraseIdx i) ∧ Below base w0 w' := by
  have A1 := Aside0.mk HO
  have A2 := Aside0.mk HB
  clear HO HB
  go_enter Try.func31, Try.ntmps31
  have mixed : Try.prog.follows Departure.mixedOrders = true := by kernel_rfl
  have hic : i ≤ c := by omega
  have hjc : i + 1 ≤ c := by omega
  have z1 : (0 : Int) ≤ (i : Int) + 1 := by omega
  have z2 : (i : Int) + 1 ≤ (n : Int) + 1 := by omega
  have z3 : (0 : Int) ≤ (i : Int) + 1 ∧ (i : Int) + 1 ≤ (n : Int) + 1 := ⟨z1, z2⟩
  have z4 : n ≤ c := by omega
  have z5 : c ≠ n := by omega
  have z6 : n + 1 - n = 1 := by omega
  have hAd : (if c = i + 1 then some (⟨g, 0, none⟩ : Addr) else some ⟨g, (i + 1) * 4, none⟩) = if c = i + 1 then some ⟨g, 0, none⟩ else (some (⟨g, 0, none⟩ : Addr)).map (·.add ((i + 1) * k43.sz)) := by
    show _ = if c = i + 1 then some ⟨g, 0, none⟩ else some ((⟨g, 0, none⟩ : Addr).add ((i + 1) * 4))
    rw [add_at, Nat.zero_add]
  have A3 := Aside0.mk hAd
  clear hAd
  go_wp2_with fail
  go_region_law_o (refine Kd.R_delete_step k43 (w0 := w0) base (by rfl) (.tmp 22) (.tmp 25) 22 43 rfl Try.underlying22 (by kernel_rfl) (g := g) (n := n + 1) (c := c) (k := i) (by simp [Act.eval, Act.put]) (A := if c = i + 1 then some ⟨g, 0, none⟩ else some ⟨g, (i + 1) * 4, none⟩) (m := n + 1 - (i + 1)) (c2 := c - (i + 1)) (by simp [Act.eval, Act.put]) A3.out rfl (by (with_reducible repeat (first | apply Kd.R_drewN | apply Kd.R_drew)); exact A1.out) hi (by repeat (first | (with_reducible first | exact A2.out | apply below_drew1) | exact A2.out)) (by exact hbase) ?_; intro w1 ho hb hg; have C1 := Aside0.mk ho; have C2 := Aside0.mk hb; have C3 := Aside0.mk (Nat.le_trans (show base ≤ w.drew.heap.size from hbase) hg.size); clear ho hb hg)
  go_wp2_with fail
  all_goals
    obtain ⟨w2, hr, ho, hg⟩ := R_clear_run (P := Try.prog) k43 base 22 0 43 _ Try.underlying22 zero43 [.int .i64 0, .int .i64 0, .int .i64 0, .int .i64 0] (by kernel_rfl) rfl (by intro u hu; simp at hu; subst hu; rfl) C1.out hlc
    have D1 := Aside0.mk ho
    have D2 := Aside0.mk (C2.out.grown hg C3.out (fun k hk => by injection hk with hk; subst hk; exact Kd.R_base C1.out _ (by simp [Value.ownBlock])))
    clear ho hg
    have hr' : ∀ cc, (Builtin.clear_ #[22] 0 #[.slice (some ⟨g, n * 4, none⟩) 1 cc]).run Try.prog w1 = .ok (.tuple #[]) w2 := hr
    rw [hr']
    clear hr hr'
    go_wp2
    go_ret
    refine ⟨?_, D1.out, D2.out⟩
    first
      | rfl
      | (show Ending.returned (Value.slice (some { block := g, off := 0 }) n _) = _; congr 2; omega)
def contradict_without.f (k : Nat) (l0 : List S43) (a1 : Int) : Option (List S43) := if 0 ≤ a1 ∧ a1 < (l0.length : Int) ∧ l0.length < 4398046511104 then some (l0.eraseIdx a1.toNat) else none
theorem contradict_without.mono : ∀ a0 a1 k, LeO (contradict_without.f k a0 a1) (contradict_without.f (k + 1) a0 a1) := fun _ _ _ => LeO.refl _
set_option maxHeartbeats 8000000 in
set_option maxRecDepth 100000 in
theorem contradict_without.calls (k : Nat) (A0 : Option Addr) (c0 : Nat) (l0 : List (S43)) (a1 : Int) (r : List (S43)) (w : World) (hr0 : Kd.C k43 w A0 l0.length l0) (hc0 : l0.length ≤ c0) (h : contradict_without.f k l0 a1 = some r) :
    Calls Try.prog 30 #[.slice A0 l0.length c0, .int .i64 a1] w fun e w' => ∃ v0_ : Value, e = .returned (v0_) ∧ Kd.R k43 43 w' w.heap.size (fun _ => True) v0_ r ∧ Below w.heap.size w w' := by
  unfold contradict_without.f at h
  by_cases c : 0 ≤ a1 ∧ a1 < (l0.length : Int) ∧ l0.length < 4398046511104
  · rw [if_pos c] at h
    obtain rfl := Option.some.inj h
    clear h
    obtain ⟨h0, h1, h2⟩ := c
    obtain ⟨i, rfl⟩ : ∃ i : Nat, a1 = i := ⟨a1.toNat, by omega⟩
    obtain ⟨n, hn⟩ : ∃ n, l0.length = n + 1 := ⟨l0.length - 1, by omega⟩
    have hcl := api_ChronBound_29.calls A0 c0 l0 l0 w hr0 hc0 (by unfold api_ChronBound_29.f; rw [Option.bind_some, if_pos (by simp; omega)]; rfl)
    rw [hn] at hcl ⊢
    have A1 := Aside0.mk hcl
    clear hcl
    have hw : wrap64 ((i : Int) + 1) = ((i + 1 : Nat) : Int) := by unfold wrap64; omega
    go_enter Try.func30, Try.ntmps30
    go_wp2_with fail
    refine A1.out.mono ?_
    rintro e w1 ⟨v0, rfl, ho, hb⟩
    obtain ⟨g, cap, rfl, hle, hmx⟩ : ∃ g cap, v0 = .slice (some ⟨g, 0, none⟩) (n + 1) cap ∧ n + 1 ≤ cap ∧ cap ≤ 9223372036854775807 := by
      obtain ⟨_, inner, hown, _⟩ := ho
      rcases hown.2 with ⟨_, h0⟩ | ⟨g, cap, cur, hv, _, _, h3, h4, _⟩
      · omega
      · refine ⟨g, cap, by rw [hv, hn], by omega, ?_⟩
        have : maxLen ≤ 9223372036854775807 := by decide
        omega
    have B1 := Aside0.mk ho
    have B2 := Aside0.mk hb
    have hsz := Aside0.mk (below_size hb)
    clear ho hb A1
    go_wp2_with fail
    refine (delete_calls w.heap.size w w1 g cap i n l0 B2.out hsz.out B1.out (by omega) hmx hle).mono ?_
    rintro e w2 ⟨rfl, ho, hb⟩
    have D1 := Aside0.mk ho
    have D2 := Aside0.mk hb
    clear ho hb
    go_wp2
    go_ret
    exact ⟨_, rfl, D1.out, D2.out⟩
  · rw [if_neg c] at h; cases h
end Go.Proofs.Ytfbjpdiaicaagaa.PAll
