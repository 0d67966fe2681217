/- Written by a program of this session: what one law needs. -/
import Derived.Test.YtedakilpogagiaaMoonAtsn14
set_option linter.unusedSimpArgs false
set_option linter.unusedVariables false
section
namespace Go.Proofs.Ytedakilpogagiaa.PAll
open Go.RowKit Go.Proofs.YtedakilpogagiaaW.PrintWords Go.Proofs.YtedakilpogagiaaW.PrintLast Go.Proofs.YtedakilpogagiaaW.PrintMore Go.Proofs.Ytedakilpogagiaa.More2 Go.Proofs.Ytedakilpogagiaa.Sq
attribute [local go_sem] max2_int min2_int max_two min_two max_three min_three max_four min_four tdiv2e18_ tdiv1e18_ cellSS_  -- for this text's walks alone
mutual
def interval_Mul.l0 : Nat → Int → Int → Int → Int → Int → Int → Int → Int → Int → Int → Int → Option (Int × Int × Int)
 | 0, _, _, _, _, _, _, _, _, _, _, _ => none
 | k + 1, x40, x992, x993, x994, x995, x996, x997, x998, x999, x173000, x173001 => if x40 < 4 then (if 0 ≤ x40 then ((interval_times.f k (rd [x999, x997, x995, x993] x40) (rd [x998, x996, x994, x992] x40)).bind fun bt174 => (if bt174.2 = true then (if x40 = 0 then (interval_Mul.j1 k x40 bt174.1 x40 true x992 x993 x994 x995 x996 x997 x998 x999 x173000 x173001) else (interval_Mul.j1 k x40 bt174.1 x40 (decide (bt174.1 < x173000)) x992 x993 x994 x995 x996 x997 x998 x999 x173000 x173001)) else (some (0, 0, 14)))) else (none)) else (some (x173000, x173001, 0))
def interval_Mul.j1 : Nat → Int → Int → Int → Bool → Int → Int → Int → Int → Int → Int → Int → Int → Int → Int → Option (Int × Int × Int)
 | 0, _, _, _, _, _, _, _, _, _, _, _, _, _, _ => none
 | k + 1, x8, x10, x40, x62, x992, x993, x994, x995, x996, x997, x998, x999, x173000, x173001 => if x62 = true then (if x8 = 0 then (interval_Mul.l0 k (wrap64 (x40 + 1)) x992 x993 x994 x995 x996 x997 x998 x999 x10 x10) else (if x10 > x173001 then (interval_Mul.l0 k (wrap64 (x40 + 1)) x992 x993 x994 x995 x996 x997 x998 x999 x10 x10) else (interval_Mul.l0 k (wrap64 (x40 + 1)) x992 x993 x994 x995 x996 x997 x998 x999 x10 x173001))) else (if x8 = 0 then (interval_Mul.l0 k (wrap64 (x40 + 1)) x992 x993 x994 x995 x996 x997 x998 x999 x173000 x10) else (if x10 > x173001 then (interval_Mul.l0 k (wrap64 (x40 + 1)) x992 x993 x994 x995 x996 x997 x998 x999 x173000 x10) else (interval_Mul.l0 k (wrap64 (x40 + 1)) x992 x993 x994 x995 x996 x997 x998 x999 x173000 x173001)))
end
def interval_Mul.f (k : Nat) (a0_0 : Int) (a0_1 : Int) (a1_0 : Int) (a1_1 : Int) : Option (Int × Int × Int) := (interval_both.f k a0_0 a0_1 a1_0 a1_1).bind fun t171 => (if t171 = 0 then (interval_Mul.l0 k 0 a1_1 a0_1 a1_0 a0_1 a1_1 a0_0 a1_0 a0_0 0 0) else (some (0, 0, t171)))
set_option maxHeartbeats 8000000 in
set_option maxRecDepth 100000 in
theorem interval_Mul.calls (k : Nat) (a0_0 : Int) (a0_1 : Int) (a1_0 : Int) (a1_1 : Int) (r1 : Int) (r2 : Int) (r3 : Int) (w : World) (h : interval_Mul.f k a0_0 a0_1 a1_0 a1_1 = some (r1, r2, r3)) :
  Calls Try.prog 106 #[.agg #[.int .i64 a0_0, .int .i64 a0_1], .agg #[.int .i64 a1_0, .int .i64 a1_1]] w fun e w' => e = .returned (.tuple #[.agg #[.int .i64 r1, .int .i64 r2], .int .i64 r3]) ∧ Below w.heap.size w w' := by
 have hu23 := Try.underlying23
 have hu90 := Try.underlying90
 have hu99 := Try.underlying99
 have HB := Aside0.mk (Below.refl w.heap.size w)
 have H : ((interval_both.f k a0_0 a0_1 a1_0 a1_1).bind fun t171 => (if t171 = 0 then (interval_Mul.l0 k 0 a1_1 a0_1 a1_0 a0_1 a1_1 a0_0 a1_0 a0_0 0 0) else (some (0, 0, t171)))) = some (r1, r2, r3) := h
 clear h
 replace H := Option.bind_eq_some_iff.mp H
 obtain ⟨t171, A30, H⟩ := H
 replace H : (if t171 = 0 then (interval_Mul.l0 k 0 a1_1 a0_1 a1_0 a0_1 a1_1 a0_0 a1_0 a0_0 0 0) else (some (0, 0, t171))) = some (r1, r2, r3) := H
 have A3 := Aside0.mk A30
 clear A30
 have HC4 := Aside0.mk H
 clear H
 go_enter Try.func106, Try.ntmps106
 go_upto_if 16 with (first | ((with_reducible refine gate_dst (N := 2) rfl ?_); refine box_event ?hg (N := 2) ?hd (cs := #[.int .i64 a0_0, .int .i64 a0_1]) (t := 23) ?hr ?_; (case hd => rfl); (case hg => rfl); (case hr => first | (go_simp; done) | (go_simp; rfl)); intro gb168 hg w5 hbox hb; have BK168 := Aside0.mk (hbox); have GW168 := ge_ hg HB; have GE168 := ge_ hg HB; replace HB := bs_ HB hb; clear hb hbox hg) | ((with_reducible refine gate_dst (N := 3) rfl ?_); refine box_event ?hg (N := 3) ?hd (cs := #[.int .i64 a1_0, .int .i64 a1_1]) (t := 23) ?hr ?_; (case hd => rfl); (case hg => rfl); (case hr => first | (go_simp; done) | (go_simp; rfl)); intro gb169 hg w6 hbox hb; have BK169 := Aside0.mk (hbox); have GW169 := ge_ hg HB; have GE169 := ge_ hg HB; have NB168_169 := nl_ hg BK168; have NB169_168 := ng_ hg BK168; replace BK168 := kb_ BK168 hb; replace HB := bs_ HB hb; clear hb hbox hg) | ((with_reducible refine gate_dst (N := 4) rfl ?_); refine box_event ?hg (N := 4) ?hd (cs := #[.int .i64 0, .int .i64 0]) (t := 23) ?hr ?_; (case hd => rfl); (case hg => rfl); (case hr => first | (go_simp; done) | (go_simp; rfl)); intro gb170 hg w7 hbox hb; have BK170 := Aside0.mk (hbox); have GW170 := ge_ hg HB; have GE170 := ge_ hg HB; have NB168_170 := nl_ hg BK168; have NB170_168 := ng_ hg BK168; have NB169_170 := nl_ hg BK169; have NB170_169 := ng_ hg BK169; replace BK168 := kb_ BK168 hb; replace BK169 := kb_ BK169 hb; replace HB := bs_ HB hb; clear hb hbox hg; have hnb8 := NB168_169.out; have hnc8 := NB169_168.out; have hnb9 := NB168_170.out; have hnc9 := NB170_168.out; have hcz10_0 : w7.cell? ⟨gb168, 0, none⟩ = some (.int .i64 a0_0) := (blk_cell BK168.out 0).trans rfl; have hcz10_1 : w7.cell? ⟨gb168, 1, none⟩ = some (.int .i64 a0_1) := (blk_cell BK168.out 1).trans rfl; have hfz10_0 := blk_frozen BK168.out 0; have hfz10_1 := blk_frozen BK168.out 1; have hnb11 := NB169_170.out; have hnc11 := NB170_169.out; have hcz12_0 : w7.cell? ⟨gb169, 0, none⟩ = some (.int .i64 a1_0) := (blk_cell BK169.out 0).trans rfl; have hcz12_1 : w7.cell? ⟨gb169, 1, none⟩ = some (.int .i64 a1_1) := (blk_cell BK169.out 1).trans rfl; have hfz12_0 := blk_frozen BK169.out 0; have hfz12_1 := blk_frozen BK169.out 1) | ((with_reducible refine gate_callee (f := 129) rfl ?_); refine goesL_ (some 14) rfl rfl Try.func129 (by kernel_rfl) rfl #[.agg #[.int .i64 a0_0, .int .i64 a0_1], .agg #[.int .i64 a1_0, .int .i64 a1_1]] rfl (by (try simp only [List.map_toArray, List.map_cons, List.map_nil]); first | done | rfl | (simp only [List.length_drop, List.length_take]; rfl)) ?_; (with_reducible refine (interval_both.calls k a0_0 a0_1 a1_0 a1_1 t171 _ A3.out).mono ?_); rintro e w13 ⟨rfl, hb⟩; refine ⟨_, rfl, ?_⟩; replace BK168 := kb_ BK168 hb; replace BK169 := kb_ BK169 hb; replace BK170 := kb_ BK170 hb; replace HB := bs_ HB hb; (try clear hb); (try clear hb2); (try clear hk); (try clear hi)))
 (try simp only [Act.put, List.setIfInBounds_toArray, List.set_cons_zero, List.set_cons_succ])
 have H := HC4.out
 clear HC4
 by_cases c14 : t171 = 0
 ·rw [if_pos c14] at H
  have c14b0 : (t171 == 0) = true := beq_iff_eq.mpr c14
  have c14b1 : (t171 != 0) = false := bne_eq_false_iff_eq.mpr c14
  clear c14
  (first | rw [c14b0] | (simp only [i64_w, i32_w]; rw [c14b0]) | skip)
  have H' := Aside0.mk H
  clear H
  go_wp2_with (first | ((with_reducible refine gate_dst (N := 7) rfl ?_); refine box_event ?hg (N := 7) ?hd (cs := #[.int .i64 0, .int .i64 0]) (t := 23) ?hr ?_; (case hd => rfl); (case hg => rfl); (case hr => first | (go_simp; done) | (go_simp; rfl)); intro gb172 hg w15 hbox hb; have BK172 := Aside0.mk (hbox); have GW172 := ge_ hg HB; have GE172 := ge_ hg HB; have NB168_172 := nl_ hg BK168; have NB172_168 := ng_ hg BK168; have NB169_172 := nl_ hg BK169; have NB172_169 := ng_ hg BK169; have NB170_172 := nl_ hg BK170; have NB172_170 := ng_ hg BK170; replace BK168 := kb_ BK168 hb; replace BK169 := kb_ BK169 hb; replace BK170 := kb_ BK170 hb; replace HB := bs_ HB hb; clear hb hbox hg; have hnb16 := NB168_169.out; have hnc16 := NB169_168.out; have hnb17 := NB168_170.out; have hnc17 := NB170_168.out; have hnb18 := NB168_172.out; have hnc18 := NB172_168.out; have hcz19_0 : w15.cell? ⟨gb168, 0, none⟩ = some (.int .i64 a0_0) := (blk_cell BK168.out 0).trans rfl; have hcz19_1 : w15.cell? ⟨gb168, 1, none⟩ = some (.int .i64 a0_1) := (blk_cell BK168.out 1).trans rfl; have hfz19_0 := blk_frozen BK168.out 0; have hfz19_1 := blk_frozen BK168.out 1; have hnb20 := NB169_170.out; have hnc20 := NB170_169.out; have hnb21 := NB169_172.out; have hnc21 := NB172_169.out; have hcz22_0 : w15.cell? ⟨gb169, 0, none⟩ = some (.int .i64 a1_0) := (blk_cell BK169.out 0).trans rfl; have hcz22_1 : w15.cell? ⟨gb169, 1, none⟩ = some (.int .i64 a1_1) := (blk_cell BK169.out 1).trans rfl; have hfz22_0 := blk_frozen BK169.out 0; have hfz22_1 := blk_frozen BK169.out 1))
  go_loopg [40] k (fun kq v40 w' => ∃ (x40_1 : Int) (x171000_1 : Int) (x171001_1 : Int) (x173000_1 : Int) (x173001_1 : Int), v40 = .int .i64 x40_1 ∧ Aside0 (interval_Mul.l0 kq x40_1 a1_1 a0_1 a1_0 a0_1 a1_1 a0_0 a1_0 a0_0 x173000_1 x173001_1 = some (r1, r2, r3)) ∧ Aside0 (kq ≤ k) ∧ Aside0 (w'.heap[gb168]? = some (.cells #[.int .i64 a0_0, .int .i64 a0_1] 23 (0, 0))) ∧ Aside0 (w'.heap[gb169]? = some (.cells #[.int .i64 a1_0, .int .i64 a1_1] 23 (0, 0))) ∧ Aside0 (w'.heap[gb170]? = some (.cells #[.int .i64 x171000_1, .int .i64 x171001_1] 23 (0, 0))) ∧ Aside0 (w'.heap[gb172]? = some (.cells #[.int .i64 x173000_1, .int .i64 x173001_1] 23 (0, 0))) ∧ Aside0 (Below w.heap.size w w'))
  case atStart => exact ⟨(0), (0), (0), (0), (0), (by first | rfl | (simp; done) | (simp [*]; done)), H', ⟨Nat.le_refl _⟩, ⟨kk_ BK168⟩, ⟨kk_ BK169⟩, ⟨kk_ BK170⟩, ⟨kk_ BK172⟩, (be_ HB)⟩
  case round =>
   clear H'
   try clear c1
   try clear c2
   try clear p2
   try clear c8
   try clear c9
   try clear c10
   try clear c11
   try clear c12
   try clear c14
   try clear c14b0
   try clear c14b1
   try clear c16
   try clear c17
   try clear c18
   try clear c20
   try clear c21
   try clear hcz10_0
   try clear hcz10_1
   try clear hcz12_0
   try clear hcz12_1
   try clear hcz19_0
   try clear hcz19_1
   try clear hcz22_0
   try clear hcz22_1
   try clear hfz10_0
   try clear hfz10_1
   try clear hfz12_0
   try clear hfz12_1
   try clear hfz19_0
   try clear hfz19_1
   try clear hfz22_0
   try clear hfz22_1
   obtain ⟨x40_1, x171000_1, x171001_1, x173000_1, x173001_1, rfl, HA, HK1, BK168, BK169, BK170, BK172, HB⟩ := hrel
   cases gk with
   | zero => exact absurd HA.out (by simp [interval_Mul.l0])
   | succ k1 =>
    have H := HA.out
    clear HA
    simp only [interval_Mul.l0] at H
    by_cases c23 : x40_1 < 4
    ·rw [if_pos c23] at H
     have c23b0 : decide (x40_1 < 4) = true := decide_eq_true c23
     clear c23
     by_cases c24 : 0 ≤ x40_1
     ·rw [if_pos c24] at H
      have c24b0 : decide (0 ≤ x40_1) = true := decide_eq_true c24
      clear c24
      replace H := Option.bind_eq_some_iff.mp H
      obtain ⟨⟨t174, t175⟩, A260, H⟩ := H
      replace H : (if t175 = true then (if x40_1 = 0 then (interval_Mul.j1 k1 x40_1 t174 x40_1 true a1_1 a0_1 a1_0 a0_1 a1_1 a0_0 a1_0 a0_0 x173000_1 x173001_1) else (interval_Mul.j1 k1 x40_1 t174 x40_1 (decide (t174 < x173000_1)) a1_1 a0_1 a1_0 a0_1 a1_1 a0_0 a1_0 a0_0 x173000_1 x173001_1)) else (some (0, 0, 14))) = some (r1, r2, r3) := H
      have A26 := Aside0.mk A260
      clear A260
      by_cases c27 : t175 = true
      ·subst c27
       have H1 : (if x40_1 = 0 then (interval_Mul.j1 k1 x40_1 t174 x40_1 true a1_1 a0_1 a1_0 a0_1 a1_1 a0_0 a1_0 a0_0 x173000_1 x173001_1) else (interval_Mul.j1 k1 x40_1 t174 x40_1 (decide (t174 < x173000_1)) a1_1 a0_1 a1_0 a0_1 a1_1 a0_0 a1_0 a0_0 x173000_1 x173001_1)) = some (r1, r2, r3) := by rw [if_pos rfl] at H; exact H
       clear H
       have H := H1
       clear H1
       have HC28 := Aside0.mk H
       clear H
       have p25 : 0 ≤ (x40_1 : Int) := of_decide_eq_true (by first | (with_reducible assumption) | assumption)
       have q25 : (x40_1 : Int) < (4 : Int) := of_decide_eq_true (by first | (with_reducible assumption) | assumption)
       have hx25 : ∀ W : World, (Instr.index 99 (.agg #[.int .i64 a0_0, .int .i64 a1_0, .int .i64 a0_0, .int .i64 a1_1, .int .i64 a0_1, .int .i64 a1_0, .int .i64 a0_1, .int .i64 a1_1]) (.int .i64 x40_1)).run Try.prog W = .ok (.agg #[.int .i64 (rd [a0_0, a0_0, a0_1, a0_1] x40_1), .int .i64 (rd [a1_0, a1_1, a1_0, a1_1] x40_1)]) W := fun W => arrIdx42_ Try.underlying99 Try.sizeOf90 Try.isAgg90 _ _ _ _ _ _ _ _ x40_1 p25 q25 W
       replace p25 := eq_true p25
       replace q25 := eq_true q25
       go_upto_region 11 with (first | ((with_reducible refine gate_dst (N := 9) rfl ?_); refine box_event ?hg (N := 9) ?hd (cs := #[.int .i64 0, .int .i64 0]) (t := 90) ?hr ?_; (case hd => rfl); (case hg => rfl); (case hr => first | (go_simp; done) | (go_simp; rfl)); intro gb173 hg w29 hbox hb; have BK173 := Aside0.mk (hbox); have GW173 := ge_ hg HB; have GE173 := ge_ hg HB; have NB168_173 := nl_ hg BK168; have NB173_168 := ng_ hg BK168; have NB169_173 := nl_ hg BK169; have NB173_169 := ng_ hg BK169; have NB170_173 := nl_ hg BK170; have NB173_170 := ng_ hg BK170; have NB172_173 := nl_ hg BK172; have NB173_172 := ng_ hg BK172; replace BK168 := kb_ BK168 hb; replace BK169 := kb_ BK169 hb; replace BK170 := kb_ BK170 hb; replace BK172 := kb_ BK172 hb; replace HB := bs_ HB hb; clear hb hbox hg; have hnb30 := NB173_168.out; have hnc30 := NB168_173.out; have hnb31 := NB173_169.out; have hnc31 := NB169_173.out; have hnb32 := NB173_170.out; have hnc32 := NB170_173.out; have hnb33 := NB173_172.out; have hnc33 := NB172_173.out; have hcz34_0 : w29.cell? ⟨gb173, 0, none⟩ = some (.int .i64 0) := (blk_cell BK173.out 0).trans rfl; have hcz34_1 : w29.cell? ⟨gb173, 1, none⟩ = some (.int .i64 0) := (blk_cell BK173.out 1).trans rfl; have hfz34_0 := blk_frozen BK173.out 0; have hfz34_1 := blk_frozen BK173.out 1) | ((with_reducible refine gate_callee (f := 130) rfl ?_); refine goesL_ (some 49) rfl rfl Try.func130 (by kernel_rfl) rfl #[.int .i64 (rd [a0_0, a0_0, a0_1, a0_1] x40_1), .int .i64 (rd [a1_0, a1_1, a1_0, a1_1] x40_1)] rfl (by (try simp only [List.map_toArray, List.map_cons, List.map_nil]); first | done | rfl | (simp only [List.length_drop, List.length_take]; rfl)) ?_; (with_reducible refine (interval_times.calls k1 (rd [a0_0, a0_0, a0_1, a0_1] x40_1) (rd [a1_0, a1_1, a1_0, a1_1] x40_1) t174 true _ A26.out).mono ?_); rintro e w' ⟨rfl, ⟨nd, rfl⟩⟩; refine ⟨_, rfl, ?_⟩))
       (try simp only [Act.put, List.setIfInBounds_toArray, List.set_cons_zero, List.set_cons_succ])
       go_cut [62] (fun v62 wc => ∃ (kq : Nat) (x62_27 : Bool), v62 = .bool x62_27 ∧ Aside0 (interval_Mul.j1 kq x40_1 t174 x40_1 x62_27 a1_1 a0_1 a1_0 a0_1 a1_1 a0_0 a1_0 a0_0 x173000_1 x173001_1 = some (r1, r2, r3)) ∧ Aside0 (kq ≤ k1) ∧ Aside0 (wc.heap[gb168]? = some (.cells #[.int .i64 a0_0, .int .i64 a0_1] 23 (0, 0))) ∧ Aside0 (wc.heap[gb169]? = some (.cells #[.int .i64 a1_0, .int .i64 a1_1] 23 (0, 0))) ∧ Aside0 (wc.heap[gb170]? = some (.cells #[.int .i64 x171000_1, .int .i64 x171001_1] 23 (0, 0))) ∧ Aside0 (wc.heap[gb172]? = some (.cells #[.int .i64 x173000_1, .int .i64 x173001_1] 23 (0, 0))) ∧ Aside0 (wc.heap[gb173]? = some (.cells #[.int .i64 (rd [a0_0, a0_0, a0_1, a0_1] x40_1), .int .i64 (rd [a1_0, a1_1, a1_0, a1_1] x40_1)] 90 (0, 0))) ∧ Aside0 (Below w.heap.size w wc))
       case first =>
        have H := HC28.out
        clear HC28
        by_cases c35 : x40_1 = 0
        ·rw [if_pos c35] at H
         have c35b0 : (x40_1 == 0) = true := beq_iff_eq.mpr c35
         have c35b1 : (x40_1 != 0) = false := bne_eq_false_iff_eq.mpr c35
         clear c35
         (first | rw [c35b0] | (simp only [i64_w, i32_w]; rw [c35b0]) | skip)
         have H' := Aside0.mk H
         clear H
         go_wp2
         go_meet
         case rel => exact ⟨_, (true), (by first | rfl | (simp; done) | (simp [*]; done)), H', ⟨by have := HK1.out; first | omega | exact Nat.le_refl _⟩, ⟨kk_ BK168⟩, ⟨kk_ BK169⟩, ⟨kk_ BK170⟩, ⟨kk_ BK172⟩, ⟨by (with_reducible repeat (first | refine blk_drewN ?_ _ | refine blk_drew ?_ | refine blk_alloc ?_ _)); refine blk_put (cs := #[.int .i64 (rd [a0_0, a0_0, a0_1, a0_1] x40_1), .int .i64 0]) ?_ 1 _ rfl; (with_reducible repeat (first | refine blk_drewN ?_ _ | refine blk_drew ?_ | refine blk_alloc ?_ _)); refine blk_put (cs := #[.int .i64 0, .int .i64 0]) ?_ 0 _ rfl; (with_reducible repeat (first | refine blk_drewN ?_ _ | refine blk_drew ?_ | refine blk_alloc ?_ _)); exact BK173.out⟩, (be_ HB)⟩
        ·rw [if_neg c35] at H
         have c35b0 : (x40_1 == 0) = false := beq_eq_false_iff_ne.mpr c35
         have c35b1 : (x40_1 != 0) = true := bne_iff_ne.mpr c35
         (first | rw [c35b0] | (simp only [i64_w, i32_w]; rw [c35b0]) | skip)
         have H' := Aside0.mk H
         clear H
         have hnb36 := NB172_168.out
         have hnc36 := NB168_172.out
         have hnb37 := NB172_169.out
         have hnc37 := NB169_172.out
         have hnb38 := NB172_170.out
         have hnc38 := NB170_172.out
         have hnb39 := NB172_173.out
         have hnc39 := NB173_172.out
         have hcz40_0 : w29.cell? ⟨gb172, 0, none⟩ = some (.int .i64 x173000_1) := (blk_cell BK172.out 0).trans rfl
         have hcz40_1 : w29.cell? ⟨gb172, 1, none⟩ = some (.int .i64 x173001_1) := (blk_cell BK172.out 1).trans rfl
         have hfz40_0 := blk_frozen BK172.out 0
         have hfz40_1 := blk_frozen BK172.out 1
         go_wp2
         go_meet
         case rel => exact ⟨_, (decide (t174 < x173000_1)), (by first | rfl | (simp; done) | (simp [*]; done)), H', ⟨by have := HK1.out; first | omega | exact Nat.le_refl _⟩, ⟨kk_ BK168⟩, ⟨kk_ BK169⟩, ⟨kk_ BK170⟩, ⟨kk_ BK172⟩, ⟨by (with_reducible repeat (first | refine blk_drewN ?_ _ | refine blk_drew ?_ | refine blk_alloc ?_ _)); refine blk_put (cs := #[.int .i64 (rd [a0_0, a0_0, a0_1, a0_1] x40_1), .int .i64 0]) ?_ 1 _ rfl; (with_reducible repeat (first | refine blk_drewN ?_ _ | refine blk_drew ?_ | refine blk_alloc ?_ _)); refine blk_put (cs := #[.int .i64 0, .int .i64 0]) ?_ 0 _ rfl; (with_reducible repeat (first | refine blk_drewN ?_ _ | refine blk_drew ?_ | refine blk_alloc ?_ _)); exact BK173.out⟩, (be_ HB)⟩
       case rest =>
        clear HC28
        try clear c1
        try clear c2
        try clear p2
        try clear q2
        try clear hx2
        try clear c3
        try clear c8
        try clear c9
        try clear c10
        try clear c11
        try clear c12
        try clear c13
        try clear c14
        try clear c14b0
        try clear c14b1
        try clear c16
        try clear c17
        try clear c18
        try clear c20
        try clear c21
        try clear c23
        try clear c23b0
        try clear c24
        try clear c24b0
        try clear p25
        try clear q25
        try clear hx25
        try clear c27
        try clear c30
        try clear c31
        try clear c32
        try clear c33
        try clear c35
        try clear c35b0
        try clear c35b1
        try clear c36
        try clear c37
        try clear c38
        try clear c39
        try clear hcz10_0
        try clear hcz10_1
        try clear hcz12_0
        try clear hcz12_1
        try clear hcz19_0
        try clear hcz19_1
        try clear hcz22_0
        try clear hcz22_1
        try clear hcz34_0
        try clear hcz34_1
        try clear hcz40_0
        try clear hcz40_1
        try clear hfz10_0
        try clear hfz10_1
        try clear hfz12_0
        try clear hfz12_1
        try clear hfz19_0
        try clear hfz19_1
        try clear hfz22_0
        try clear hfz22_1
        try clear hfz34_0
        try clear hfz34_1
        try clear hfz40_0
        try clear hfz40_1
        try clear p2
        try clear p25
        try clear q25
        obtain ⟨kq, x62_27, rfl, HA, HJ27, BK168, BK169, BK170, BK172, BK173, HB⟩ := hcut
        cases kq with
        | zero => exact absurd HA.out (by simp [interval_Mul.j1])
        | succ kj27 =>
         have H := HA.out
         clear HA
         simp only [interval_Mul.j1] at H
         by_cases c41 : x62_27 = true
         ·subst c41
          have H1 : (if x40_1 = 0 then (interval_Mul.l0 kj27 (wrap64 (x40_1 + 1)) a1_1 a0_1 a1_0 a0_1 a1_1 a0_0 a1_0 a0_0 t174 t174) else (if t174 > x173001_1 then (interval_Mul.l0 kj27 (wrap64 (x40_1 + 1)) a1_1 a0_1 a1_0 a0_1 a1_1 a0_0 a1_0 a0_0 t174 t174) else (interval_Mul.l0 kj27 (wrap64 (x40_1 + 1)) a1_1 a0_1 a1_0 a0_1 a1_1 a0_0 a1_0 a0_0 t174 x173001_1))) = some (r1, r2, r3) := by rw [if_pos rfl] at H; exact H
          clear H
          have H := H1
          clear H1
          by_cases c42 : x40_1 = 0
          ·rw [if_pos c42] at H
           have c42b0 : (x40_1 == 0) = true := beq_iff_eq.mpr c42
           have c42b1 : (x40_1 != 0) = false := bne_eq_false_iff_eq.mpr c42
           clear c42
           have H' := Aside0.mk H
           clear H
           have hnb43 := NB172_168.out
           have hnc43 := NB168_172.out
           have hnb44 := NB172_169.out
           have hnc44 := NB169_172.out
           have hnb45 := NB172_170.out
           have hnc45 := NB170_172.out
           have hnb46 := NB172_173.out
           have hnc46 := NB173_172.out
           have hcz47_0 : wc.cell? ⟨gb172, 0, none⟩ = some (.int .i64 x173000_1) := (blk_cell BK172.out 0).trans rfl
           have hcz47_1 : wc.cell? ⟨gb172, 1, none⟩ = some (.int .i64 x173001_1) := (blk_cell BK172.out 1).trans rfl
           have hfz47_0 := blk_frozen BK172.out 0
           have hfz47_1 := blk_frozen BK172.out 1
           go_wp2
           go_roundg kj27
           case measure => have := HK1.out; have := HJ27.out; omega
           case rel => exact ⟨(wrap64 (x40_1 + 1)), (x171000_1), (x171001_1), (t174), (t174), (by first | rfl | (simp; done) | (simp [*]; done)), H', ⟨by have := HK1.out; have := HJ27.out; omega⟩, ⟨kk_ BK168⟩, ⟨kk_ BK169⟩, ⟨kk_ BK170⟩, ⟨by (with_reducible repeat (first | refine blk_drewN ?_ _ | refine blk_drew ?_ | refine blk_alloc ?_ _)); refine blk_put (cs := #[.int .i64 t174, .int .i64 x173001_1]) ?_ 1 _ rfl; (with_reducible repeat (first | refine blk_drewN ?_ _ | refine blk_drew ?_ | refine blk_alloc ?_ _)); refine blk_put (cs := #[.int .i64 x173000_1, .int .i64 x173001_1]) ?_ 0 _ rfl; (with_reducible repeat (first | refine blk_drewN ?_ _ | refine blk_drew ?_ | refine blk_alloc ?_ _)); exact BK172.out⟩, (be_ HB)⟩
          ·rw [if_neg c42] at H
           have c42b0 : (x40_1 == 0) = false := beq_eq_false_iff_ne.mpr c42
           have c42b1 : (x40_1 != 0) = true := bne_iff_ne.mpr c42
           by_cases c48 : t174 > x173001_1
           ·rw [if_pos c48] at H
            have c48b0 : decide (x173001_1 < t174) = true := decide_eq_true c48
            clear c48
            have H' := Aside0.mk H
            clear H
            have hnb49 := NB172_168.out
            have hnc49 := NB168_172.out
            have hnb50 := NB172_169.out
            have hnc50 := NB169_172.out
            have hnb51 := NB172_170.out
            have hnc51 := NB170_172.out
            have hnb52 := NB172_173.out
            have hnc52 := NB173_172.out
            have hcz53_0 : wc.cell? ⟨gb172, 0, none⟩ = some (.int .i64 x173000_1) := (blk_cell BK172.out 0).trans rfl
            have hcz53_1 : wc.cell? ⟨gb172, 1, none⟩ = some (.int .i64 x173001_1) := (blk_cell BK172.out 1).trans rfl
            have hfz53_0 := blk_frozen BK172.out 0
            have hfz53_1 := blk_frozen BK172.out 1
            go_wp2
            go_roundg kj27
            case measure => have := HK1.out; have := HJ27.out; omega
            case rel => exact ⟨(wrap64 (x40_1 + 1)), (x171000_1), (x171001_1), (t174), (t174), (by first | rfl | (simp; done) | (simp [*]; done)), H', ⟨by have := HK1.out; have := HJ27.out; omega⟩, ⟨kk_ BK168⟩, ⟨kk_ BK169⟩, ⟨kk_ BK170⟩, ⟨by (with_reducible repeat (first | refine blk_drewN ?_ _ | refine blk_drew ?_ | refine blk_alloc ?_ _)); refine blk_put (cs := #[.int .i64 t174, .int .i64 x173001_1]) ?_ 1 _ rfl; (with_reducible repeat (first | refine blk_drewN ?_ _ | refine blk_drew ?_ | refine blk_alloc ?_ _)); refine blk_put (cs := #[.int .i64 x173000_1, .int .i64 x173001_1]) ?_ 0 _ rfl; (with_reducible repeat (first | refine blk_drewN ?_ _ | refine blk_drew ?_ | refine blk_alloc ?_ _)); exact BK172.out⟩, (be_ HB)⟩
           ·rw [if_neg c48] at H
            have c48b0 : decide (x173001_1 < t174) = false := decide_eq_false c48
            clear c48
            have H' := Aside0.mk H
            clear H
            have hnb54 := NB172_168.out
            have hnc54 := NB168_172.out
            have hnb55 := NB172_169.out
            have hnc55 := NB169_172.out
            have hnb56 := NB172_170.out
            have hnc56 := NB170_172.out
            have hnb57 := NB172_173.out
            have hnc57 := NB173_172.out
            have hcz58_0 : wc.cell? ⟨gb172, 0, none⟩ = some (.int .i64 x173000_1) := (blk_cell BK172.out 0).trans rfl
            have hcz58_1 : wc.cell? ⟨gb172, 1, none⟩ = some (.int .i64 x173001_1) := (blk_cell BK172.out 1).trans rfl
            have hfz58_0 := blk_frozen BK172.out 0
            have hfz58_1 := blk_frozen BK172.out 1
            go_wp2
            go_roundg kj27
            case measure => have := HK1.out; have := HJ27.out; omega
            case rel => exact ⟨(wrap64 (x40_1 + 1)), (x171000_1), (x171001_1), (t174), (x173001_1), (by first | rfl | (simp; done) | (simp [*]; done)), H', ⟨by have := HK1.out; have := HJ27.out; omega⟩, ⟨kk_ BK168⟩, ⟨kk_ BK169⟩, ⟨kk_ BK170⟩, ⟨by (with_reducible repeat (first | refine blk_drewN ?_ _ | refine blk_drew ?_ | refine blk_alloc ?_ _)); refine blk_put (cs := #[.int .i64 x173000_1, .int .i64 x173001_1]) ?_ 0 _ rfl; (with_reducible repeat (first | refine blk_drewN ?_ _ | refine blk_drew ?_ | refine blk_alloc ?_ _)); exact BK172.out⟩, (be_ HB)⟩
         ·replace c41 := Bool.eq_false_iff.mpr c41
          subst c41
          have H1 : (if x40_1 = 0 then (interval_Mul.l0 kj27 (wrap64 (x40_1 + 1)) a1_1 a0_1 a1_0 a0_1 a1_1 a0_0 a1_0 a0_0 x173000_1 t174) else (if t174 > x173001_1 then (interval_Mul.l0 kj27 (wrap64 (x40_1 + 1)) a1_1 a0_1 a1_0 a0_1 a1_1 a0_0 a1_0 a0_0 x173000_1 t174) else (interval_Mul.l0 kj27 (wrap64 (x40_1 + 1)) a1_1 a0_1 a1_0 a0_1 a1_1 a0_0 a1_0 a0_0 x173000_1 x173001_1))) = some (r1, r2, r3) := by rw [if_neg (show ¬ (false = true) by decide)] at H; exact H
          clear H
          have H := H1
          clear H1
          by_cases c59 : x40_1 = 0
          ·rw [if_pos c59] at H
           have c59b0 : (x40_1 == 0) = true := beq_iff_eq.mpr c59
           have c59b1 : (x40_1 != 0) = false := bne_eq_false_iff_eq.mpr c59
           clear c59
           have H' := Aside0.mk H
           clear H
           have hnb60 := NB172_168.out
           have hnc60 := NB168_172.out
           have hnb61 := NB172_169.out
           have hnc61 := NB169_172.out
           have hnb62 := NB172_170.out
           have hnc62 := NB170_172.out
           have hnb63 := NB172_173.out
           have hnc63 := NB173_172.out
           have hcz64_0 : wc.cell? ⟨gb172, 0, none⟩ = some (.int .i64 x173000_1) := (blk_cell BK172.out 0).trans rfl
           have hcz64_1 : wc.cell? ⟨gb172, 1, none⟩ = some (.int .i64 x173001_1) := (blk_cell BK172.out 1).trans rfl
           have hfz64_0 := blk_frozen BK172.out 0
           have hfz64_1 := blk_frozen BK172.out 1
           go_wp2
           go_roundg kj27
           case measure => have := HK1.out; have := HJ27.out; omega
           case rel => exact ⟨(wrap64 (x40_1 + 1)), (x171000_1), (x171001_1), (x173000_1), (t174), (by first | rfl | (simp; done) | (simp [*]; done)), H', ⟨by have := HK1.out; have := HJ27.out; omega⟩, ⟨kk_ BK168⟩, ⟨kk_ BK169⟩, ⟨kk_ BK170⟩, ⟨by (with_reducible repeat (first | refine blk_drewN ?_ _ | refine blk_drew ?_ | refine blk_alloc ?_ _)); refine blk_put (cs := #[.int .i64 x173000_1, .int .i64 x173001_1]) ?_ 1 _ rfl; (with_reducible repeat (first | refine blk_drewN ?_ _ | refine blk_drew ?_ | refine blk_alloc ?_ _)); exact BK172.out⟩, (be_ HB)⟩
          ·rw [if_neg c59] at H
           have c59b0 : (x40_1 == 0) = false := beq_eq_false_iff_ne.mpr c59
           have c59b1 : (x40_1 != 0) = true := bne_iff_ne.mpr c59
           by_cases c65 : t174 > x173001_1
           ·rw [if_pos c65] at H
            have c65b0 : decide (x173001_1 < t174) = true := decide_eq_true c65
            clear c65
            have H' := Aside0.mk H
            clear H
            have hnb66 := NB172_168.out
            have hnc66 := NB168_172.out
            have hnb67 := NB172_169.out
            have hnc67 := NB169_172.out
            have hnb68 := NB172_170.out
            have hnc68 := NB170_172.out
            have hnb69 := NB172_173.out
            have hnc69 := NB173_172.out
            have hcz70_0 : wc.cell? ⟨gb172, 0, none⟩ = some (.int .i64 x173000_1) := (blk_cell BK172.out 0).trans rfl
            have hcz70_1 : wc.cell? ⟨gb172, 1, none⟩ = some (.int .i64 x173001_1) := (blk_cell BK172.out 1).trans rfl
            have hfz70_0 := blk_frozen BK172.out 0
            have hfz70_1 := blk_frozen BK172.out 1
            go_wp2
            go_roundg kj27
            case measure => have := HK1.out; have := HJ27.out; omega
            case rel => exact ⟨(wrap64 (x40_1 + 1)), (x171000_1), (x171001_1), (x173000_1), (t174), (by first | rfl | (simp; done) | (simp [*]; done)), H', ⟨by have := HK1.out; have := HJ27.out; omega⟩, ⟨kk_ BK168⟩, ⟨kk_ BK169⟩, ⟨kk_ BK170⟩, ⟨by (with_reducible repeat (first | refine blk_drewN ?_ _ | refine blk_drew ?_ | refine blk_alloc ?_ _)); refine blk_put (cs := #[.int .i64 x173000_1, .int .i64 x173001_1]) ?_ 1 _ rfl; (with_reducible repeat (first | refine blk_drewN ?_ _ | refine blk_drew ?_ | refine blk_alloc ?_ _)); exact BK172.out⟩, (be_ HB)⟩
           ·rw [if_neg c65] at H
            have c65b0 : decide (x173001_1 < t174) = false := decide_eq_false c65
            clear c65
            have H' := Aside0.mk H
            clear H
            have hnb71 := NB172_168.out
            have hnc71 := NB168_172.out
            have hnb72 := NB172_169.out
            have hnc72 := NB169_172.out
            have hnb73 := NB172_170.out
            have hnc73 := NB170_172.out
            have hnb74 := NB172_173.out
            have hnc74 := NB173_172.out
            have hcz75_0 : wc.cell? ⟨gb172, 0, none⟩ = some (.int .i64 x173000_1) := (blk_cell BK172.out 0).trans rfl
            have hcz75_1 : wc.cell? ⟨gb172, 1, none⟩ = some (.int .i64 x173001_1) := (blk_cell BK172.out 1).trans rfl
            have hfz75_0 := blk_frozen BK172.out 0
            have hfz75_1 := blk_frozen BK172.out 1
            go_wp2
            go_roundg kj27
            case measure => have := HK1.out; have := HJ27.out; omega
            case rel => exact ⟨(wrap64 (x40_1 + 1)), (x171000_1), (x171001_1), (x173000_1), (x173001_1), (by first | rfl | (simp; done) | (simp [*]; done)), H', ⟨by have := HK1.out; have := HJ27.out; omega⟩, ⟨kk_ BK168⟩, ⟨kk_ BK169⟩, ⟨kk_ BK170⟩, ⟨kk_ BK172⟩, (be_ HB)⟩
      ·replace c27 := Bool.eq_false_iff.mpr c27
       subst c27
       have H1 : (some (0, 0, 14)) = some (r1, r2, r3) := by rw [if_neg (show ¬ (false = true) by decide)] at H; exact H
       clear H
       have H := H1
       clear H1
       simp only [Option.some.injEq, Prod.mk.injEq] at H
       obtain ⟨rfl, rfl, rfl⟩ := H
       have p25 : 0 ≤ (x40_1 : Int) := of_decide_eq_true (by first | (with_reducible assumption) | assumption)
       have q25 : (x40_1 : Int) < (4 : Int) := of_decide_eq_true (by first | (with_reducible assumption) | assumption)
       have hx25 : ∀ W : World, (Instr.index 99 (.agg #[.int .i64 a0_0, .int .i64 a1_0, .int .i64 a0_0, .int .i64 a1_1, .int .i64 a0_1, .int .i64 a1_0, .int .i64 a0_1, .int .i64 a1_1]) (.int .i64 x40_1)).run Try.prog W = .ok (.agg #[.int .i64 (rd [a0_0, a0_0, a0_1, a0_1] x40_1), .int .i64 (rd [a1_0, a1_1, a1_0, a1_1] x40_1)]) W := fun W => arrIdx42_ Try.underlying99 Try.sizeOf90 Try.isAgg90 _ _ _ _ _ _ _ _ x40_1 p25 q25 W
       replace p25 := eq_true p25
       replace q25 := eq_true q25
       go_wp2_with (first | ((with_reducible refine gate_dst (N := 9) rfl ?_); refine box_event ?hg (N := 9) ?hd (cs := #[.int .i64 0, .int .i64 0]) (t := 90) ?hr ?_; (case hd => rfl); (case hg => rfl); (case hr => first | (go_simp; done) | (go_simp; rfl)); intro gb173 hg w76 hbox hb; have BK173 := Aside0.mk (hbox); have GW173 := ge_ hg HB; have GE173 := ge_ hg HB; have NB168_173 := nl_ hg BK168; have NB173_168 := ng_ hg BK168; have NB169_173 := nl_ hg BK169; have NB173_169 := ng_ hg BK169; have NB170_173 := nl_ hg BK170; have NB173_170 := ng_ hg BK170; have NB172_173 := nl_ hg BK172; have NB173_172 := ng_ hg BK172; replace BK168 := kb_ BK168 hb; replace BK169 := kb_ BK169 hb; replace BK170 := kb_ BK170 hb; replace BK172 := kb_ BK172 hb; replace HB := bs_ HB hb; clear hb hbox hg; have hnb77 := NB173_168.out; have hnc77 := NB168_173.out; have hnb78 := NB173_169.out; have hnc78 := NB169_173.out; have hnb79 := NB173_170.out; have hnc79 := NB170_173.out; have hnb80 := NB173_172.out; have hnc80 := NB172_173.out; have hcz81_0 : w76.cell? ⟨gb173, 0, none⟩ = some (.int .i64 0) := (blk_cell BK173.out 0).trans rfl; have hcz81_1 : w76.cell? ⟨gb173, 1, none⟩ = some (.int .i64 0) := (blk_cell BK173.out 1).trans rfl; have hfz81_0 := blk_frozen BK173.out 0; have hfz81_1 := blk_frozen BK173.out 1) | ((with_reducible refine gate_callee (f := 130) rfl ?_); refine goesL_ (some 49) rfl rfl Try.func130 (by kernel_rfl) rfl #[.int .i64 (rd [a0_0, a0_0, a0_1, a0_1] x40_1), .int .i64 (rd [a1_0, a1_1, a1_0, a1_1] x40_1)] rfl (by (try simp only [List.map_toArray, List.map_cons, List.map_nil]); first | done | rfl | (simp only [List.length_drop, List.length_take]; rfl)) ?_; (with_reducible refine (interval_times.calls k1 (rd [a0_0, a0_0, a0_1, a0_1] x40_1) (rd [a1_0, a1_1, a1_0, a1_1] x40_1) t174 false _ A26.out).mono ?_); rintro e w' ⟨rfl, ⟨nd, rfl⟩⟩; refine ⟨_, rfl, ?_⟩; have hnb82 := NB170_168.out; have hnc82 := NB168_170.out; have hnb83 := NB170_169.out; have hnc83 := NB169_170.out; have hnb84 := NB170_172.out; have hnc84 := NB172_170.out; have hcz85_0 : w76.cell? ⟨gb170, 0, none⟩ = some (.int .i64 x171000_1) := (blk_cell BK170.out 0).trans rfl; have hcz85_1 : w76.cell? ⟨gb170, 1, none⟩ = some (.int .i64 x171001_1) := (blk_cell BK170.out 1).trans rfl; have hfz85_0 := blk_frozen BK170.out 0; have hfz85_1 := blk_frozen BK170.out 1))
       refine bodyPost_ret (results_ct rfl _ _ gb170 23 #[.int .i64 0, .int .i64 0] (0, 0) _ rfl (by (with_reducible repeat (first | refine blk_drewN ?_ _ | refine blk_drew ?_ | refine blk_alloc ?_ _)); refine blk_put (cs := #[.int .i64 0, .int .i64 x171001_1]) ?_ 1 _ rfl; (with_reducible repeat (first | refine blk_drewN ?_ _ | refine blk_drew ?_ | refine blk_alloc ?_ _)); refine blk_put (cs := #[.int .i64 x171000_1, .int .i64 x171001_1]) ?_ 0 _ rfl; (with_reducible repeat (first | refine blk_drewN ?_ _ | refine blk_drew ?_ | refine blk_alloc ?_ _)); refine blk_far ?_ NB170_173.out _; (with_reducible repeat (first | refine blk_drewN ?_ _ | refine blk_drew ?_ | refine blk_alloc ?_ _)); refine blk_far ?_ NB170_173.out _; (with_reducible repeat (first | refine blk_drewN ?_ _ | refine blk_drew ?_ | refine blk_alloc ?_ _)); exact BK170.out) Try.underlying23 rfl (by kernel_rfl)) rfl ?_
       exact ⟨by first | rfl | (simp [errW_none, errW_some] <;> rfl) | (simp [*, errW_none, errW_some] <;> rfl), (be_ HB).out⟩
     ·rw [if_neg c24] at H
      exact absurd H (by simp)
    ·rw [if_neg c23] at H
     have c23b0 : decide (x40_1 < 4) = false := decide_eq_false c23
     clear c23
     simp only [Option.some.injEq, Prod.mk.injEq] at H
     obtain ⟨rfl, rfl, rfl⟩ := H
     have hnb86 := NB172_168.out
     have hnc86 := NB168_172.out
     have hnb87 := NB172_169.out
     have hnc87 := NB169_172.out
     have hnb88 := NB172_170.out
     have hnc88 := NB170_172.out
     have hcz89_0 : wr.cell? ⟨gb172, 0, none⟩ = some (.int .i64 x173000_1) := (blk_cell BK172.out 0).trans rfl
     have hcz89_1 : wr.cell? ⟨gb172, 1, none⟩ = some (.int .i64 x173001_1) := (blk_cell BK172.out 1).trans rfl
     have hfz89_0 := blk_frozen BK172.out 0
     have hfz89_1 := blk_frozen BK172.out 1
     have hnb90 := NB170_168.out
     have hnc90 := NB168_170.out
     have hnb91 := NB170_169.out
     have hnc91 := NB169_170.out
     have hcz92_0 : wr.cell? ⟨gb170, 0, none⟩ = some (.int .i64 x171000_1) := (blk_cell BK170.out 0).trans rfl
     have hcz92_1 : wr.cell? ⟨gb170, 1, none⟩ = some (.int .i64 x171001_1) := (blk_cell BK170.out 1).trans rfl
     have hfz92_0 := blk_frozen BK170.out 0
     have hfz92_1 := blk_frozen BK170.out 1
     go_wp2
     refine bodyPost_ret (results_ct rfl _ _ gb170 23 #[.int .i64 x173000_1, .int .i64 x173001_1] (0, 0) _ rfl (by (with_reducible repeat (first | refine blk_drewN ?_ _ | refine blk_drew ?_ | refine blk_alloc ?_ _)); refine blk_put (cs := #[.int .i64 x173000_1, .int .i64 x171001_1]) ?_ 1 _ rfl; (with_reducible repeat (first | refine blk_drewN ?_ _ | refine blk_drew ?_ | refine blk_alloc ?_ _)); refine blk_put (cs := #[.int .i64 x171000_1, .int .i64 x171001_1]) ?_ 0 _ rfl; (with_reducible repeat (first | refine blk_drewN ?_ _ | refine blk_drew ?_ | refine blk_alloc ?_ _)); exact BK170.out) Try.underlying23 rfl (by kernel_rfl)) rfl ?_
     exact ⟨by first | rfl | (simp [errW_none, errW_some] <;> rfl) | (simp [*, errW_none, errW_some] <;> rfl), (be_ HB).out⟩
 ·rw [if_neg c14] at H
  have c14b0 : (t171 == 0) = false := beq_eq_false_iff_ne.mpr c14
  have c14b1 : (t171 != 0) = true := bne_iff_ne.mpr c14
  (first | rw [c14b0] | (simp only [i64_w, i32_w]; rw [c14b0]) | skip)
  simp only [Option.some.injEq, Prod.mk.injEq] at H
  obtain ⟨rfl, rfl, rfl⟩ := H
  have hnb93 := NB170_168.out
  have hnc93 := NB168_170.out
  have hnb94 := NB170_169.out
  have hnc94 := NB169_170.out
  have hcz95_0 : w13.cell? ⟨gb170, 0, none⟩ = some (.int .i64 0) := (blk_cell BK170.out 0).trans rfl
  have hcz95_1 : w13.cell? ⟨gb170, 1, none⟩ = some (.int .i64 0) := (blk_cell BK170.out 1).trans rfl
  have hfz95_0 := blk_frozen BK170.out 0
  have hfz95_1 := blk_frozen BK170.out 1
  go_wp2
  refine bodyPost_ret (results_ct rfl _ _ gb170 23 #[.int .i64 0, .int .i64 0] (0, 0) _ rfl (by (with_reducible repeat (first | refine blk_drewN ?_ _ | refine blk_drew ?_ | refine blk_alloc ?_ _)); refine blk_put (cs := #[.int .i64 0, .int .i64 0]) ?_ 1 _ rfl; (with_reducible repeat (first | refine blk_drewN ?_ _ | refine blk_drew ?_ | refine blk_alloc ?_ _)); refine blk_put (cs := #[.int .i64 0, .int .i64 0]) ?_ 0 _ rfl; (with_reducible repeat (first | refine blk_drewN ?_ _ | refine blk_drew ?_ | refine blk_alloc ?_ _)); exact BK170.out) Try.underlying23 rfl (by kernel_rfl)) rfl ?_
  exact ⟨by first | rfl | (simp [errW_none, errW_some] <;> rfl) | (simp [*, errW_none, errW_some] <;> rfl), (be_ HB).out⟩
end Go.Proofs.Ytedakilpogagiaa.PAll
end
section
namespace Go.Proofs.Ytedakilpogagiaa.PAll
open Go Go.RowKit Go.Proofs.YtedakilpogagiaaW.PrintWords Go.Proofs.Ytedakilpogagiaa.Sx
set_option maxRecDepth 100000
def sun_Unit.f (k : Nat) (a0_0 : Int) (a0_1 : Int) (a1_0 : Int) (a1_1 : Int) : Option (Int × Int) :=
  ob (sun_Clamp.f a0_0 a0_1) fun t1 =>
  ob (sun_Clamp.f a1_0 a1_1) fun t2 =>
  ob (interval_Mul.f k t1.fst t1.snd t2.fst t2.snd) fun t3 =>
  ob (interval_Scale.f k t3.fst t3.snd.fst 1 1000000000) fun t4 =>
  some (t4.fst, t4.snd.fst)
def sun_Unit.OQ {R : Type} (k : Nat) : OraQ R := fun g args K => match g with
  | 78 => (match args with | [.agg ⟨[.int .i64 a0_0, .int .i64 a0_1]⟩] => (sun_Clamp.f a0_0 a0_1).bind fun q => K (.agg ⟨[.int .i64 q.1, .int .i64 q.2]⟩) | _ => none)
  | 106 => (match args with | [.agg ⟨[.int .i64 a0_0, .int .i64 a0_1]⟩, .agg ⟨[.int .i64 a1_0, .int .i64 a1_1]⟩] => (interval_Mul.f k a0_0 a0_1 a1_0 a1_1).bind fun q => K (.tuple ⟨[.agg ⟨[.int .i64 q.1, .int .i64 q.2.1]⟩, .int .i64 q.2.2]⟩) | _ => none)
  | 107 => (match args with | [.agg ⟨[.int .i64 a0_0, .int .i64 a0_1]⟩, .int .i64 a1, .int .i64 a2] => (interval_Scale.f k a0_0 a0_1 a1 a2).bind fun q => K (.tuple ⟨[.agg ⟨[.int .i64 q.1, .int .i64 q.2.1]⟩, .int .i64 q.2.2]⟩) | _ => none)
  | _ => none
theorem sun_Unit.OQ_ok (k : Nat) (Φ : World → Prop) (base : Nat) {R : Type} : OraQOk Try.prog (fun _ => undef) Φ base (sun_Unit.OQ (R := R) k) := by
  intro g args K r h
  unfold sun_Unit.OQ at h
  split at h
  · split at h
    · obtain ⟨q, hq, h⟩ := Option.bind_eq_some_iff.mp h
      exact ⟨_, h, callQ_of rfl rfl fun w => (sun_Clamp.calls _ _ _ _ w hq).mono fun e w' he => ⟨he.1, he.2⟩⟩
    · cases h
  · split at h
    · obtain ⟨q, hq, h⟩ := Option.bind_eq_some_iff.mp h
      exact ⟨_, h, callQ_of rfl rfl fun w => (interval_Mul.calls k _ _ _ _ _ _ _ w hq).mono fun e w' he => ⟨he.1, he.2⟩⟩
    · cases h
  · split at h
    · obtain ⟨q, hq, h⟩ := Option.bind_eq_some_iff.mp h
      exact ⟨_, h, callQ_of rfl rfl fun w => (interval_Scale.calls k _ _ _ _ _ _ _ w hq).mono fun e w' he => ⟨he.1, he.2⟩⟩
    · cases h
  · cases h
def sun_Unit.F (v : Value) (_ : Mem) : Option (Int × Int) := match v with | .agg ⟨[.int .i64 r1, .int .i64 r2]⟩ => some (r1, r2) | _ => none
theorem sun_Unit.run (k : Nat) (a0_0 : Int) (a0_1 : Int) (a1_0 : Int) (a1_1 : Int) : runM Try.prog (liftQ (sun_Unit.OQ k)) (drawQ Try.prog (sun_Unit.OQ k)) (fun _ => none) (atEnd Try.prog Try.f66 sun_Unit.F) 5000 [.code (Try.f66.body.getD .skip)] ([.agg ⟨[.int .i64 a0_0, .int .i64 a0_1]⟩, .agg ⟨[.int .i64 a1_0, .int .i64 a1_1]⟩] ++ List.replicate (Try.f66.ntmps - ([.agg ⟨[.int .i64 a0_0, .int .i64 a0_1]⟩, .agg ⟨[.int .i64 a1_0, .int .i64 a1_1]⟩] : List Value).length) undef) [] = sun_Unit.f k a0_0 a0_1 a1_0 a1_1 := by kernel_rfl
theorem sun_Unit.calls (k : Nat) (a0_0 : Int) (a0_1 : Int) (a1_0 : Int) (a1_1 : Int) (r1 : Int) (r2 : Int) (w : World) (h : sun_Unit.f k a0_0 a0_1 a1_0 a1_1 = some (r1, r2)) :
    Calls Try.prog 66 #[.agg #[.int .i64 a0_0, .int .i64 a0_1], .agg #[.int .i64 a1_0, .int .i64 a1_1]] w fun e w' => e = .returned (.agg #[.int .i64 r1, .int .i64 r2]) ∧ Below w.heap.size w w' := by
  refine calls_closed (OQ := sun_Unit.OQ k) (LF := fun _ => none) (F := sun_Unit.F) (r := (r1, r2)) (Checked.mixed Try.checked) (fun Φ base _ => sun_Unit.OQ_ok k Φ base) (LS := fun _ => True) (fun Φ base _ c _ live len f e => by cases e) Try.func66 rfl (fun _ _ => trivial) rfl (fun u m hu => ?_) rfl (((sun_Unit.run k a0_0 a0_1 a1_0 a1_1).trans h)) w
  unfold sun_Unit.F at hu
  split at hu
  · cases hu; rfl
  · cases hu
end Go.Proofs.Ytedakilpogagiaa.PAll
end
section
namespace Go.Proofs.Ytedakilpogagiaa.PAll
open Go.RowKit Go.Proofs.YtedakilpogagiaaW.PrintWords Go.Proofs.YtedakilpogagiaaW.PrintLast Go.Proofs.YtedakilpogagiaaW.PrintMore Go.Proofs.Ytedakilpogagiaa.More2 Go.Proofs.Ytedakilpogagiaa.Sq
attribute [local go_sem] max2_int min2_int max_two min_two max_three min_three max_four min_four tdiv2e18_ tdiv1e18_ cellSS_  -- for this text's walks alone
def sun_plus.f (a0_0 : Int) (a0_1 : Int) (a1_0 : Int) (a1_1 : Int) : Option (Int × Int) := some (wrap64 (a0_0 + a1_0), wrap64 (a0_1 + a1_1))
set_option maxHeartbeats 8000000 in
set_option maxRecDepth 100000 in
theorem sun_plus.calls (a0_0 : Int) (a0_1 : Int) (a1_0 : Int) (a1_1 : Int) (r1 : Int) (r2 : Int) (w : World) (h : sun_plus.f a0_0 a0_1 a1_0 a1_1 = some (r1, r2)) :
  Calls Try.prog 67 #[.agg #[.int .i64 a0_0, .int .i64 a0_1], .agg #[.int .i64 a1_0, .int .i64 a1_1]] w fun e w' => e = .returned (.agg #[.int .i64 r1, .int .i64 r2]) ∧ Below w.heap.size w w' := by
 have hu23 := Try.underlying23
 have HB := Aside0.mk (Below.refl w.heap.size w)
 have H : (some (wrap64 (a0_0 + a1_0), wrap64 (a0_1 + a1_1))) = some (r1, r2) := h
 clear h
 simp only [Option.some.injEq, Prod.mk.injEq] at H
 obtain ⟨rfl, rfl⟩ := H
 go_enter Try.func67, Try.ntmps67
 go_wp2_with (first | ((with_reducible refine gate_dst (N := 2) rfl ?_); refine box_event ?hg (N := 2) ?hd (cs := #[.int .i64 a0_0, .int .i64 a0_1]) (t := 23) ?hr ?_; (case hd => rfl); (case hg => rfl); (case hr => first | (go_simp; done) | (go_simp; rfl)); intro gb202 hg w3 hbox hb; have BK202 := Aside0.mk (hbox); have GW202 := ge_ hg HB; have GE202 := ge_ hg HB; replace HB := bs_ HB hb; clear hb hbox hg) | ((with_reducible refine gate_dst (N := 3) rfl ?_); refine box_event ?hg (N := 3) ?hd (cs := #[.int .i64 a1_0, .int .i64 a1_1]) (t := 23) ?hr ?_; (case hd => rfl); (case hg => rfl); (case hr => first | (go_simp; done) | (go_simp; rfl)); intro gb203 hg w4 hbox hb; have BK203 := Aside0.mk (hbox); have GW203 := ge_ hg HB; have GE203 := ge_ hg HB; have NB202_203 := nl_ hg BK202; have NB203_202 := ng_ hg BK202; replace BK202 := kb_ BK202 hb; replace HB := bs_ HB hb; clear hb hbox hg) | ((with_reducible refine gate_dst (N := 4) rfl ?_); refine box_event ?hg (N := 4) ?hd (cs := #[.int .i64 0, .int .i64 0]) (t := 23) ?hr ?_; (case hd => rfl); (case hg => rfl); (case hr => first | (go_simp; done) | (go_simp; rfl)); intro gb204 hg w5 hbox hb; have BK204 := Aside0.mk (hbox); have GW204 := ge_ hg HB; have GE204 := ge_ hg HB; have NB202_204 := nl_ hg BK202; have NB204_202 := ng_ hg BK202; have NB203_204 := nl_ hg BK203; have NB204_203 := ng_ hg BK203; replace BK202 := kb_ BK202 hb; replace BK203 := kb_ BK203 hb; replace HB := bs_ HB hb; clear hb hbox hg; have hnb6 := NB202_203.out; have hnc6 := NB203_202.out; have hnb7 := NB202_204.out; have hnc7 := NB204_202.out; have hcz8_0 : w5.cell? ⟨gb202, 0, none⟩ = some (.int .i64 a0_0) := (blk_cell BK202.out 0).trans rfl; have hcz8_1 : w5.cell? ⟨gb202, 1, none⟩ = some (.int .i64 a0_1) := (blk_cell BK202.out 1).trans rfl; have hfz8_0 := blk_frozen BK202.out 0; have hfz8_1 := blk_frozen BK202.out 1; have hnb9 := NB203_204.out; have hnc9 := NB204_203.out; have hcz10_0 : w5.cell? ⟨gb203, 0, none⟩ = some (.int .i64 a1_0) := (blk_cell BK203.out 0).trans rfl; have hcz10_1 : w5.cell? ⟨gb203, 1, none⟩ = some (.int .i64 a1_1) := (blk_cell BK203.out 1).trans rfl; have hfz10_0 := blk_frozen BK203.out 0; have hfz10_1 := blk_frozen BK203.out 1; have hcz11_0 : w5.cell? ⟨gb204, 0, none⟩ = some (.int .i64 0) := (blk_cell BK204.out 0).trans rfl; have hcz11_1 : w5.cell? ⟨gb204, 1, none⟩ = some (.int .i64 0) := (blk_cell BK204.out 1).trans rfl; have hfz11_0 := blk_frozen BK204.out 0; have hfz11_1 := blk_frozen BK204.out 1))
 refine bodyPost_ret (results_cell_row rfl _ _ gb204 23 #[.int .i64 (wrap64 (a0_0 + a1_0)), .int .i64 (wrap64 (a0_1 + a1_1))] (0, 0) _ rfl (by (with_reducible repeat (first | refine blk_drewN ?_ _ | refine blk_drew ?_ | refine blk_alloc ?_ _)); refine blk_put (cs := #[.int .i64 (wrap64 (a0_0 + a1_0)), .int .i64 0]) ?_ 1 _ rfl; (with_reducible repeat (first | refine blk_drewN ?_ _ | refine blk_drew ?_ | refine blk_alloc ?_ _)); refine blk_put (cs := #[.int .i64 0, .int .i64 0]) ?_ 0 _ rfl; (with_reducible repeat (first | refine blk_drewN ?_ _ | refine blk_drew ?_ | refine blk_alloc ?_ _)); exact BK204.out) Try.underlying23 rfl (by kernel_rfl)) rfl ?_
 exact ⟨by first | rfl | (simp [errW_none, errW_some] <;> rfl) | (simp [*, errW_none, errW_some] <;> rfl), (be_ HB).out⟩
end Go.Proofs.Ytedakilpogagiaa.PAll
end
section
namespace Go.Proofs.Ytedakilpogagiaa.PAll
open Go.RowKit Go.Proofs.YtedakilpogagiaaW.PrintWords Go.Proofs.YtedakilpogagiaaW.PrintLast Go.Proofs.YtedakilpogagiaaW.PrintMore Go.Proofs.Ytedakilpogagiaa.More2 Go.Proofs.Ytedakilpogagiaa.Sq
attribute [local go_sem] max2_int min2_int max_two min_two max_three min_three max_four min_four tdiv2e18_ tdiv1e18_ cellSS_  -- for this text's walks alone
def trig_reaches.f (k : Nat) (a0 : Int) (a1 : Int) : Option (Bool) := (trig_octant.f k a1).bind fun bt205 => (some (decide ((wrap64 ((bt205.1 / 536870912) * 2147483648)) ≤ (wrap64 (a0 * (bt205.2 / 536870912))))))
set_option maxHeartbeats 8000000 in
set_option maxRecDepth 100000 in
theorem trig_reaches.calls (k : Nat) (a0 : Int) (a1 : Int) (r : Bool) (w : World) (h : trig_reaches.f k a0 a1 = some r) :
  Calls Try.prog 136 #[.int .i64 a0, .int .i64 a1] w fun e w' => e = .returned (.bool r) ∧ Below w.heap.size w w' := by
 have HB := Aside0.mk (Below.refl w.heap.size w)
 have H : ((trig_octant.f k a1).bind fun bt205 => (some (decide ((wrap64 ((bt205.1 / 536870912) * 2147483648)) ≤ (wrap64 (a0 * (bt205.2 / 536870912))))))) = some r := h
 clear h
 replace H := Option.bind_eq_some_iff.mp H
 obtain ⟨⟨t205, t206⟩, A30, H⟩ := H
 replace H : (some (decide ((wrap64 ((t205 / 536870912) * 2147483648)) ≤ (wrap64 (a0 * (t206 / 536870912)))))) = some r := H
 have A3 := Aside0.mk A30
 clear A30
 obtain rfl := Option.some.inj H
 simp only [Option.some.injEq, Prod.mk.injEq] at H
 obtain ⟨rfl⟩ := H
 go_enter Try.func136, Try.ntmps136
 go_wp2_with (first | ((with_reducible refine gate_callee (f := 102) rfl ?_); refine goesL_ (some 9) rfl rfl Try.func102 (by kernel_rfl) rfl #[.int .i64 a1] rfl (by (try simp only [List.map_toArray, List.map_cons, List.map_nil]); first | done | rfl | (simp only [List.length_drop, List.length_take]; rfl)) ?_; (with_reducible refine (trig_octant.calls k a1 t205 t206 _ A3.out).mono ?_); rintro e w4 ⟨rfl, hb⟩; refine ⟨_, rfl, ?_⟩; replace HB := bs_ HB hb; (try clear hb); (try clear hb2); (try clear hk); (try clear hi)))
 go_ret
 exact ⟨by first | rfl | (simp [errW_none, errW_some] <;> rfl) | (simp [*, errW_none, errW_some] <;> rfl), (be_ HB).out⟩
end Go.Proofs.Ytedakilpogagiaa.PAll
end
section
namespace Go.Proofs.Ytedakilpogagiaa.PAll
open Go.RowKit Go.Proofs.YtedakilpogagiaaW.PrintWords Go.Proofs.YtedakilpogagiaaW.PrintLast Go.Proofs.YtedakilpogagiaaW.PrintMore Go.Proofs.Ytedakilpogagiaa.More2 Go.Proofs.Ytedakilpogagiaa.Sq
attribute [local go_sem] max2_int min2_int max_two min_two max_three min_three max_four min_four tdiv2e18_ tdiv1e18_ cellSS_  -- for this text's walks alone
mutual
def trig_acute.l0 : Nat → Int → Int → Option (Int)
 | 0, _, _ => none
 | k + 1, x0, x1 => if x1 ≥ 2147483648 then (trig_acute.l0 k (x0 / 2) (x1 / 2)) else (trig_acute.l1 k x0 x1)
def trig_acute.l1 : Nat → Int → Int → Option (Int)
 | 0, _, _ => none
 | k + 1, x0, x1 => if x1 < 1073741824 then (trig_acute.l1 k (wrap64 (x0 * 2)) (wrap64 (x1 * 2))) else (if x1 = 0 then (none) else (trig_acute.l2 k (wrap64 (Int.tdiv (wrap64 (x0 * 2147483648)) x1)) ((wrap64 ((wrap64 (Int.tdiv (wrap64 (x0 * 2147483648)) x1)) * 125000000)) / 2147483648) 0))
def trig_acute.l2 : Nat → Int → Int → Int → Option (Int)
 | 0, _, _, _ => none
 | k + 1, x5, x6, x30 => if x30 < 4 then ((trig_octant.f k x6).bind fun bt207 => (if (wrap64 (Int.tdiv (wrap64 ((wrap64 ((bt207.2 / 1073741824) * 2147483648)) + (wrap64 (x5 * (bt207.1 / 1073741824))))) 159154943)) = 0 then (none) else (trig_acute.l2 k x5 (mx 0 (mn 125000000 (wrap64 (x6 - (wrap64 (Int.tdiv (wrap64 ((wrap64 ((bt207.1 / 1073741824) * 2147483648)) - (wrap64 (x5 * (bt207.2 / 1073741824))))) (wrap64 (Int.tdiv (wrap64 ((wrap64 ((bt207.2 / 1073741824) * 2147483648)) + (wrap64 (x5 * (bt207.1 / 1073741824))))) 159154943)))))))) (wrap64 (x30 + 1))))) else (trig_acute.l3 k x5 x6)
def trig_acute.j4 : Nat → Int → Int → Option (Int)
 | 0, _, _ => none
 | k + 1, x5, x6 => trig_acute.l4 k x5 x6
def trig_acute.l4 : Nat → Int → Int → Option (Int)
 | 0, _, _ => none
 | k + 1, x5, x6 => if x6 < 125000000 then ((trig_reaches.f k x5 (wrap64 (x6 + 1))).bind fun t210 => (if t210 = true then (trig_acute.l4 k x5 (wrap64 (x6 + 1))) else (some x6))) else (some x6)
def trig_acute.l3 : Nat → Int → Int → Option (Int)
 | 0, _, _ => none
 | k + 1, x5, x6 => if x6 > 0 then ((trig_reaches.f k x5 x6).bind fun t209 => (if t209 = true then (trig_acute.j4 k x5 x6) else (trig_acute.l3 k x5 (wrap64 (x6 - 1))))) else (trig_acute.j4 k x5 x6)
end
def trig_acute.f (k : Nat) (a0 : Int) (a1 : Int) : Option (Int) := trig_acute.l0 k a0 a1
set_option maxHeartbeats 8000000 in
set_option maxRecDepth 100000 in
theorem trig_acute.calls (k : Nat) (a0 : Int) (a1 : Int) (r : Int) (w : World) (h : trig_acute.f k a0 a1 = some r) :
  Calls Try.prog 132 #[.int .i64 a0, .int .i64 a1] w fun e w' => e = .returned (.int .i64 r) ∧ Below w.heap.size w w' := by
 have HB := Aside0.mk (Below.refl w.heap.size w)
 have H : (trig_acute.l0 k a0 a1) = some r := h
 clear h
 have H' := Aside0.mk H
 clear H
 go_enter Try.func132, Try.ntmps132
 go_wp2
 go_loopg [0, 1] k (fun kq v0 v1 w' => ∃ (x0_1 : Int) (x1_1 : Int), v0 = .int .i64 x0_1 ∧ v1 = .int .i64 x1_1 ∧ Aside0 (trig_acute.l0 kq x0_1 x1_1 = some r) ∧ Aside0 (kq ≤ k) ∧ Aside0 (Below w.heap.size w w'))
 case atStart => exact ⟨(a0), (a1), (by first | rfl | (simp; done) | (simp [*]; done)), (by first | rfl | (simp; done) | (simp [*]; done)), H', ⟨Nat.le_refl _⟩, (be_ HB)⟩
 case round =>
  clear H'
  try clear c1
  try clear p2
  obtain ⟨x0_1, x1_1, rfl, rfl, HA, HK1, HB⟩ := hrel
  cases gk with
  | zero => exact absurd HA.out (by simp [trig_acute.l0])
  | succ k1 =>
   have H := HA.out
   clear HA
   simp only [trig_acute.l0] at H
   by_cases c3 : x1_1 ≥ 2147483648
   ·rw [if_pos c3] at H
    have c3b0 : decide (2147483648 ≤ x1_1) = true := decide_eq_true c3
    clear c3
    have H' := Aside0.mk H
    clear H
    go_wp2
    go_roundg k1
    case measure => have := HK1.out; omega
    case rel => exact ⟨(x0_1 / 2), (x1_1 / 2), (by first | rfl | (simp; done) | (simp [*]; done)), (by first | rfl | (simp; done) | (simp [*]; done)), H', ⟨by have := HK1.out; omega⟩, (be_ HB)⟩
   ·rw [if_neg c3] at H
    have c3b0 : decide (2147483648 ≤ x1_1) = false := decide_eq_false c3
    clear c3
    have H' := Aside0.mk H
    clear H
    go_wp2
    go_loopg [0, 1] k1 (fun kq v0 v1 w' => ∃ (x0_2 : Int) (x1_2 : Int), v0 = .int .i64 x0_2 ∧ v1 = .int .i64 x1_2 ∧ Aside0 (trig_acute.l1 kq x0_2 x1_2 = some r) ∧ Aside0 (kq ≤ k1) ∧ Aside0 (Below w.heap.size w w'))
    case atStart => exact ⟨(x0_1), (x1_1), (by first | rfl | (simp; done) | (simp [*]; done)), (by first | rfl | (simp; done) | (simp [*]; done)), H', ⟨Nat.le_refl _⟩, (be_ HB)⟩
    case round =>
     clear H'
     try clear c1
     try clear p2
     try clear c3
     try clear c3b0
     try clear p2
     obtain ⟨x0_2, x1_2, rfl, rfl, HA, HK2, HB⟩ := hrel
     cases gk with
     | zero => exact absurd HA.out (by simp [trig_acute.l1])
     | succ k2 =>
      have H := HA.out
      clear HA
      simp only [trig_acute.l1] at H
      by_cases c4 : x1_2 < 1073741824
      ·rw [if_pos c4] at H
       have c4b0 : decide (x1_2 < 1073741824) = true := decide_eq_true c4
       clear c4
       have H' := Aside0.mk H
       clear H
       go_wp2
       go_roundg k2
       case measure => have := HK1.out; have := HK2.out; omega
       case rel => exact ⟨(wrap64 (x0_2 * 2)), (wrap64 (x1_2 * 2)), (by first | rfl | (simp; done) | (simp [*]; done)), (by first | rfl | (simp; done) | (simp [*]; done)), H', ⟨by have := HK1.out; have := HK2.out; omega⟩, (be_ HB)⟩
      ·rw [if_neg c4] at H
       have c4b0 : decide (x1_2 < 1073741824) = false := decide_eq_false c4
       clear c4
       by_cases c5 : x1_2 = 0
       ·rw [if_pos c5] at H
        exact absurd H (by simp)
       ·rw [if_neg c5] at H
        have c5b0 : (x1_2 == 0) = false := beq_eq_false_iff_ne.mpr c5
        have c5b1 : (x1_2 != 0) = true := bne_iff_ne.mpr c5
        have H' := Aside0.mk H
        clear H
        go_wp2
        go_loopg [6, 30] k2 (fun kq v6 v30 w' => ∃ (x6_3 : Int) (x30_3 : Int), v6 = .int .i64 x6_3 ∧ v30 = .int .i64 x30_3 ∧ Aside0 (trig_acute.l2 kq (wrap64 (Int.tdiv (wrap64 (x0_2 * 2147483648)) x1_2)) x6_3 x30_3 = some r) ∧ Aside0 (kq ≤ k2) ∧ Aside0 (Below w.heap.size w w'))
        case atStart => exact ⟨((wrap64 ((wrap64 (Int.tdiv (wrap64 (x0_2 * 2147483648)) x1_2)) * 125000000)) / 2147483648), (0), (by first | rfl | (simp; done) | (simp [*]; done)), (by first | rfl | (simp; done) | (simp [*]; done)), H', ⟨Nat.le_refl _⟩, (be_ HB)⟩
        case round =>
         clear H'
         try clear c1
         try clear p2
         try clear c3
         try clear c3b0
         try clear c4
         try clear c4b0
         try clear c5
         try clear c5b0
         try clear c5b1
         try clear p2
         obtain ⟨x6_3, x30_3, rfl, rfl, HA, HK3, HB⟩ := hrel
         cases gk with
         | zero => exact absurd HA.out (by simp [trig_acute.l2])
         | succ k3 =>
          have H := HA.out
          clear HA
          simp only [trig_acute.l2] at H
          by_cases c6 : x30_3 < 4
          ·rw [if_pos c6] at H
           have c6b0 : decide (x30_3 < 4) = true := decide_eq_true c6
           clear c6
           replace H := Option.bind_eq_some_iff.mp H
           obtain ⟨⟨t207, t208⟩, A70, H⟩ := H
           replace H : (if (wrap64 (Int.tdiv (wrap64 ((wrap64 ((t208 / 1073741824) * 2147483648)) + (wrap64 ((wrap64 (Int.tdiv (wrap64 (x0_2 * 2147483648)) x1_2)) * (t207 / 1073741824))))) 159154943)) = 0 then (none) else (trig_acute.l2 k3 (wrap64 (Int.tdiv (wrap64 (x0_2 * 2147483648)) x1_2)) (mx 0 (mn 125000000 (wrap64 (x6_3 - (wrap64 (Int.tdiv (wrap64 ((wrap64 ((t207 / 1073741824) * 2147483648)) - (wrap64 ((wrap64 (Int.tdiv (wrap64 (x0_2 * 2147483648)) x1_2)) * (t208 / 1073741824))))) (wrap64 (Int.tdiv (wrap64 ((wrap64 ((t208 / 1073741824) * 2147483648)) + (wrap64 ((wrap64 (Int.tdiv (wrap64 (x0_2 * 2147483648)) x1_2)) * (t207 / 1073741824))))) 159154943)))))))) (wrap64 (x30_3 + 1)))) = some r := H
           have A7 := Aside0.mk A70
           clear A70
           by_cases c8 : (wrap64 (Int.tdiv (wrap64 ((wrap64 ((t208 / 1073741824) * 2147483648)) + (wrap64 ((wrap64 (Int.tdiv (wrap64 (x0_2 * 2147483648)) x1_2)) * (t207 / 1073741824))))) 159154943)) = 0
           ·rw [if_pos c8] at H
            exact absurd H (by simp)
           ·rw [if_neg c8] at H
            have c8b0 : ((wrap64 (Int.tdiv (wrap64 ((wrap64 ((t208 / 1073741824) * 2147483648)) + (wrap64 ((wrap64 (Int.tdiv (wrap64 (x0_2 * 2147483648)) x1_2)) * (t207 / 1073741824))))) 159154943)) == 0) = false := beq_eq_false_iff_ne.mpr c8
            have c8b1 : ((wrap64 (Int.tdiv (wrap64 ((wrap64 ((t208 / 1073741824) * 2147483648)) + (wrap64 ((wrap64 (Int.tdiv (wrap64 (x0_2 * 2147483648)) x1_2)) * (t207 / 1073741824))))) 159154943)) != 0) = true := bne_iff_ne.mpr c8
            obtain ⟨ji9, hji9⟩ : ∃ j_ : Int, (mn 125000000 (wrap64 (x6_3 - (wrap64 (Int.tdiv (wrap64 ((wrap64 ((t207 / 1073741824) * 2147483648)) - (wrap64 ((wrap64 (Int.tdiv (wrap64 (x0_2 * 2147483648)) x1_2)) * (t208 / 1073741824))))) (wrap64 (Int.tdiv (wrap64 ((wrap64 ((t208 / 1073741824) * 2147483648)) + (wrap64 ((wrap64 (Int.tdiv (wrap64 (x0_2 * 2147483648)) x1_2)) * (t207 / 1073741824))))) 159154943))))))) = j_ := ⟨_, rfl⟩
            replace H : (trig_acute.l2 k3 (wrap64 (Int.tdiv (wrap64 (x0_2 * 2147483648)) x1_2)) (mx 0 (ji9)) (wrap64 (x30_3 + 1))) = some r := by first | (rw [hji9] at H; exact H) | (simp only [hji9] at H ⊢; exact H)
            (try rw [hji9] at A7)
            have hji9_ : (if (wrap64 (x6_3 - (wrap64 (Int.tdiv (wrap64 ((wrap64 ((t207 / 1073741824) * 2147483648)) - (wrap64 ((wrap64 (Int.tdiv (wrap64 (x0_2 * 2147483648)) x1_2)) * (t208 / 1073741824))))) (wrap64 (Int.tdiv (wrap64 ((wrap64 ((t208 / 1073741824) * 2147483648)) + (wrap64 ((wrap64 (Int.tdiv (wrap64 (x0_2 * 2147483648)) x1_2)) * (t207 / 1073741824))))) 159154943)))))) < 125000000 then (wrap64 (x6_3 - (wrap64 (Int.tdiv (wrap64 ((wrap64 ((t207 / 1073741824) * 2147483648)) - (wrap64 ((wrap64 (Int.tdiv (wrap64 (x0_2 * 2147483648)) x1_2)) * (t208 / 1073741824))))) (wrap64 (Int.tdiv (wrap64 ((wrap64 ((t208 / 1073741824) * 2147483648)) + (wrap64 ((wrap64 (Int.tdiv (wrap64 (x0_2 * 2147483648)) x1_2)) * (t207 / 1073741824))))) 159154943)))))) else 125000000) = ji9 := hji9
            obtain ⟨ji10, hji10⟩ : ∃ j_ : Int, (mx 0 (ji9)) = j_ := ⟨_, rfl⟩
            replace H : (trig_acute.l2 k3 (wrap64 (Int.tdiv (wrap64 (x0_2 * 2147483648)) x1_2)) ji10 (wrap64 (x30_3 + 1))) = some r := by first | (rw [hji10] at H; exact H) | (simp only [hji10] at H ⊢; exact H)
            (try rw [hji10] at A7)
            have hji10_ : (if 0 < (ji9) then (ji9) else 0) = ji10 := hji10
            have H' := Aside0.mk H
            clear H
            go_wp2_with (first | ((with_reducible refine gate_callee (f := 102) rfl ?_); refine goesL_ (some 34) rfl rfl Try.func102 (by kernel_rfl) rfl #[.int .i64 x6_3] rfl (by (try simp only [List.map_toArray, List.map_cons, List.map_nil]); first | done | rfl | (simp only [List.length_drop, List.length_take]; rfl)) ?_; (with_reducible refine (trig_octant.calls k3 x6_3 t207 t208 _ A7.out).mono ?_); rintro e w11 ⟨rfl, hb⟩; refine ⟨_, rfl, ?_⟩; replace HB := bs_ HB hb; (try clear hb); (try clear hb2); (try clear hk); (try clear hi)))
            go_roundg k3
            case measure => have := HK1.out; have := HK2.out; have := HK3.out; omega
            case rel => exact ⟨(ji10), (wrap64 (x30_3 + 1)), (by first | rfl | (simp; done) | (simp only [← hji10] <;> (first | rfl | simp)) | (simp [*]; done)), (by first | rfl | (simp; done) | (simp [*]; done)), H', ⟨by have := HK1.out; have := HK2.out; have := HK3.out; omega⟩, (be_ HB)⟩
          ·rw [if_neg c6] at H
           have c6b0 : decide (x30_3 < 4) = false := decide_eq_false c6
           clear c6
           have HC12 := Aside0.mk H
           clear H
           go_upto_block 6 with (fail)
           go_cut [6] (fun v6 wc => ∃ (kq : Nat) (x6_11 : Int), v6 = .int .i64 x6_11 ∧ Aside0 (trig_acute.j4 kq (wrap64 (Int.tdiv (wrap64 (x0_2 * 2147483648)) x1_2)) x6_11 = some r) ∧ Aside0 (kq ≤ k3) ∧ Aside0 (Below w.heap.size w wc))
           case first =>
            have H := HC12.out
            clear HC12
            have H' := Aside0.mk H
            clear H
            go_wp2
            go_loopg [6] k3 (fun kq v6 w' => ∃ (x6_4 : Int), v6 = .int .i64 x6_4 ∧ Aside0 (trig_acute.l3 kq (wrap64 (Int.tdiv (wrap64 (x0_2 * 2147483648)) x1_2)) x6_4 = some r) ∧ Aside0 (kq ≤ k3) ∧ Aside0 (Below w.heap.size w w'))
            case atStart => exact ⟨(x6_3), (by first | rfl | (simp; done) | (simp [*]; done)), H', ⟨Nat.le_refl _⟩, (be_ HB)⟩
            case round =>
             clear H'
             try clear c1
             try clear p2
             try clear c3
             try clear c3b0
             try clear c4
             try clear c4b0
             try clear c5
             try clear c5b0
             try clear c5b1
             try clear c6
             try clear c6b0
             try clear p6
             try clear c8
             try clear c8b0
             try clear c8b1
             try clear c10
             try clear p2
             obtain ⟨x6_4, rfl, HA, HK4, HB⟩ := hrel
             cases gk with
             | zero => exact absurd HA.out (by simp [trig_acute.l3])
             | succ k4 =>
              have H := HA.out
              clear HA
              simp only [trig_acute.l3] at H
              by_cases c13 : x6_4 > 0
              ·rw [if_pos c13] at H
               have c13b0 : decide (0 < x6_4) = true := decide_eq_true c13
               clear c13
               (first | rw [c13b0] | (simp only [i64_w, i32_w]; rw [c13b0]) | skip)
               replace H := Option.bind_eq_some_iff.mp H
               obtain ⟨t209, A140, H⟩ := H
               replace H : (if t209 = true then (trig_acute.j4 k4 (wrap64 (Int.tdiv (wrap64 (x0_2 * 2147483648)) x1_2)) x6_4) else (trig_acute.l3 k4 (wrap64 (Int.tdiv (wrap64 (x0_2 * 2147483648)) x1_2)) (wrap64 (x6_4 - 1)))) = some r := H
               have A14 := Aside0.mk A140
               clear A140
               by_cases c15 : t209 = true
               ·subst c15
                have H1 : (trig_acute.j4 k4 (wrap64 (Int.tdiv (wrap64 (x0_2 * 2147483648)) x1_2)) x6_4) = some r := by rw [if_pos rfl] at H; exact H
                clear H
                have H := H1
                clear H1
                have H' := Aside0.mk H
                clear H
                go_wp2_with (first | (go_at_call 136; (with_reducible refine (trig_reaches.calls k4 (wrap64 (Int.tdiv (wrap64 (x0_2 * 2147483648)) x1_2)) x6_4 true _ A14.out).mono ?_); rintro e w16 ⟨rfl, hb⟩; replace HB := bs_ HB hb; (try clear hb); (try clear hb2); (try clear hk); (try clear hi)))
                go_meet
                case rel => exact ⟨_, (x6_4), (by first | rfl | (simp; done) | (simp [*]; done)), H', ⟨by have := HK1.out; have := HK2.out; have := HK3.out; have := HK4.out; first | omega | exact Nat.le_refl _⟩, (be_ HB)⟩
               ·replace c15 := Bool.eq_false_iff.mpr c15
                subst c15
                have H1 : (trig_acute.l3 k4 (wrap64 (Int.tdiv (wrap64 (x0_2 * 2147483648)) x1_2)) (wrap64 (x6_4 - 1))) = some r := by rw [if_neg (show ¬ (false = true) by decide)] at H; exact H
                clear H
                have H := H1
                clear H1
                have H' := Aside0.mk H
                clear H
                go_wp2_with (first | (go_at_call 136; (with_reducible refine (trig_reaches.calls k4 (wrap64 (Int.tdiv (wrap64 (x0_2 * 2147483648)) x1_2)) x6_4 false _ A14.out).mono ?_); rintro e w17 ⟨rfl, hb⟩; replace HB := bs_ HB hb; (try clear hb); (try clear hb2); (try clear hk); (try clear hi)))
                go_roundg k4
                case measure => have := HK1.out; have := HK2.out; have := HK3.out; have := HK4.out; omega
                case rel => exact ⟨(wrap64 (x6_4 - 1)), (by first | rfl | (simp; done) | (simp [*]; done)), H', ⟨by have := HK1.out; have := HK2.out; have := HK3.out; have := HK4.out; omega⟩, (be_ HB)⟩
              ·rw [if_neg c13] at H
               have c13b0 : decide (0 < x6_4) = false := decide_eq_false c13
               clear c13
               (first | rw [c13b0] | (simp only [i64_w, i32_w]; rw [c13b0]) | skip)
               have H' := Aside0.mk H
               clear H
               go_wp2
               go_meet
               case rel => exact ⟨_, (x6_4), (by first | rfl | (simp; done) | (simp [*]; done)), H', ⟨by have := HK1.out; have := HK2.out; have := HK3.out; have := HK4.out; first | omega | exact Nat.le_refl _⟩, (be_ HB)⟩
           case rest =>
            clear HC12
            try clear c1
            try clear p2
            try clear c3
            try clear c3b0
            try clear c4
            try clear c4b0
            try clear c5
            try clear c5b0
            try clear c5b1
            try clear c6
            try clear c6b0
            try clear p6
            try clear c8
            try clear c8b0
            try clear c8b1
            try clear c10
            try clear c13
            try clear c13b0
            try clear c15
            try clear p2
            try clear p6
            obtain ⟨kq, x6_11, rfl, HA, HJ11, HB⟩ := hcut
            cases kq with
            | zero => exact absurd HA.out (by simp [trig_acute.j4])
            | succ kj11 =>
             have H := HA.out
             clear HA
             simp only [trig_acute.j4] at H
             have H' := Aside0.mk H
             clear H
             go_wp2
             go_loopg [6] kj11 (fun kq v6 w' => ∃ (x6_5 : Int), v6 = .int .i64 x6_5 ∧ Aside0 (trig_acute.l4 kq (wrap64 (Int.tdiv (wrap64 (x0_2 * 2147483648)) x1_2)) x6_5 = some r) ∧ Aside0 (kq ≤ kj11) ∧ Aside0 (Below w.heap.size w w'))
             case atStart => exact ⟨(x6_11), (by first | rfl | (simp; done) | (simp [*]; done)), H', ⟨Nat.le_refl _⟩, (be_ HB)⟩
             case round =>
              clear H'
              try clear c1
              try clear p2
              try clear c3
              try clear c3b0
              try clear c4
              try clear c4b0
              try clear c5
              try clear c5b0
              try clear c5b1
              try clear c6
              try clear c6b0
              try clear p6
              try clear c8
              try clear c8b0
              try clear c8b1
              try clear c10
              try clear c13
              try clear c13b0
              try clear c15
              try clear p2
              try clear p6
              obtain ⟨x6_5, rfl, HA, HK5, HB⟩ := hrel
              cases gk with
              | zero => exact absurd HA.out (by simp [trig_acute.l4])
              | succ k5 =>
               have H := HA.out
               clear HA
               simp only [trig_acute.l4] at H
               by_cases c18 : x6_5 < 125000000
               ·rw [if_pos c18] at H
                have c18b0 : decide (x6_5 < 125000000) = true := decide_eq_true c18
                clear c18
                replace H := Option.bind_eq_some_iff.mp H
                obtain ⟨t210, A190, H⟩ := H
                replace H : (if t210 = true then (trig_acute.l4 k5 (wrap64 (Int.tdiv (wrap64 (x0_2 * 2147483648)) x1_2)) (wrap64 (x6_5 + 1))) else (some x6_5)) = some r := H
                have A19 := Aside0.mk A190
                clear A190
                by_cases c20 : t210 = true
                ·subst c20
                 have H1 : (trig_acute.l4 k5 (wrap64 (Int.tdiv (wrap64 (x0_2 * 2147483648)) x1_2)) (wrap64 (x6_5 + 1))) = some r := by rw [if_pos rfl] at H; exact H
                 clear H
                 have H := H1
                 clear H1
                 have H' := Aside0.mk H
                 clear H
                 go_wp2_with (first | (go_at_call 136; (with_reducible refine (trig_reaches.calls k5 (wrap64 (Int.tdiv (wrap64 (x0_2 * 2147483648)) x1_2)) (wrap64 (x6_5 + 1)) true _ A19.out).mono ?_); rintro e w21 ⟨rfl, hb⟩; replace HB := bs_ HB hb; (try clear hb); (try clear hb2); (try clear hk); (try clear hi)))
                 go_roundg k5
                 case measure => have := HK1.out; have := HK2.out; have := HK3.out; have := HJ11.out; have := HK5.out; omega
                 case rel => exact ⟨(wrap64 (x6_5 + 1)), (by first | rfl | (simp; done) | (simp [*]; done)), H', ⟨by have := HK1.out; have := HK2.out; have := HK3.out; have := HJ11.out; have := HK5.out; omega⟩, (be_ HB)⟩
                ·replace c20 := Bool.eq_false_iff.mpr c20
                 subst c20
                 have H1 : (some x6_5) = some r := by rw [if_neg (show ¬ (false = true) by decide)] at H; exact H
                 clear H
                 have H := H1
                 clear H1
                 obtain rfl := Option.some.inj H
                 simp only [Option.some.injEq, Prod.mk.injEq] at H
                 obtain ⟨rfl⟩ := H
                 go_wp2_with (first | (go_at_call 136; (with_reducible refine (trig_reaches.calls k5 (wrap64 (Int.tdiv (wrap64 (x0_2 * 2147483648)) x1_2)) (wrap64 (x6_5 + 1)) false _ A19.out).mono ?_); rintro e w22 ⟨rfl, hb⟩; replace HB := bs_ HB hb; (try clear hb); (try clear hb2); (try clear hk); (try clear hi)))
                 go_ret
                 exact ⟨by first | rfl | (simp [errW_none, errW_some] <;> rfl) | (simp [*, errW_none, errW_some] <;> rfl), (be_ HB).out⟩
               ·rw [if_neg c18] at H
                have c18b0 : decide (x6_5 < 125000000) = false := decide_eq_false c18
                clear c18
                obtain rfl := Option.some.inj H
                simp only [Option.some.injEq, Prod.mk.injEq] at H
                obtain ⟨rfl⟩ := H
                go_wp2
                go_ret
                exact ⟨by first | rfl | (simp [errW_none, errW_some] <;> rfl) | (simp [*, errW_none, errW_some] <;> rfl), (be_ HB).out⟩
end Go.Proofs.Ytedakilpogagiaa.PAll
end
