/- Contracts of functions of the given program, walked: each call returns what its Lean function says. Conditions: those that stand at each theorem. (Written by a program of this session.) -/
import Derived.Test.YtmdbhpbogbekmaaQNtx0
namespace Go.Proofs.Ytmdbhpbogbekmaa.QNt
open Go.RowKit Go.Proofs.YtmdbhpbogbekmaaW.PrintWords Go.Proofs.YtmdbhpbogbekmaaW.PrintLast Go.Proofs.YtmdbhpbogbekmaaW.PrintMore
open List (setIfInBounds_toArray set_cons_zero set_cons_succ map_toArray map_cons map_nil)
attribute [local go_sem] max2_int min2_int max_two min_two max_three min_three max_four min_four
set_option linter.unusedVariables false
set_option maxHeartbeats 8000000
set_option maxRecDepth 100000
set_option linter.unusedSimpArgs false
def spec_toCampOf.l0 : Nat → Int → Int → Int → List Int → Int → Int → List Bool → Int → Option (List Bool × Int)
 | 0, _, _, _, _, _, _, _, _ => none
 | k + 1, x1, x15, x16, x283000, x283001, x283002, x285000, x285001 => if x16 < x15 then (if (wrap64 (x283002 + 1)) = 0 then (none) else (if 0 ≤ x16 then (if x285000.length < 140737488355328 then (spec_toCampOf.l0 k x1 x15 (wrap64 (x16 + 1)) x283000 x283001 x283002 (x285000 ++ [((Int.tmod (shr .i64 (wrap64 (Int.tdiv x1 (wrap64 (x283002 + 1)))) x16) 2) == 1)]) x285001) else (none)) else (none))) else (some (x285000, x285001))
def spec_toCampOf.f (k : Nat) (l0_0 : List Int) (a0_1 : Int) (a0_2 : Int) (a1 : Int) : Option (List Bool × Int) := if (wrap64 (a0_2 + 1)) = 0 then (none) else (spec_toCampOf.l0 k a1 (l0_0.length : Int) 0 l0_0 a0_1 a0_2 ([] : List Bool) (Int.tmod a1 (wrap64 (a0_2 + 1))))
theorem spec_toCampOf.mono_l : ∀ k, (∀ y0 y1 y2 y3 y4 y5 y6 y7, LeO (spec_toCampOf.l0 k y0 y1 y2 y3 y4 y5 y6 y7) (spec_toCampOf.l0 (k + 1) y0 y1 y2 y3 y4 y5 y6 y7))
 | 0 => fun _ _ _ _ _ _ _ _ r h => by simp [spec_toCampOf.l0] at h
 | k + 1 => by
  have ih0 := spec_toCampOf.mono_l k
  ·intro y0 y1 y2 y3 y4 y5 y6 y7
   unfold spec_toCampOf.l0
   repeat' first
   | (with_reducible first | exact ih0 _ _ _ _ _ _ _ _ | exact LeO.refl _ | exact LeO.none _ | refine LeO.ite ?_ ?_ | refine LeO.bind ?_ (fun _ => ?_))
   | exact ih0 _ _ _ _ _ _ _ _
   | exact LeO.none _
   | refine LeO.ite ?_ ?_
   | refine LeO.bind ?_ (fun _ => ?_)
theorem spec_toCampOf.mono : ∀ a0 a1 a2 a3 k, LeO (spec_toCampOf.f k a0 a1 a2 a3) (spec_toCampOf.f (k + 1) a0 a1 a2 a3) := by
 intro a0 a1 a2 a3 k
 have ih0 := spec_toCampOf.mono_l k
 unfold spec_toCampOf.f
 repeat' first
  | (with_reducible first | exact ih0 _ _ _ _ _ _ _ _ | exact LeO.refl _ | exact LeO.none _ | refine LeO.ite ?_ ?_ | refine LeO.bind ?_ (fun _ => ?_))
  | exact ih0 _ _ _ _ _ _ _ _
  | exact LeO.none _
  | refine LeO.ite ?_ ?_
  | refine LeO.bind ?_ (fun _ => ?_)
def spec_toCampOf.T5 : Bool × List (List Nat × List Nat) := (true, [([], []), ([0], [0]), ([], []), ([], []), ([3], [3]), ([4], [4]), ([2, 5], [2, 5]), ([], []), ([6, 7], [6, 7]), ([8], [8]), ([9], [9]), ([10], [10]), ([1, 11], [1, 11]), ([0, 1, 2, 3, 4, 5, 6, 7, 8, 9, 10, 11, 12], []), ([13, 12, 12, 0, 1, 2, 3, 4, 5, 6, 7, 8, 9, 10, 11, 12], [12, 13])])
def spec_toCampOf.B5 : List Nat := [0, 1, 0, 0, 8, 24, 60, 0, 252, 508, 1020, 2044, 4095, 8191, 16383]
theorem spec_toCampOf.tab5 : rtab .any (opsOf Try.f51 5) = spec_toCampOf.T5 := by kernel_rfl
theorem spec_toCampOf.bits5 : waitsOk spec_toCampOf.T5.2 spec_toCampOf.B5 = true := by kernel_rfl
theorem spec_toCampOf.calls (k : Nat) (A0_0 : Option Addr) (c0_0 : Nat) (l0_0 : List Int) (a0_1 : Int) (a0_2 : Int) (a1 : Int) (r1 : List Bool) (r2 : Int) (w : World) (hr0_0 : Kd.C (Kd.int .i64) w A0_0 l0_0.length l0_0) (hc0_0 : l0_0.length ≤ c0_0) (h : spec_toCampOf.f k l0_0 a0_1 a0_2 a1 = some (r1, r2)) :
  Calls Try.prog 51 #[.agg #[.slice A0_0 l0_0.length c0_0, .int .i64 a0_1, .int .i64 a0_2], .int .i64 a1] w fun e w' => ∃ v0_ : Value, e = .returned (.agg #[v0_, .int .i64 r2]) ∧ Kd.R Kd.bool 4 w' w.heap.size (fun _ => True) v0_ r1 ∧ Below w.heap.size w w' := by
 have hu33 := Try.underlying33
 have hu35 := Try.underlying35
 have HR0_0 := ak_ hr0_0
 have HC0_0 := ak_ hc0_0
 clear hr0_0 hc0_0
 have HB := ak_ (Below.refl w.heap.size w)
 have H : (if (wrap64 (a0_2 + 1)) = 0 then (none) else (spec_toCampOf.l0 k a1 (l0_0.length : Int) 0 l0_0 a0_1 a0_2 ([] : List Bool) (Int.tmod a1 (wrap64 (a0_2 + 1))))) = some (r1, r2) := h
 clear h
 by_cases c3 : (wrap64 (a0_2 + 1)) = 0
 ·
  rw [if_pos c3] at H
  exact absurd H (by simp)
 ·
  rw [if_neg c3] at H
  have c3b0 : ((wrap64 (a0_2 + 1)) == 0) = false := beq_eq_false_iff_ne.mpr c3
  have c3b1 : ((wrap64 (a0_2 + 1)) != 0) = true := bne_iff_ne.mpr c3
  have H' := ak_ H
  clear H
  go_enter Try.func51, Try.ntmps51
  go_wp2_with (first | ((with_reducible refine gate_dst (N := 2) rfl ?_); refine bx_ 2 #[.slice A0_0 l0_0.length c0_0, .int .i64 a0_1, .int .i64 a0_2] 33 ?_; intro gb282 hg w4 hbox hb; have n0_ := ak_ (bs_ (bb_ HB.out) hb); have n1_ := ak_ (hbox); have n2_ := ak_ ((by rw [hg]; exact (bz_ (bb_ HB.out)) : w.heap.size ≤ gb282)); have n3_ := n2_; clear HB; have HB := n0_; have BK282 := n1_; have GW282 := n2_; have GE282 := n3_; clear n0_ n1_ n2_ n3_; clear hb hbox hg) | ((with_reducible refine gate_dst (N := 4) rfl ?_); refine bx_ 4 #[.slice none 0 0, .int .i64 0] 35 ?_; intro gb283 hg w5 hbox hb; have n0_ := ak_ (blk_below (pk BK282.out) hb); have n1_ := ak_ (bs_ bl_ hb); have n2_ := ak_ (hbox); have n3_ := ak_ ((by rw [hg]; exact (bz_ bl_) : w.heap.size ≤ gb283)); have n4_ := n3_; have n5_ := ak_ ((by rw [hg]; exact Nat.ne_of_lt (blk_lt (pk BK282.out)) : gb282 ≠ gb283)); have n6_ := ak_ n5_.out.symm; clear BK282; clear HB; have BK282 := n0_; have HB := n1_; have BK283 := n2_; have GW283 := n3_; have GE283 := n4_; have NB282_283 := n5_; have NB283_282 := n6_; clear n0_ n1_ n2_ n3_ n4_ n5_ n6_; clear hb hbox hg; have hnb6 := NB282_283.out; have hnc6 := NB283_282.out; have hcz7_0 : w5.cell? ⟨gb282, 0, none⟩ = some (.slice A0_0 l0_0.length c0_0) := (blk_cell BK282.out 0).trans rfl; have hcz7_1 : w5.cell? ⟨gb282, 1, none⟩ = some (.int .i64 a0_1) := (blk_cell BK282.out 1).trans rfl; have hcz7_2 : w5.cell? ⟨gb282, 2, none⟩ = some (.int .i64 a0_2) := (blk_cell BK282.out 2).trans rfl; have hfz7_0 := blk_frozen BK282.out 0; have hfz7_1 := blk_frozen BK282.out 1; have hfz7_2 := blk_frozen BK282.out 2) | ((with_reducible refine gate_dst (N := 5) rfl ?_); refine bx_ 5 #[.slice none 0 0, .int .i64 0] 35 ?_; intro gb284 hg w8 hbox hb; have n0_ := ak_ (blk_below (pk BK282.out) hb); have n1_ := ak_ (blk_below (pk BK283.out) hb); have n2_ := ak_ (bs_ bl_ hb); have n3_ := ak_ (hbox); have n4_ := ak_ ((by rw [hg]; exact (bz_ bl_) : w.heap.size ≤ gb284)); have n5_ := n4_; have n6_ := ak_ ((by rw [hg]; exact Nat.ne_of_lt (blk_lt (pk BK282.out)) : gb282 ≠ gb284)); have n7_ := ak_ n6_.out.symm; have n8_ := ak_ ((by rw [hg]; exact Nat.ne_of_lt (blk_lt (pk BK283.out)) : gb283 ≠ gb284)); have n9_ := ak_ n8_.out.symm; clear BK282; clear BK283; clear HB; have BK282 := n0_; have BK283 := n1_; have HB := n2_; have BK284 := n3_; have GW284 := n4_; have GE284 := n5_; have NB282_284 := n6_; have NB284_282 := n7_; have NB283_284 := n8_; have NB284_283 := n9_; clear n0_ n1_ n2_ n3_ n4_ n5_ n6_ n7_ n8_ n9_; clear hb hbox hg; have hnb9 := NB284_282.out; have hnc9 := NB282_284.out; have hnb10 := NB284_283.out; have hnc10 := NB283_284.out; have hcz11_0 : w8.cell? ⟨gb284, 0, none⟩ = some (.slice none 0 0) := (blk_cell BK284.out 0).trans rfl; have hcz11_1 : w8.cell? ⟨gb284, 1, none⟩ = some (.int .i64 0) := (blk_cell BK284.out 1).trans rfl; have hfz11_0 := blk_frozen BK284.out 0; have hfz11_1 := blk_frozen BK284.out 1; have hcz12_0 : w8.cell? ⟨gb282, 0, none⟩ = some (.slice A0_0 l0_0.length c0_0) := (blk_cell BK282.out 0).trans rfl; have hcz12_1 : w8.cell? ⟨gb282, 1, none⟩ = some (.int .i64 a0_1) := (blk_cell BK282.out 1).trans rfl; have hcz12_2 : w8.cell? ⟨gb282, 2, none⟩ = some (.int .i64 a0_2) := (blk_cell BK282.out 2).trans rfl; have hfz12_0 := blk_frozen BK282.out 0; have hfz12_1 := blk_frozen BK282.out 1; have hfz12_2 := blk_frozen BK282.out 2))
  go_loopg [16] k (fun kq v16 w' => ∃ (x16_1 : Int) (x285000_1 : List Bool) (u285000 : Value), v16 = .int .i64 x16_1 ∧ Aside0 (spec_toCampOf.l0 kq a1 (l0_0.length : Int) x16_1 l0_0 a0_1 a0_2 x285000_1 (Int.tmod a1 (wrap64 (a0_2 + 1))) = some (r1, r2)) ∧ Aside0 (kq ≤ k) ∧ Aside0 (Kd.R Kd.bool 4 w' w.heap.size (fun _ => True) u285000 x285000_1) ∧ Aside0 (w'.heap[gb282]? = some (.cells #[(.slice A0_0 l0_0.length c0_0), .int .i64 a0_1, .int .i64 a0_2] 33 (0, 0))) ∧ Aside0 (w'.heap[gb283]? = some (.cells #[(.slice none 0 0), .int .i64 0] 35 (0, 0))) ∧ Aside0 (w'.heap[gb284]? = some (.cells #[u285000, .int .i64 (Int.tmod a1 (wrap64 (a0_2 + 1)))] 35 (0, 0))) ∧ Aside0 (Below w.heap.size w w'))
  case atStart => exact ⟨(0), (([] : List Bool)), (.slice none 0 0), (ry_), H', ⟨Nat.le_refl _⟩, ⟨by first | exact Kd.R_nil _ _ _ _ _ | exact Kd.N_nil _ _ _ _ _ | exact Kd.V_nil _ _ _ _ _ | exact Kd.Q_nil _ _ _ _ _ | exact Kd.S_nil _ _ _ _ _⟩, ⟨by (with_reducible repeat (first | refine kN_ ?_ _ | refine k1_ ?_ | refine ka_ ?_ _)); refine blk_far ?_ NB282_284.out _; (with_reducible repeat (first | refine kN_ ?_ _ | refine k1_ ?_ | refine ka_ ?_ _)); refine blk_far ?_ NB282_284.out _; exact pk BK282.out⟩, ⟨by (with_reducible repeat (first | refine kN_ ?_ _ | refine k1_ ?_ | refine ka_ ?_ _)); refine blk_far ?_ NB283_284.out _; (with_reducible repeat (first | refine kN_ ?_ _ | refine k1_ ?_ | refine ka_ ?_ _)); refine blk_far ?_ NB283_284.out _; exact pk BK283.out⟩, ⟨by (with_reducible repeat (first | refine kN_ ?_ _ | refine k1_ ?_ | refine ka_ ?_ _)); refine blk_put (cs := #[.slice none 0 0, .int .i64 0]) ?_ 1 _ rfl; (with_reducible repeat (first | refine kN_ ?_ _ | refine k1_ ?_ | refine ka_ ?_ _)); refine blk_put (cs := #[.slice none 0 0, .int .i64 0]) ?_ 0 _ rfl; exact pk BK284.out⟩, ⟨by repeat (with_reducible first | exact HB.out | apply ba_ | apply bN_ | apply b1_ | refine below_set ?_ (Aside0.out (by assumption)))⟩⟩
  case round =>
   clear H'
   try clear c1
   try clear p2
   try clear c3
   try clear c3b0
   try clear c3b1
   try clear c5
   try clear c6
   try clear p6
   try clear c9
   try clear c10
   try clear hcz11_0
   try clear hcz11_1
   try clear hcz12_0
   try clear hcz12_1
   try clear hcz12_2
   try clear hcz7_0
   try clear hcz7_1
   try clear hcz7_2
   try clear hfz11_0
   try clear hfz11_1
   try clear hfz12_0
   try clear hfz12_1
   try clear hfz12_2
   try clear hfz7_0
   try clear hfz7_1
   try clear hfz7_2
   obtain ⟨x16_1, x285000_1, u285000, rfl, HA, HK1, HO_285000, BK282, BK283, BK284, HB⟩ := hrel
   cases gk with
   | zero => exact absurd HA.out (by simp [spec_toCampOf.l0])
   | succ k1 =>
    have H := HA.out
    clear HA
    simp only [spec_toCampOf.l0] at H
    by_cases c13 : x16_1 < (l0_0.length : Int)
    ·
     rw [if_pos c13] at H
     have c13b0 : decide (x16_1 < (l0_0.length : Int)) = true := decide_eq_true c13
     clear c13
     by_cases c14 : (wrap64 (a0_2 + 1)) = 0
     ·
      rw [if_pos c14] at H
      exact absurd H (by simp)
     ·
      rw [if_neg c14] at H
      have c14b0 : ((wrap64 (a0_2 + 1)) == 0) = false := beq_eq_false_iff_ne.mpr c14
      have c14b1 : ((wrap64 (a0_2 + 1)) != 0) = true := bne_iff_ne.mpr c14
      by_cases c15 : 0 ≤ x16_1
      ·
       rw [if_pos c15] at H
       have c15b0 := eq_true c15
       have c15b1 : decide (0 ≤ x16_1) = true := decide_eq_true c15
       clear c15
       obtain ⟨ji16, hji16⟩ : ∃ j_ : Int, (shr .i64 (wrap64 (Int.tdiv a1 (wrap64 (a0_2 + 1)))) x16_1) = j_ := ⟨_, rfl⟩
       replace H : (if x285000_1.length < 140737488355328 then (spec_toCampOf.l0 k1 a1 (l0_0.length : Int) (wrap64 (x16_1 + 1)) l0_0 a0_1 a0_2 (x285000_1 ++ [((Int.tmod (ji16) 2) == 1)]) (Int.tmod a1 (wrap64 (a0_2 + 1)))) else (none)) = some (r1, r2) := by first | (rw [hji16] at H; exact H) | (simp only [hji16] at H ⊢; exact H)
       have hji16_ : ((wrap64 (Int.tdiv a1 (wrap64 (a0_2 + 1)))) / 2 ^ min x16_1.toNat 64) = ji16 := hji16
       have hji16z : x16_1 ≤ 64 → ((wrap64 (Int.tdiv a1 (wrap64 (a0_2 + 1)))) / 2 ^ x16_1.toNat) = ji16 := shr_small hji16
       by_cases c17 : x285000_1.length < 140737488355328
       ·
        rw [if_pos c17] at H
        have LMc17 := ak_ c17
        clear c17
        obtain ⟨y285, hy285⟩ : ∃ y_ : List Bool, y_ = (x285000_1 ++ [((Int.tmod (ji16) 2) == 1)]) := ⟨_, rfl⟩
        replace H : (spec_toCampOf.l0 k1 a1 (l0_0.length : Int) (wrap64 (x16_1 + 1)) l0_0 a0_1 a0_2 y285 (Int.tmod a1 (wrap64 (a0_2 + 1)))) = some (r1, r2) := by first | (rw [hy285]; exact H) | exact H
        have Ny285 := ak_ hy285
        clear hy285
        have H' := ak_ H
        clear H
        try go_wp2
        have n0_ := ak_ (Kd.R_drew HO_285000.out)
        have n1_ := ak_ (k1_ BK282.out)
        have n2_ := ak_ (k1_ BK283.out)
        have n3_ := ak_ (k1_ BK284.out)
        have n4_ := ak_ (b1_ HB.out)
        clear HO_285000 BK282 BK283 BK284 HB
        have HO_285000 := n0_; have BK282 := n1_; have BK283 := n2_; have BK284 := n3_; have HB := n4_
        clear n0_ n1_ n2_ n3_ n4_
        refine start_ (n := 15) (S := fun w' => w'.cell? ⟨gb284, 0, none⟩ = some (u285000) ∧ w'.cell? ⟨gb284, 1, none⟩ = some (.int .i64 (Int.tmod a1 (wrap64 (a0_2 + 1)))) ∧ w'.cell? ⟨gb282, 0, none⟩ = some (.slice A0_0 l0_0.length c0_0) ∧ w'.cell? ⟨gb282, 1, none⟩ = some (.int .i64 a0_1) ∧ w'.cell? ⟨gb282, 2, none⟩ = some (.int .i64 a0_2)) (ds := [14]) (mb_ 15 0) (by kernel_rfl) rfl rfl ⟨(blk_cell BK284.out 0).trans rfl, (blk_cell BK284.out 1).trans rfl, (blk_cell BK282.out 0).trans rfl, (blk_cell BK282.out 1).trans rfl, (blk_cell BK282.out 2).trans rfl⟩ (fun hHeld => ?_); refine with_tabW spec_toCampOf.tab5 spec_toCampOf.bits5 (fun HT_ HW_ => ?_)
        generalize wr.drew = w18 at HO_285000 BK282 BK283 BK284 HB hHeld ⊢
        refine pu_ 0 19 15 1 ?_
        refine pu_ 2 21 15 5 ?_
        refine pu_ 3 22 15 13 ?_
        refine pu_ 7 26 15 141 ?_
        refine tk_ 1 20 15 143 ?_ (hy := by rintro w' ⟨s0, s1, s2, s3, s4⟩; go_simp; with_reducible rfl)
        refine tk_ 4 23 15 159 ?_ (hy := by rintro w' ⟨s0, s1, s2, s3, s4⟩; go_simp; with_reducible rfl)
        refine pu_ 5 24 15 191 ?_
        refine pu_ 6 25 15 255 ?_
        refine pu_ 8 27 15 511 ?_
        refine pu_ 9 28 15 1023 ?_
        refine pu_ 10 29 15 2047 ?_
        refine on_ 11 30 15 4095 (fun K hK => ?_)
        refine value_ (w1 := ?_) (v := ?_) (by rfl) rfl ?_ ?_
        rotate_left 2
        ·
         go_simp
         constructor
         ·
          rfl
         ·
          rfl
        refine hK.out _ _ ⟨(blk_cell (ka_ BK284.out _) 0).trans rfl, (blk_cell (ka_ BK284.out _) 1).trans rfl, (blk_cell (ka_ BK282.out _) 0).trans rfl, (blk_cell (ka_ BK282.out _) 1).trans rfl, (blk_cell (ka_ BK282.out _) 2).trans rfl⟩ (fun hHeld => ?_)
        clear hK K
        refine nm_ ?_
        refine on_ 12 31 15 8191 (fun K hK => ?_)
        refine Kd.R_append_step Kd.bool (w0 := w) w.heap.size (by rfl) (.tmp 20) (.tmp 30) 25 4 (.bool false) 1 rfl Try.underlying25 info4 rfl (by decide) (by omega) u285000 x285000_1 ((Int.tmod (ji16) 2) == 1) [.bool ((Int.tmod (ji16) 2) == 1)] (fun _ => True) (fun _ => False) rfl rfl ?aP (fun _ hk => hk.elim) ?aF ?aO ?aB ?aS ?aL ?_
        (case aP => exact rfl)
        (case aB => exact bl_)
        (case aF => exact (fun _ _ => trivial))
        (case aO => exact (Kd.pR HO_285000.out))
        (case aS => exact (bz_ bl_))
        (case aL => have := LMc17.out; omega)
        intro v286 w19 ho hb hg hat
        rw [← Ny285.out] at ho
        have n0_ := ak_ (blk_grown (pk BK282.out) hg (Kd.R_ne HO_285000.out BK282.out (by decide)))
        have n1_ := ak_ (blk_grown (pk BK283.out) hg (Kd.R_ne HO_285000.out BK283.out (by decide)))
        have n2_ := ak_ (blk_grown (pk BK284.out) hg (Kd.R_ne HO_285000.out BK284.out (by decide)))
        have n3_ := ak_ (hb)
        have n4_ := ak_ (ho)
        clear BK282 BK283 BK284 HB HO_285000
        have BK282 := n0_; have BK283 := n1_; have BK284 := n2_; have HB := n3_; have HO287 := n4_
        clear n0_ n1_ n2_ n3_ n4_ ho hb hg hat
        obtain ⟨Ao20, co20, eo20⟩ := Kd.R_slice HO287.out
        (first | subst eo20 | (injection eo20 with f1_ f2_ f3_; have f4_ := f1_.symm; have f5_ := f3_.symm; clear f1_ f2_ f3_; subst f4_; subst f5_))
        refine hK.out _ _ ⟨(blk_cell BK284.out 0).trans rfl, (blk_cell BK284.out 1).trans rfl, (blk_cell BK282.out 0).trans rfl, (blk_cell BK282.out 1).trans rfl, (blk_cell BK282.out 2).trans rfl⟩ (fun hHeld => ?_)
        clear hK K
        refine nm_ ?_
        refine pu_ 13 32 15 16383 ?_
        refine last_ (i := 14) (N := none) (mb_ 15 32767) rfl rfl (one_of HT_.out (by kernel_rfl)) (by decide) (fun K hK => ?_)
        have hs21 : w19.cell? ⟨gb284, 0, none⟩ = some (u285000) := (blk_cell BK284.out 0).trans rfl
        have hfs21 := blk_frozen BK284.out 0
        have hns21_0 := NB282_284.out
        have hns21_1 := NB283_284.out
        have hms21_0 := NB284_282.out
        have hms21_1 := NB284_283.out
        refine skip_ (w1 := ?_) (by rfl) rfl ?_ ?_
        rotate_left
        ·
         go_simp
         rfl
        refine hK.out _ _ ?_
        clear hK K
        refine done_ (done_of HT_.out (by kernel_rfl)) ?_
        try go_wp2
        go_roundg k1
        case measure => have := HK1.out; omega
        case rel => exact ⟨(wrap64 (x16_1 + 1)), (y285), (.slice Ao20 y285.length co20), (ry_), H', ⟨by have := HK1.out; omega⟩, ⟨by (with_reducible repeat (first | apply Kd.R_alloc | apply Kd.R_drewN | apply Kd.R_drew)); exact Kd.R_mono (Kd.R_far (p := ⟨gb284, 0, none⟩) (Kd.R_types HO287.out BK284.out (by decide)) (fun _ hk => hk.2) (.slice Ao20 y285.length co20)) (fun _ hk => trivial)⟩, ⟨by (with_reducible repeat (first | refine kN_ ?_ _ | refine k1_ ?_ | refine ka_ ?_ _)); refine blk_far ?_ NB282_284.out _; exact pk BK282.out⟩, ⟨by (with_reducible repeat (first | refine kN_ ?_ _ | refine k1_ ?_ | refine ka_ ?_ _)); refine blk_far ?_ NB283_284.out _; exact pk BK283.out⟩, ⟨by (with_reducible repeat (first | refine kN_ ?_ _ | refine k1_ ?_ | refine ka_ ?_ _)); refine blk_put (cs := #[u285000, .int .i64 (Int.tmod a1 (wrap64 (a0_2 + 1)))]) ?_ 0 _ rfl; exact pk BK284.out⟩, ⟨by repeat (with_reducible first | exact HB.out | apply ba_ | apply bN_ | apply b1_ | refine below_set ?_ (Aside0.out (by assumption)))⟩⟩
       ·
        rw [if_neg c17] at H
        exact absurd H (by simp)
      ·
       rw [if_neg c15] at H
       exact absurd H (by simp)
    ·
     rw [if_neg c13] at H
     have c13b0 : decide (x16_1 < (l0_0.length : Int)) = false := decide_eq_false c13
     clear c13
     simp only [Option.some.injEq, Prod.mk.injEq] at H
     obtain ⟨rfl, rfl⟩ := H
     have hnb22 := NB284_282.out
     have hnc22 := NB282_284.out
     have hnb23 := NB284_283.out
     have hnc23 := NB283_284.out
     have hcz24_0 : wr.cell? ⟨gb284, 0, none⟩ = some (u285000) := (blk_cell BK284.out 0).trans rfl
     have hcz24_1 : wr.cell? ⟨gb284, 1, none⟩ = some (.int .i64 (Int.tmod a1 (wrap64 (a0_2 + 1)))) := (blk_cell BK284.out 1).trans rfl
     have hfz24_0 := blk_frozen BK284.out 0
     have hfz24_1 := blk_frozen BK284.out 1
     obtain ⟨Ao25, co25, eo25⟩ := Kd.R_slice HO_285000.out
     subst eo25
     have hnb26 := NB283_282.out
     have hnc26 := NB282_283.out
     have hcz27_0 : wr.cell? ⟨gb283, 0, none⟩ = some (.slice none 0 0) := (blk_cell BK283.out 0).trans rfl
     have hcz27_1 : wr.cell? ⟨gb283, 1, none⟩ = some (.int .i64 0) := (blk_cell BK283.out 1).trans rfl
     have hfz27_0 := blk_frozen BK283.out 0
     have hfz27_1 := blk_frozen BK283.out 1
     go_wp2
     refine bodyPost_ret (results_cell_row rfl _ _ gb283 35 #[.slice Ao25 x285000_1.length co25, .int .i64 (Int.tmod a1 (wrap64 (a0_2 + 1)))] (0, 0) _ rfl (by (with_reducible repeat (first | refine kN_ ?_ _ | refine k1_ ?_ | refine ka_ ?_ _)); refine blk_put (cs := #[.slice Ao25 x285000_1.length co25, .int .i64 0]) ?_ 1 _ rfl; (with_reducible repeat (first | refine kN_ ?_ _ | refine k1_ ?_ | refine ka_ ?_ _)); refine blk_put (cs := #[.slice none 0 0, .int .i64 0]) ?_ 0 _ rfl; exact pk BK283.out) Try.underlying35 rfl (by kernel_rfl)) rfl ?_
     exact ⟨_, rx_, by (with_reducible repeat (first | apply Kd.R_alloc | apply Kd.R_drewN | apply Kd.R_drew)); exact Kd.R_mono (Kd.R_far (p := ⟨gb283, 1, none⟩) (Kd.R_far (p := ⟨gb283, 0, none⟩) (Kd.R_types HO_285000.out BK283.out (by decide)) (fun _ hk => hk.2) (.slice Ao25 x285000_1.length co25)) (fun _ hk => hk.2) (.int .i64 (Int.tmod a1 (wrap64 (a0_2 + 1))))) (fun _ hk => trivial), by repeat (with_reducible first | exact HB.out | apply ba_ | apply bN_ | apply b1_ | refine below_set ?_ (Aside0.out (by assumption)))⟩
def spec_toCode.l0 : Nat → Int → List Bool → Int → Int → List Int → Int → Int → Option (Int)
 | 0, _, _, _, _, _, _, _ => none
 | k + 1, x5, x11, x12, x13, x289000, x289001, x289002 => if x13 < x12 then (if 0 ≤ x13 then (if x13 < (x11.length : Int) then (if rdOf false x11 x13 = true then (spec_toCode.l0 k (wrap64 (x5 + (shl .i64 (wrap64 (x289002 + 1)) x13))) x11 x12 (wrap64 (x13 + 1)) x289000 x289001 x289002) else (spec_toCode.l0 k x5 x11 x12 (wrap64 (x13 + 1)) x289000 x289001 x289002)) else (none)) else (none)) else (some x5)
def spec_toCode.f (k : Nat) (l0_0 : List Int) (a0_1 : Int) (a0_2 : Int) (l1_0 : List Bool) (a1_1 : Int) : Option (Int) := spec_toCode.l0 k a1_1 l1_0 (l1_0.length : Int) 0 l0_0 a0_1 a0_2
theorem spec_toCode.mono_l : ∀ k, (∀ y0 y1 y2 y3 y4 y5 y6, LeO (spec_toCode.l0 k y0 y1 y2 y3 y4 y5 y6) (spec_toCode.l0 (k + 1) y0 y1 y2 y3 y4 y5 y6))
 | 0 => fun _ _ _ _ _ _ _ r h => by simp [spec_toCode.l0] at h
 | k + 1 => by
  have ih0 := spec_toCode.mono_l k
  ·intro y0 y1 y2 y3 y4 y5 y6
   unfold spec_toCode.l0
   repeat' first
   | (with_reducible first | exact ih0 _ _ _ _ _ _ _ | exact LeO.refl _ | exact LeO.none _ | refine LeO.ite ?_ ?_ | refine LeO.bind ?_ (fun _ => ?_))
   | exact ih0 _ _ _ _ _ _ _
   | exact LeO.none _
   | refine LeO.ite ?_ ?_
   | refine LeO.bind ?_ (fun _ => ?_)
theorem spec_toCode.mono : ∀ a0 a1 a2 a3 a4 k, LeO (spec_toCode.f k a0 a1 a2 a3 a4) (spec_toCode.f (k + 1) a0 a1 a2 a3 a4) := by
 intro a0 a1 a2 a3 a4 k
 have ih0 := spec_toCode.mono_l k
 unfold spec_toCode.f
 repeat' first
  | (with_reducible first | exact ih0 _ _ _ _ _ _ _ | exact LeO.refl _ | exact LeO.none _ | refine LeO.ite ?_ ?_ | refine LeO.bind ?_ (fun _ => ?_))
  | exact ih0 _ _ _ _ _ _ _
  | exact LeO.none _
  | refine LeO.ite ?_ ?_
  | refine LeO.bind ?_ (fun _ => ?_)
theorem spec_toCode.calls (k : Nat) (A0_0 : Option Addr) (c0_0 : Nat) (l0_0 : List Int) (a0_1 : Int) (a0_2 : Int) (A1_0 : Option Addr) (c1_0 : Nat) (l1_0 : List Bool) (a1_1 : Int) (r : Int) (w : World) (hr0_0 : Kd.C (Kd.int .i64) w A0_0 l0_0.length l0_0) (hc0_0 : l0_0.length ≤ c0_0) (hr1_0 : Kd.C Kd.bool w A1_0 l1_0.length l1_0) (hc1_0 : l1_0.length ≤ c1_0) (h : spec_toCode.f k l0_0 a0_1 a0_2 l1_0 a1_1 = some r) :
  Calls Try.prog 52 #[.agg #[.slice A0_0 l0_0.length c0_0, .int .i64 a0_1, .int .i64 a0_2], .agg #[.slice A1_0 l1_0.length c1_0, .int .i64 a1_1]] w fun e w' => e = .returned (.int .i64 r) ∧ Below w.heap.size w w' := by
 have hu33 := Try.underlying33
 have hu35 := Try.underlying35
 have HR0_0 := ak_ hr0_0
 have HC0_0 := ak_ hc0_0
 clear hr0_0 hc0_0
 have HR1_0 := ak_ hr1_0
 have HC1_0 := ak_ hc1_0
 clear hr1_0 hc1_0
 have HB := ak_ (Below.refl w.heap.size w)
 have H : (spec_toCode.l0 k a1_1 l1_0 (l1_0.length : Int) 0 l0_0 a0_1 a0_2) = some r := h
 clear h
 have H' := ak_ H
 clear H
 go_enter Try.func52, Try.ntmps52
 go_wp2_with (first | ((with_reducible refine gate_dst (N := 2) rfl ?_); refine bx_ 2 #[.slice A0_0 l0_0.length c0_0, .int .i64 a0_1, .int .i64 a0_2] 33 ?_; intro gb288 hg w3 hbox hb; have n0_ := ak_ (bs_ (bb_ HB.out) hb); have n1_ := ak_ (hbox); have n2_ := ak_ ((by rw [hg]; exact (bz_ (bb_ HB.out)) : w.heap.size ≤ gb288)); have n3_ := n2_; clear HB; have HB := n0_; have BK288 := n1_; have GW288 := n2_; have GE288 := n3_; clear n0_ n1_ n2_ n3_; clear hb hbox hg) | ((with_reducible refine gate_dst (N := 3) rfl ?_); refine bx_ 3 #[.slice A1_0 l1_0.length c1_0, .int .i64 a1_1] 35 ?_; intro gb289 hg w4 hbox hb; have n0_ := ak_ (blk_below (pk BK288.out) hb); have n1_ := ak_ (bs_ bl_ hb); have n2_ := ak_ (hbox); have n3_ := ak_ ((by rw [hg]; exact (bz_ bl_) : w.heap.size ≤ gb289)); have n4_ := n3_; have n5_ := ak_ ((by rw [hg]; exact Nat.ne_of_lt (blk_lt (pk BK288.out)) : gb288 ≠ gb289)); have n6_ := ak_ n5_.out.symm; clear BK288; clear HB; have BK288 := n0_; have HB := n1_; have BK289 := n2_; have GW289 := n3_; have GE289 := n4_; have NB288_289 := n5_; have NB289_288 := n6_; clear n0_ n1_ n2_ n3_ n4_ n5_ n6_; clear hb hbox hg; have hnb5 := NB289_288.out; have hnc5 := NB288_289.out; have hcz6_0 : w4.cell? ⟨gb289, 0, none⟩ = some (.slice A1_0 l1_0.length c1_0) := (blk_cell BK289.out 0).trans rfl; have hcz6_1 : w4.cell? ⟨gb289, 1, none⟩ = some (.int .i64 a1_1) := (blk_cell BK289.out 1).trans rfl; have hfz6_0 := blk_frozen BK289.out 0; have hfz6_1 := blk_frozen BK289.out 1))
 go_loopg [5, 13] k (fun kq v5 v13 w' => ∃ (x5_1 : Int) (x13_1 : Int), v5 = .int .i64 x5_1 ∧ v13 = .int .i64 x13_1 ∧ Aside0 (spec_toCode.l0 kq x5_1 l1_0 (l1_0.length : Int) x13_1 l0_0 a0_1 a0_2 = some r) ∧ Aside0 (kq ≤ k) ∧ Aside0 (w'.heap[gb288]? = some (.cells #[(.slice A0_0 l0_0.length c0_0), .int .i64 a0_1, .int .i64 a0_2] 33 (0, 0))) ∧ Aside0 (w'.heap[gb289]? = some (.cells #[(.slice A1_0 l1_0.length c1_0), .int .i64 a1_1] 35 (0, 0))) ∧ Aside0 (Below w.heap.size w w'))
 case atStart => exact ⟨(a1_1), (0), (ry_), (ry_), H', ⟨Nat.le_refl _⟩, ⟨pk BK288.out⟩, ⟨pk BK289.out⟩, ⟨by repeat (with_reducible first | exact HB.out | apply ba_ | apply bN_ | apply b1_ | refine below_set ?_ (Aside0.out (by assumption)))⟩⟩
 case round =>
  clear H'
  try clear c1
  try clear p2
  try clear c5
  try clear hcz6_0
  try clear hcz6_1
  try clear hfz6_0
  try clear hfz6_1
  obtain ⟨x5_1, x13_1, rfl, rfl, HA, HK1, BK288, BK289, HB⟩ := hrel
  cases gk with
  | zero => exact absurd HA.out (by simp [spec_toCode.l0])
  | succ k1 =>
   have H := HA.out
   clear HA
   simp only [spec_toCode.l0] at H
   by_cases c7 : x13_1 < (l1_0.length : Int)
   ·
    rw [if_pos c7] at H
    have c7b0 : decide (x13_1 < (l1_0.length : Int)) = true := decide_eq_true c7
    clear c7
    by_cases c8 : 0 ≤ x13_1
    ·
     rw [if_pos c8] at H
     have c8b0 : decide (0 ≤ x13_1) = true := decide_eq_true c8
     clear c8
     by_cases c9 : x13_1 < (l1_0.length : Int)
     ·
      rw [if_pos c9] at H
      have c9b0 : decide (x13_1 < (l1_0.length : Int)) = true := decide_eq_true c9
      clear c9
      obtain ⟨bq10, hbq10⟩ : ∃ b_ : Bool, b_ = (rdOf false l1_0 x13_1) := ⟨_, rfl⟩
      replace H : (if bq10 = true then (spec_toCode.l0 k1 (wrap64 (x5_1 + (shl .i64 (wrap64 (a0_2 + 1)) x13_1))) l1_0 (l1_0.length : Int) (wrap64 (x13_1 + 1)) l0_0 a0_1 a0_2) else (spec_toCode.l0 k1 x5_1 l1_0 (l1_0.length : Int) (wrap64 (x13_1 + 1)) l0_0 a0_1 a0_2)) = some r := by rw [← hbq10] at H; exact H
      have Nbq10 := ak_ hbq10
      clear hbq10
      by_cases c11 : bq10 = true
      ·
       subst c11
       have H1 : (spec_toCode.l0 k1 (wrap64 (x5_1 + (shl .i64 (wrap64 (a0_2 + 1)) x13_1))) l1_0 (l1_0.length : Int) (wrap64 (x13_1 + 1)) l0_0 a0_1 a0_2) = some r := by rw [if_pos rfl] at H; exact H
       clear H
       have H := H1
       clear H1
       have c12b0 := eq_true (odt_ (by assumption) : 0 ≤ x13_1)
       obtain ⟨ji13, hji13⟩ : ∃ j_ : Int, (shl .i64 (wrap64 (a0_2 + 1)) x13_1) = j_ := ⟨_, rfl⟩
       replace H : (spec_toCode.l0 k1 (wrap64 (x5_1 + (ji13))) l1_0 (l1_0.length : Int) (wrap64 (x13_1 + 1)) l0_0 a0_1 a0_2) = some r := by first | (rw [hji13] at H; exact H) | (simp only [hji13] at H ⊢; exact H)
       have hji13_ : (IntKind.i64.wrap ((wrap64 (a0_2 + 1)) * 2 ^ min x13_1.toNat 64)) = ji13 := hji13
       have hji13z : x13_1 ≤ 64 → (IntKind.i64.wrap ((wrap64 (a0_2 + 1)) * 2 ^ x13_1.toNat)) = ji13 := shl_small hji13
       have hji13y : (wrap64 ((wrap64 (a0_2 + 1)) * 2 ^ min x13_1.toNat 64)) = ji13 := (i64_w _).symm.trans hji13_
       have hji13x : x13_1 ≤ 64 → (wrap64 ((wrap64 (a0_2 + 1)) * 2 ^ x13_1.toNat)) = ji13 := fun h_ => (i64_w _).symm.trans (hji13z h_)
       have H' := ak_ H
       clear H
       have p290 : 0 ≤ (x13_1 : Int) := odt_ (by assumption)
       have q290 : x13_1 < (l1_0.length : Int) := odt_ (by assumption)
       obtain ⟨ad290, e290, hx290_0⟩ := Kd.at_bool HR1_0.out x13_1 p290 q290
       (try rw [← Nbq10.out] at hx290_0)
       cases e290
       try replace hx290_0 := (HB.out.cell (World.block_lt_of_cell? w _ hx290_0)).trans hx290_0
       replace p290 := eq_true p290
       replace q290 := eq_true q290
       have hnb14 := NB288_289.out
       have hnc14 := NB289_288.out
       have hcz15_0 : wr.cell? ⟨gb288, 0, none⟩ = some (.slice A0_0 l0_0.length c0_0) := (blk_cell BK288.out 0).trans rfl
       have hcz15_1 : wr.cell? ⟨gb288, 1, none⟩ = some (.int .i64 a0_1) := (blk_cell BK288.out 1).trans rfl
       have hcz15_2 : wr.cell? ⟨gb288, 2, none⟩ = some (.int .i64 a0_2) := (blk_cell BK288.out 2).trans rfl
       have hfz15_0 := blk_frozen BK288.out 0
       have hfz15_1 := blk_frozen BK288.out 1
       have hfz15_2 := blk_frozen BK288.out 2
       go_wp2
       go_roundg k1
       case measure => have := HK1.out; omega
       case rel => exact ⟨(wrap64 (x5_1 + (ji13))), (wrap64 (x13_1 + 1)), (by first | rfl | (simp; done) | (simp only [← hji13] <;> (first | rfl | simp)) | (simp [*]; done)), (ry_), H', ⟨by have := HK1.out; omega⟩, ⟨pk BK288.out⟩, ⟨pk BK289.out⟩, ⟨by repeat (with_reducible first | exact HB.out | apply ba_ | apply bN_ | apply b1_ | refine below_set ?_ (Aside0.out (by assumption)))⟩⟩
      ·
       replace c11 := Bool.eq_false_iff.mpr c11
       subst c11
       have H1 : (spec_toCode.l0 k1 x5_1 l1_0 (l1_0.length : Int) (wrap64 (x13_1 + 1)) l0_0 a0_1 a0_2) = some r := by rw [if_neg (show ¬ (false = true) by decide)] at H; exact H
       clear H
       have H := H1
       clear H1
       have H' := ak_ H
       clear H
       have p290 : 0 ≤ (x13_1 : Int) := odt_ (by assumption)
       have q290 : x13_1 < (l1_0.length : Int) := odt_ (by assumption)
       obtain ⟨ad290, e290, hx290_0⟩ := Kd.at_bool HR1_0.out x13_1 p290 q290
       (try rw [← Nbq10.out] at hx290_0)
       cases e290
       try replace hx290_0 := (HB.out.cell (World.block_lt_of_cell? w _ hx290_0)).trans hx290_0
       replace p290 := eq_true p290
       replace q290 := eq_true q290
       go_wp2
       go_roundg k1
       case measure => have := HK1.out; omega
       case rel => exact ⟨(x5_1), (wrap64 (x13_1 + 1)), (ry_), (ry_), H', ⟨by have := HK1.out; omega⟩, ⟨pk BK288.out⟩, ⟨pk BK289.out⟩, ⟨by repeat (with_reducible first | exact HB.out | apply ba_ | apply bN_ | apply b1_ | refine below_set ?_ (Aside0.out (by assumption)))⟩⟩
     ·
      rw [if_neg c9] at H
      exact absurd H (by simp)
    ·
     rw [if_neg c8] at H
     exact absurd H (by simp)
   ·
    rw [if_neg c7] at H
    have c7b0 : decide (x13_1 < (l1_0.length : Int)) = false := decide_eq_false c7
    clear c7
    obtain rfl := Option.some.inj H
    go_wp2
    go_ret
    exact ⟨rx_, by repeat (with_reducible first | exact HB.out | apply ba_ | apply bN_ | apply b1_ | refine below_set ?_ (Aside0.out (by assumption)))⟩
end Go.Proofs.Ytmdbhpbogbekmaa.QNt
