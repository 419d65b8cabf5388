/- Contracts of functions of the given program, walked: each call returns what its Lean function says. Conditions: those that stand at each theorem. (Written by a program of this session.) -/
import Derived.Test.YtkgbahokhifojaaQHidx0
import Derived.Test.YtkgbahokhifojaaQHidx3
import Derived.Test.YtkgbahokhifojaaQHidx18
import Derived.Test.YtkgbahokhifojaaQHidx21
import Derived.Test.YtkgbahokhifojaaQHidx23
namespace Go.Proofs.Ytkgbahokhifojaa.QHid
open Go.RowKit Go.Proofs.YtkgbahokhifojaaW.PrintWords Go.Proofs.YtkgbahokhifojaaW.PrintLast Go.Proofs.YtkgbahokhifojaaW.PrintMore
attribute [local go_sem] max2_int min2_int max_two min_two max_three min_three max_four min_four   -- for this text's walks alone
set_option linter.unusedVariables false
set_option linter.unusedSimpArgs false

/-! ### spec_SureTimes: function 14 -/
mutual
def spec_SureTimes.l0 : Nat → List Int → List (List Int) → Int → Int → Option (List Int × Bool)
  | 0, _, _, _, _ => none
  | k + 1, x5, x25, x26, x27 => if x27 < x26 then (if 0 ≤ x27 then (if x27 < (x25.length : Int) then (spec_SureTimes.l1 k x5 x25 x26 x27 (rd_L1 x25 x27) ((rd_L1 x25 x27).length : Int) 0) else (none)) else (none)) else (some (x5, true))
def spec_SureTimes.l1 : Nat → List Int → List (List Int) → Int → Int → List Int → Int → Int → Option (List Int × Bool)
  | 0, _, _, _, _, _, _, _ => none
  | k + 1, x5, x25, x26, x27, x31, x32, x33 => if x33 < x32 then (if 0 ≤ x33 then (if x33 < (x31.length : Int) then (if x33 < (x5.length : Int) then (if (rd x5 x33) = (rd x31 x33) then (spec_SureTimes.l1 k x5 x25 x26 x27 x31 x32 (wrap64 (x33 + 1))) else (spec_SureTimes.l1 k (x5.set (x33 : Int).toNat 0) x25 x26 x27 x31 x32 (wrap64 (x33 + 1)))) else (none)) else (none)) else (none)) else (spec_SureTimes.l0 k x5 x25 x26 (wrap64 (x27 + 1)))
end
def spec_SureTimes.f (k : Nat) (a0_0 : Int) (l0_1 : List (S45)) : Option (List Int × Bool) := (spec_pzGood.f k a0_0 l0_1).bind fun t913 => (if t913 = true then ((spec_pzAll.f k a0_0 l0_1).bind fun t914 => (if (t914.length : Int) = 0 then (some (([] : List Int), false)) else (if 0 < (t914.length : Int) then ((spec_l1Own.f (rd_L1 t914 0)).bind fun t918 => (spec_SureTimes.l0 k t918 t914 (t914.length : Int) 0)) else (none)))) else (some (([] : List Int), false)))
theorem spec_SureTimes.mono_l : ∀ k, (∀ y0 y1 y2 y3, LeO (spec_SureTimes.l0 k y0 y1 y2 y3) (spec_SureTimes.l0 (k + 1) y0 y1 y2 y3)) ∧ (∀ y0 y1 y2 y3 y4 y5 y6, LeO (spec_SureTimes.l1 k y0 y1 y2 y3 y4 y5 y6) (spec_SureTimes.l1 (k + 1) y0 y1 y2 y3 y4 y5 y6))
  | 0 => ⟨fun _ _ _ _ r h => by simp [spec_SureTimes.l0] at h, fun _ _ _ _ _ _ _ r h => by simp [spec_SureTimes.l1] at h⟩
  | k + 1 => by
    obtain ⟨ih0, ih1⟩ := spec_SureTimes.mono_l k
    refine ⟨?_, ?_⟩
    · intro y0 y1 y2 y3
      unfold spec_SureTimes.l0
      repeat' first
      | (with_reducible exact ih0 _ _ _ _)
      | (with_reducible exact ih1 _ _ _ _ _ _ _)
      | (with_reducible exact spec_pzAll.mono _ _ _)
      | (with_reducible exact spec_pzGood.mono _ _ _)
      | (with_reducible exact LeO.refl _)
      | (with_reducible exact LeO.none _)
      | (with_reducible refine LeO.ite ?_ ?_)
      | (with_reducible refine LeO.bind ?_ (fun _ => ?_))
      | exact ih0 _ _ _ _
      | exact ih1 _ _ _ _ _ _ _
      | exact spec_pzAll.mono _ _ _
      | exact spec_pzGood.mono _ _ _
      | exact LeO.none _
      | refine LeO.ite ?_ ?_
      | refine LeO.bind ?_ (fun _ => ?_)
    · intro y0 y1 y2 y3 y4 y5 y6
      unfold spec_SureTimes.l1
      repeat' first
      | (with_reducible exact ih0 _ _ _ _)
      | (with_reducible exact ih1 _ _ _ _ _ _ _)
      | (with_reducible exact spec_pzAll.mono _ _ _)
      | (with_reducible exact spec_pzGood.mono _ _ _)
      | (with_reducible exact LeO.refl _)
      | (with_reducible exact LeO.none _)
      | (with_reducible refine LeO.ite ?_ ?_)
      | (with_reducible refine LeO.bind ?_ (fun _ => ?_))
      | exact ih0 _ _ _ _
      | exact ih1 _ _ _ _ _ _ _
      | exact spec_pzAll.mono _ _ _
      | exact spec_pzGood.mono _ _ _
      | exact LeO.none _
      | refine LeO.ite ?_ ?_
      | refine LeO.bind ?_ (fun _ => ?_)
theorem spec_SureTimes.mono : ∀ a0 a1 k, LeO (spec_SureTimes.f k a0 a1) (spec_SureTimes.f (k + 1) a0 a1) := by
  intro a0 a1 k
  obtain ⟨ih0, ih1⟩ := spec_SureTimes.mono_l k
  unfold spec_SureTimes.f
  repeat' first
      | (with_reducible exact ih0 _ _ _ _)
      | (with_reducible exact ih1 _ _ _ _ _ _ _)
      | (with_reducible exact spec_pzAll.mono _ _ _)
      | (with_reducible exact spec_pzGood.mono _ _ _)
      | (with_reducible exact LeO.refl _)
      | (with_reducible exact LeO.none _)
      | (with_reducible refine LeO.ite ?_ ?_)
      | (with_reducible refine LeO.bind ?_ (fun _ => ?_))
      | exact ih0 _ _ _ _
      | exact ih1 _ _ _ _ _ _ _
      | exact spec_pzAll.mono _ _ _
      | exact spec_pzGood.mono _ _ _
      | exact LeO.none _
      | refine LeO.ite ?_ ?_
      | refine LeO.bind ?_ (fun _ => ?_)
set_option maxHeartbeats 8000000 in
set_option maxRecDepth 100000 in
theorem spec_SureTimes.calls (k : Nat) (a0_0 : Int) (A0_1 : Option Addr) (c0_1 : Nat) (l0_1 : List (S45)) (r1 : List Int) (r2 : Bool) (w : World) (hr0_1 : Kd.C k45 w A0_1 l0_1.length l0_1) (hc0_1 : l0_1.length ≤ c0_1) (h : spec_SureTimes.f k a0_0 l0_1 = some (r1, r2)) :
  Calls Try.prog 14 #[.agg #[.int .i64 a0_0, .slice A0_1 l0_1.length c0_1]] w fun e w' => ∃ v0_ : Value, e = .returned (.tuple #[v0_, .bool r2]) ∧ Kd.R (Kd.int .i64) 3 w' w.heap.size (fun _ => True) v0_ r1 ∧ Below w.heap.size w w' := by
 have hu31 := Try.underlying31
 have HR0_1 := Aside0.mk hr0_1
 have HC0_1 := Aside0.mk hc0_1
 clear hr0_1 hc0_1
 have HB := Aside0.mk (Below.refl w.heap.size w)
 have H : ((spec_pzGood.f k a0_0 l0_1).bind fun t913 => (if t913 = true then ((spec_pzAll.f k a0_0 l0_1).bind fun t914 => (if (t914.length : Int) = 0 then (some (([] : List Int), false)) else (if 0 < (t914.length : Int) then ((spec_l1Own.f (rd_L1 t914 0)).bind fun t918 => (spec_SureTimes.l0 k t918 t914 (t914.length : Int) 0)) else (none)))) else (some (([] : List Int), false)))) = some (r1, r2) := h
 clear h
 replace H := Option.bind_eq_some_iff.mp H
 obtain ⟨t913, A20, H⟩ := H
 replace H : (if t913 = true then ((spec_pzAll.f k a0_0 l0_1).bind fun t914 => (if (t914.length : Int) = 0 then (some (([] : List Int), false)) else (if 0 < (t914.length : Int) then ((spec_l1Own.f (rd_L1 t914 0)).bind fun t918 => (spec_SureTimes.l0 k t918 t914 (t914.length : Int) 0)) else (none)))) else (some (([] : List Int), false))) = some (r1, r2) := H
 have A2 := Aside0.mk A20
 clear A20
 by_cases c3 : t913 = true
 ·
  subst c3
  have H1 : ((spec_pzAll.f k a0_0 l0_1).bind fun t914 => (if (t914.length : Int) = 0 then (some (([] : List Int), false)) else (if 0 < (t914.length : Int) then ((spec_l1Own.f (rd_L1 t914 0)).bind fun t918 => (spec_SureTimes.l0 k t918 t914 (t914.length : Int) 0)) else (none)))) = some (r1, r2) := by rw [if_pos rfl] at H; exact H
  clear H
  have H := H1
  clear H1
  replace H := Option.bind_eq_some_iff.mp H
  obtain ⟨t914, A40, H⟩ := H
  replace H : (if (t914.length : Int) = 0 then (some (([] : List Int), false)) else (if 0 < (t914.length : Int) then ((spec_l1Own.f (rd_L1 t914 0)).bind fun t918 => (spec_SureTimes.l0 k t918 t914 (t914.length : Int) 0)) else (none))) = some (r1, r2) := H
  have A4 := Aside0.mk A40
  clear A40
  by_cases c5 : (t914.length : Int) = 0
  ·
   rw [if_pos c5] at H
   have c5b0 : ((t914.length : Int) == 0) = true := beq_iff_eq.mpr c5
   have c5b1 : ((t914.length : Int) != 0) = false := bne_eq_false_iff_eq.mpr c5
   clear c5
   simp only [Option.some.injEq, Prod.mk.injEq] at H
   obtain ⟨rfl, rfl⟩ := H
   go_enter Try.func14, Try.ntmps14
   go_wp2_with (first | ((with_reducible refine gate_dst (N := 1) rfl ?_); refine box_event ?hg (N := 1) ?hd (cs := #[.int .i64 a0_0, .slice A0_1 l0_1.length c0_1]) (t := 31) ?hr ?_; (case hd => rfl); (case hg => rfl); (case hr => first | (go_simp; done) | (go_simp; rfl)); intro gb912 hg w6 hbox hb; have n0_ := Aside0.mk (below_step (by repeat (first | (with_reducible first | exact HB.out | apply below_alloc | apply pw_below_drewN | apply below_drew1) | exact HB.out)) hb); have n1_ := Aside0.mk (hbox); have n2_ := Aside0.mk ((by rw [hg]; exact (below_size (by repeat (first | (with_reducible first | exact HB.out | apply below_alloc | apply pw_below_drewN | apply below_drew1) | exact HB.out))) : w.heap.size ≤ gb912)); have n3_ := n2_; clear HB; have HB := n0_; have BK912 := n1_; have GW912 := n2_; have GE912 := n3_; clear n0_ n1_ n2_ n3_; clear hb hbox hg; have hcz7_0 : w6.cell? ⟨gb912, 0, none⟩ = some (.int .i64 a0_0) := (blk_cell BK912.out 0).trans rfl; have hcz7_1 : w6.cell? ⟨gb912, 1, none⟩ = some (.slice A0_1 l0_1.length c0_1) := (blk_cell BK912.out 1).trans rfl; have hfz7_0 := blk_frozen BK912.out 0; have hfz7_1 := blk_frozen BK912.out 1) | ((with_reducible refine gate_callee (f := 47) rfl ?_); refine goesL_ (some 11) rfl rfl Try.func47 (by kernel_rfl) rfl #[.agg #[.int .i64 a0_0, .slice A0_1 l0_1.length c0_1]] rfl (by (try simp only [List.map_toArray, List.map_cons, List.map_nil]); first | done | rfl | (simp only [List.length_drop, List.length_take]; rfl)) ?_; (with_reducible refine (spec_pzGood.calls k a0_0 _ _ l0_1 true _ ?side1 ?side2 A2.out).mono ?_); (case side1 => repeat (first | exact (Kd.C_below HR0_1.out HB.out) | (with_reducible refine Kd.C_alloc ?_ _) | (with_reducible refine Kd.C_drewN ?_ _) | (with_reducible refine Kd.C_drew ?_))); (case side2 => exact HC0_1.out); rintro e w8 ⟨rfl, hb⟩; refine ⟨_, rfl, ?_⟩; have n0_ := Aside0.mk (blk_below (pk BK912.out) hb); have n1_ := Aside0.mk (below_step (by repeat (first | (with_reducible first | exact HB.out | apply below_alloc | apply pw_below_drewN | apply below_drew1 | refine below_set ?_ GE912.out) | exact HB.out)) hb); clear BK912; clear HB; have BK912 := n0_; have HB := n1_; clear n0_ n1_; (try clear hb); (try clear hb2); (try clear hk); (try clear hi); have hcz9_0 : w8.cell? ⟨gb912, 0, none⟩ = some (.int .i64 a0_0) := (blk_cell BK912.out 0).trans rfl; have hcz9_1 : w8.cell? ⟨gb912, 1, none⟩ = some (.slice A0_1 l0_1.length c0_1) := (blk_cell BK912.out 1).trans rfl; have hfz9_0 := blk_frozen BK912.out 0; have hfz9_1 := blk_frozen BK912.out 1) | ((with_reducible refine gate_callee (f := 48) rfl ?_); refine goesL_ (some 17) rfl rfl Try.func48 (by kernel_rfl) rfl #[.int .i64 a0_0, .slice A0_1 l0_1.length c0_1] rfl (by (try simp only [List.map_toArray, List.map_cons, List.map_nil]); first | done | rfl | (simp only [List.length_drop, List.length_take]; rfl)) ?_; (with_reducible refine (spec_pzAll.calls k a0_0 _ _ l0_1 t914 _ ?side1 ?side2 A4.out).mono ?_); (case side1 => repeat (first | exact (Kd.C_below HR0_1.out HB.out) | (with_reducible refine Kd.C_alloc ?_ _) | (with_reducible refine Kd.C_drewN ?_ _) | (with_reducible refine Kd.C_drew ?_))); (case side2 => exact HC0_1.out); rintro e w10 ⟨v915, rfl, ho0, hb⟩; refine ⟨_, rfl, ?_⟩; have n0_ := Aside0.mk (Kd.S_lower ho0 (below_size (by repeat (first | (with_reducible first | exact HB.out | apply below_alloc | apply pw_below_drewN | apply below_drew1 | refine below_set ?_ GE912.out) | exact HB.out)))); have n1_ := Aside0.mk (blk_below (pk BK912.out) hb); have n2_ := Aside0.mk (below_step (by repeat (first | (with_reducible first | exact HB.out | apply below_alloc | apply pw_below_drewN | apply below_drew1 | refine below_set ?_ GE912.out) | exact HB.out)) hb); clear BK912; clear HB; have HO916 := n0_; have BK912 := n1_; have HB := n2_; clear n0_ n1_ n2_; (try clear hb); (try clear hb2); (try clear hk); (try clear hi); (try clear ho0); obtain ⟨Ao11, co11, eo11⟩ := Kd.S_slice HO916.out; subst eo11))
   go_ret2
   exact ⟨_, by first | rfl | (simp [errW_none, errW_some] <;> rfl) | (simp [*, errW_none, errW_some] <;> rfl), by first | exact Kd.R_nil _ _ _ _ _ | exact Kd.N_nil _ _ _ _ _ | exact Kd.V_nil _ _ _ _ _ | exact Kd.Q_nil _ _ _ _ _ | exact Kd.S_nil _ _ _ _ _, by repeat (first | (with_reducible first | exact HB.out | apply below_alloc | apply pw_below_drewN | apply below_drew1 | refine below_set ?_ GE912.out) | exact HB.out)⟩
  ·
   rw [if_neg c5] at H
   have c5b0 : ((t914.length : Int) == 0) = false := beq_eq_false_iff_ne.mpr c5
   have c5b1 : ((t914.length : Int) != 0) = true := bne_iff_ne.mpr c5
   have c5b2 : ¬ (t914 = []) := fun h_ => c5 (by rw [h_]; rfl)
   by_cases c12 : 0 < (t914.length : Int)
   ·
    rw [if_pos c12] at H
    have c12b0 : decide (0 < (t914.length : Int)) = true := decide_eq_true c12
    have c12b1 : decide (0 < t914.length) = true := decide_eq_true (by omega)
    clear c12
    replace H := Option.bind_eq_some_iff.mp H
    obtain ⟨t918, A130, H⟩ := H
    replace H : (spec_SureTimes.l0 k t918 t914 (t914.length : Int) 0) = some (r1, r2) := H
    have A13 := Aside0.mk A130
    clear A130
    have H' := Aside0.mk H
    clear H
    go_enter Try.func14, Try.ntmps14
    go_wp2_with (first | ((with_reducible refine gate_dst (N := 1) rfl ?_); refine box_event ?hg (N := 1) ?hd (cs := #[.int .i64 a0_0, .slice A0_1 l0_1.length c0_1]) (t := 31) ?hr ?_; (case hd => rfl); (case hg => rfl); (case hr => first | (go_simp; done) | (go_simp; rfl)); intro gb912 hg w14 hbox hb; have n0_ := Aside0.mk (below_step (by repeat (first | (with_reducible first | exact HB.out | apply below_alloc | apply pw_below_drewN | apply below_drew1) | exact HB.out)) hb); have n1_ := Aside0.mk (hbox); have n2_ := Aside0.mk ((by rw [hg]; exact (below_size (by repeat (first | (with_reducible first | exact HB.out | apply below_alloc | apply pw_below_drewN | apply below_drew1) | exact HB.out))) : w.heap.size ≤ gb912)); have n3_ := n2_; clear HB; have HB := n0_; have BK912 := n1_; have GW912 := n2_; have GE912 := n3_; clear n0_ n1_ n2_ n3_; clear hb hbox hg; have hcz15_0 : w14.cell? ⟨gb912, 0, none⟩ = some (.int .i64 a0_0) := (blk_cell BK912.out 0).trans rfl; have hcz15_1 : w14.cell? ⟨gb912, 1, none⟩ = some (.slice A0_1 l0_1.length c0_1) := (blk_cell BK912.out 1).trans rfl; have hfz15_0 := blk_frozen BK912.out 0; have hfz15_1 := blk_frozen BK912.out 1) | ((with_reducible refine gate_callee (f := 47) rfl ?_); refine goesL_ (some 11) rfl rfl Try.func47 (by kernel_rfl) rfl #[.agg #[.int .i64 a0_0, .slice A0_1 l0_1.length c0_1]] rfl (by (try simp only [List.map_toArray, List.map_cons, List.map_nil]); first | done | rfl | (simp only [List.length_drop, List.length_take]; rfl)) ?_; (with_reducible refine (spec_pzGood.calls k a0_0 _ _ l0_1 true _ ?side1 ?side2 A2.out).mono ?_); (case side1 => repeat (first | exact (Kd.C_below HR0_1.out HB.out) | (with_reducible refine Kd.C_alloc ?_ _) | (with_reducible refine Kd.C_drewN ?_ _) | (with_reducible refine Kd.C_drew ?_))); (case side2 => exact HC0_1.out); rintro e w16 ⟨rfl, hb⟩; refine ⟨_, rfl, ?_⟩; have n0_ := Aside0.mk (blk_below (pk BK912.out) hb); have n1_ := Aside0.mk (below_step (by repeat (first | (with_reducible first | exact HB.out | apply below_alloc | apply pw_below_drewN | apply below_drew1 | refine below_set ?_ GE912.out) | exact HB.out)) hb); clear BK912; clear HB; have BK912 := n0_; have HB := n1_; clear n0_ n1_; (try clear hb); (try clear hb2); (try clear hk); (try clear hi); have hcz17_0 : w16.cell? ⟨gb912, 0, none⟩ = some (.int .i64 a0_0) := (blk_cell BK912.out 0).trans rfl; have hcz17_1 : w16.cell? ⟨gb912, 1, none⟩ = some (.slice A0_1 l0_1.length c0_1) := (blk_cell BK912.out 1).trans rfl; have hfz17_0 := blk_frozen BK912.out 0; have hfz17_1 := blk_frozen BK912.out 1) | ((with_reducible refine gate_callee (f := 48) rfl ?_); refine goesL_ (some 17) rfl rfl Try.func48 (by kernel_rfl) rfl #[.int .i64 a0_0, .slice A0_1 l0_1.length c0_1] rfl (by (try simp only [List.map_toArray, List.map_cons, List.map_nil]); first | done | rfl | (simp only [List.length_drop, List.length_take]; rfl)) ?_; (with_reducible refine (spec_pzAll.calls k a0_0 _ _ l0_1 t914 _ ?side1 ?side2 A4.out).mono ?_); (case side1 => repeat (first | exact (Kd.C_below HR0_1.out HB.out) | (with_reducible refine Kd.C_alloc ?_ _) | (with_reducible refine Kd.C_drewN ?_ _) | (with_reducible refine Kd.C_drew ?_))); (case side2 => exact HC0_1.out); rintro e w18 ⟨v915, rfl, ho0, hb⟩; refine ⟨_, rfl, ?_⟩; have n0_ := Aside0.mk (Kd.S_lower ho0 (below_size (by repeat (first | (with_reducible first | exact HB.out | apply below_alloc | apply pw_below_drewN | apply below_drew1 | refine below_set ?_ GE912.out) | exact HB.out)))); have n1_ := Aside0.mk (blk_below (pk BK912.out) hb); have n2_ := Aside0.mk (below_step (by repeat (first | (with_reducible first | exact HB.out | apply below_alloc | apply pw_below_drewN | apply below_drew1 | refine below_set ?_ GE912.out) | exact HB.out)) hb); clear BK912; clear HB; have HO916 := n0_; have BK912 := n1_; have HB := n2_; clear n0_ n1_ n2_; (try clear hb); (try clear hb2); (try clear hk); (try clear hi); (try clear ho0); obtain ⟨Ao19, co19, eo19⟩ := Kd.S_slice HO916.out; subst eo19; have p917 : 0 ≤ (0 : Int) := (by omega); have q917 : 0 < (t914.length : Int) := of_decide_eq_true (by first | (with_reducible assumption) | assumption); obtain ⟨ad917, A917_0, c917_0, e917, hx917_0, hl917_0, hi917_0⟩ := at_L1 (Kd.S_reads' HO916.out).2.2 0 p917 q917; cases e917; obtain ⟨ce917, hce917, hMe917, hcc917⟩ := Kd.S_get HO916.out [] 0 p917 (by first | exact q917 | exact of_decide_eq_true (by first | (with_reducible assumption) | assumption) | (have e_ := (Kd.S_reads' HO916.out).1; omega)); obtain ⟨ve917_0, rfl, ge917_0⟩ := hMe917; have hv917_0 := hcc917 0 _ rfl; rw [Nat.add_zero, show ((Kd.slice 3 (Kd.int .i64))).sz = 1 from rfl, Nat.mul_one] at hv917_0; replace hv917_0 := Option.some.inj (hv917_0.symm.trans hx917_0); rw [hv917_0] at ge917_0; have HL917_0 := Aside0.mk (show Kd.R (Kd.int .i64) 3 _ _ _ _ (rd_L1 t914 0) from ge917_0); clear hv917_0 ge917_0; clear hcc917 hce917; have qi917 : (0 < t914.length) = True := eq_true (by omega); (try rw [show ((0 : Int)).toNat = 0 from rfl] at hx917_0); (try rw [Addr.add_zero'] at hx917_0); have HR917_0 := Aside0.mk hi917_0; have HC917_0 := Aside0.mk hl917_0; clear hi917_0 hl917_0; replace p917 := eq_true p917; replace q917 := eq_true q917) | ((with_reducible refine gate_callee (f := 49) rfl ?_); refine goesL_ (some 24) rfl rfl Try.func49 (by kernel_rfl) rfl #[.slice A917_0 (rd_L1 t914 0).length c917_0] rfl (by (try simp only [List.map_toArray, List.map_cons, List.map_nil]); first | done | rfl | (simp only [List.length_drop, List.length_take]; rfl)) ?_; (with_reducible refine (spec_l1Own.calls _ _ (rd_L1 t914 0) t918 _ ?side1 ?side2 A13.out).mono ?_); (case side1 => repeat (first | exact (by repeat (first | (with_reducible exact HR917_0.out) | (with_reducible refine Kd.C_alloc ?_ _) | (with_reducible refine Kd.C_drewN ?_ _) | (with_reducible refine Kd.C_drew ?_) | exact HR917_0.out)) | (with_reducible refine Kd.C_alloc ?_ _) | (with_reducible refine Kd.C_drewN ?_ _) | (with_reducible refine Kd.C_drew ?_))); (case side2 => exact HC917_0.out); rintro e w20 ⟨v919, rfl, ho0, hb⟩; refine ⟨_, rfl, ?_⟩; have n0_ := Aside0.mk (Kd.S_elder' (Kd.pS HO916.out) (Kd.R_base ho0) hb); have n1_ := Aside0.mk (Kd.R_elder' (Kd.pR HL917_0.out) (Kd.R_base ho0) hb); have n2_ := Aside0.mk (Kd.R_lower (Kd.R_new' ho0 (Kd.R_lt (Kd.pR HL917_0.out))) (below_size (by repeat (first | (with_reducible first | exact HB.out | apply below_alloc | apply pw_below_drewN | apply below_drew1 | refine below_set ?_ GE912.out) | exact HB.out)))); have n3_ := Aside0.mk (blk_below (pk BK912.out) hb); have n4_ := Aside0.mk (Kd.C_below (by repeat (first | (with_reducible exact HR917_0.out) | (with_reducible refine Kd.C_alloc ?_ _) | (with_reducible refine Kd.C_drewN ?_ _) | (with_reducible refine Kd.C_drew ?_) | exact HR917_0.out)) hb); have n5_ := Aside0.mk (below_step (by repeat (first | (with_reducible first | exact HB.out | apply below_alloc | apply pw_below_drewN | apply below_drew1 | refine below_set ?_ GE912.out) | exact HB.out)) hb); clear HO916; clear HL917_0; clear BK912; clear HR917_0; clear HB; have HO916 := n0_; have HL917_0 := n1_; have HO920 := n2_; have BK912 := n3_; have HR917_0 := n4_; have HB := n5_; clear n0_ n1_ n2_ n3_ n4_ n5_; (try clear hb); (try clear hb2); (try clear hk); (try clear hi); (try clear ho0)))
    go_loopg [27] k (fun kq v27 w' => ∃ (x5_1 : List Int) (x27_1 : Int), v27 = .int .i64 x27_1 ∧ Aside0 (spec_SureTimes.l0 kq x5_1 t914 (t914.length : Int) x27_1 = some (r1, r2)) ∧ Aside0 (kq ≤ k) ∧ Aside0 (Kd.R (Kd.int .i64) 3 w' w.heap.size (fun _ => True) v919 x5_1) ∧ Aside0 (Kd.S (Kd.slice 3 (Kd.int .i64)) 26 w' w.heap.size (fun k_ => some k_ ≠ (v919 : Value).ownBlock) (.slice (some ad917) t914.length co19) t914) ∧ Aside0 (w'.heap[gb912]? = some (.cells #[.int .i64 a0_0, (.slice A0_1 l0_1.length c0_1)] 31 (0, 0))) ∧ Aside0 (Below w.heap.size w w'))
    case atStart => exact ⟨(t918), (0), (by first | rfl | (simp; done) | (simp [*]; done)), H', ⟨Nat.le_refl _⟩, ⟨by (with_reducible repeat (first | apply Kd.R_alloc | apply Kd.R_drewN | apply Kd.R_drew)); exact Kd.R_mono HO920.out (fun _ hk => trivial)⟩, ⟨by (with_reducible repeat (first | apply Kd.S_alloc | apply Kd.S_drewN | apply Kd.S_drew)); exact Kd.S_mono HO916.out (fun _ hk => hk.2)⟩, ⟨by (with_reducible repeat (first | refine blk_drewN ?_ _ | refine blk_drew ?_ | refine blk_alloc ?_ _)); exact BK912.out⟩, ⟨by repeat (first | (with_reducible first | exact HB.out | apply below_alloc | apply pw_below_drewN | apply below_drew1 | refine below_set ?_ GE912.out) | exact HB.out)⟩⟩
    case round =>
     clear H'
     try clear c1
     try clear p2
     try clear c3
     try clear c4
     try clear c5
     try clear c5b0
     try clear c5b1
     try clear c5b2
     try clear c9
     try clear p9
     try clear q9
     try clear hx9
     try clear qi9
     try clear c12
     try clear c12b0
     try clear c12b1
     try clear c14
     try clear hcz15_0
     try clear hcz15_1
     try clear hcz17_0
     try clear hcz17_1
     try clear hcz7_0
     try clear hcz7_1
     try clear hcz9_0
     try clear hcz9_1
     try clear hfz15_0
     try clear hfz15_1
     try clear hfz17_0
     try clear hfz17_1
     try clear hfz7_0
     try clear hfz7_1
     try clear hfz9_0
     try clear hfz9_1
     try clear hx917_0
     try clear p917
     try clear q917
     obtain ⟨x5_1, x27_1, rfl, HA, HK1, HO_5, HO_25, BK912, HB⟩ := hrel
     cases gk with
     | zero => exact absurd HA.out (by simp [spec_SureTimes.l0])
     | succ k1 =>
      have H := HA.out
      clear HA
      simp only [spec_SureTimes.l0] at H
      by_cases c21 : x27_1 < (t914.length : Int)
      ·
       rw [if_pos c21] at H
       have c21b0 : decide (x27_1 < (t914.length : Int)) = true := decide_eq_true c21
       clear c21
       by_cases c22 : 0 ≤ x27_1
       ·
        rw [if_pos c22] at H
        have c22b0 : decide (0 ≤ x27_1) = true := decide_eq_true c22
        clear c22
        by_cases c23 : x27_1 < (t914.length : Int)
        ·
         rw [if_pos c23] at H
         have c23b0 : decide (x27_1 < (t914.length : Int)) = true := decide_eq_true c23
         clear c23
         have H' := Aside0.mk H
         clear H
         have p921 : 0 ≤ (x27_1 : Int) := of_decide_eq_true (by first | (with_reducible assumption) | assumption)
         have q921 : x27_1 < (t914.length : Int) := of_decide_eq_true (by first | (with_reducible assumption) | assumption)
         obtain ⟨ad921, A921_0, c921_0, e921, hx921_0, hl921_0, hi921_0⟩ := at_L1 (Kd.S_reads' HO_25.out).2.2 x27_1 p921 q921
         obtain rfl : ad917 = ad921 := (by injection e921)
         obtain ⟨ce921, hce921, hMe921, hcc921⟩ := Kd.S_get HO_25.out [] x27_1 p921 (by first | exact q921 | exact of_decide_eq_true (by first | (with_reducible assumption) | assumption) | (have e_ := (Kd.S_reads' HO_25.out).1; omega))
         obtain ⟨ve921_0, rfl, ge921_0⟩ := hMe921
         have hv921_0 := hcc921 0 _ rfl
         rw [Nat.add_zero, show ((Kd.slice 3 (Kd.int .i64))).sz = 1 from rfl, Nat.mul_one] at hv921_0
         replace hv921_0 := Option.some.inj (hv921_0.symm.trans hx921_0)
         rw [hv921_0] at ge921_0
         have HL921_0 := Aside0.mk (show Kd.R (Kd.int .i64) 3 _ _ _ _ (rd_L1 t914 x27_1) from ge921_0)
         clear hv921_0 ge921_0 hcc921 hce921
         have HR921_0 := Aside0.mk hi921_0
         have HC921_0 := Aside0.mk hl921_0
         clear hi921_0 hl921_0
         replace p921 := eq_true p921
         replace q921 := eq_true q921
         go_wp2
         go_loopg [33] k1 (fun kq v33 w' => ∃ (x5_2 : List Int) (x33_2 : Int), v33 = .int .i64 x33_2 ∧ Aside0 (spec_SureTimes.l1 kq x5_2 t914 (t914.length : Int) x27_1 (rd_L1 t914 x27_1) ((rd_L1 t914 x27_1).length : Int) x33_2 = some (r1, r2)) ∧ Aside0 (kq ≤ k1) ∧ Aside0 (Kd.R (Kd.int .i64) 3 w' w.heap.size (fun _ => True) v919 x5_2) ∧ Aside0 (Kd.S (Kd.slice 3 (Kd.int .i64)) 26 w' w.heap.size (fun k_ => some k_ ≠ (v919 : Value).ownBlock) (.slice (some ad917) t914.length co19) t914) ∧ Aside0 (w'.heap[gb912]? = some (.cells #[.int .i64 a0_0, (.slice A0_1 l0_1.length c0_1)] 31 (0, 0))) ∧ Aside0 (Below w.heap.size w w') ∧ Aside0 (Kd.R (Kd.int .i64) 3 w' w.heap.size (fun k_ => some k_ ≠ (v919 : Value).ownBlock) (.slice A921_0 (rd_L1 t914 x27_1).length c921_0) (rd_L1 t914 x27_1)))
         case atStart => exact ⟨(x5_1), (0), (by first | rfl | (simp; done) | (simp [*]; done)), H', ⟨Nat.le_refl _⟩, ⟨by (with_reducible repeat (first | apply Kd.R_alloc | apply Kd.R_drewN | apply Kd.R_drew)); exact HO_5.out⟩, ⟨by (with_reducible repeat (first | apply Kd.S_alloc | apply Kd.S_drewN | apply Kd.S_drew)); exact HO_25.out⟩, ⟨by (with_reducible repeat (first | refine blk_drewN ?_ _ | refine blk_drew ?_ | refine blk_alloc ?_ _)); exact BK912.out⟩, ⟨by repeat (first | (with_reducible first | exact HB.out | apply below_alloc | apply pw_below_drewN | apply below_drew1 | refine below_set ?_ GE912.out) | exact HB.out)⟩, ⟨by (with_reducible repeat (first | apply Kd.R_alloc | apply Kd.R_drewN | apply Kd.R_drew)); exact Kd.R_mono HL921_0.out (fun _ hk => hk.1)⟩⟩
         case round =>
          clear H'
          try clear c1
          try clear c2
          try clear p2
          try clear c3
          try clear c4
          try clear c5
          try clear c5b0
          try clear c5b1
          try clear c5b2
          try clear c9
          try clear p9
          try clear q9
          try clear hx9
          try clear qi9
          try clear c12
          try clear c12b0
          try clear c12b1
          try clear c14
          try clear c21
          try clear c21b0
          try clear c22
          try clear c22b0
          try clear c23
          try clear c23b0
          try clear hcz15_0
          try clear hcz15_1
          try clear hcz17_0
          try clear hcz17_1
          try clear hcz7_0
          try clear hcz7_1
          try clear hcz9_0
          try clear hcz9_1
          try clear hfz15_0
          try clear hfz15_1
          try clear hfz17_0
          try clear hfz17_1
          try clear hfz7_0
          try clear hfz7_1
          try clear hfz9_0
          try clear hfz9_1
          try clear hx917_0
          try clear hx921_0
          try clear p2
          try clear p9
          try clear p917
          try clear p921
          try clear q9
          try clear q917
          try clear q921
          obtain ⟨x5_2, x33_2, rfl, HA, HK2, HO_5, HO_25, BK912, HB, HL921_0⟩ := hrel
          have HR921_0 := Aside0.mk (Kd.R_reads' HL921_0.out).2.2
          cases gk with
          | zero => exact absurd HA.out (by simp [spec_SureTimes.l1])
          | succ k2 =>
           have H := HA.out
           clear HA
           simp only [spec_SureTimes.l1] at H
           by_cases c24 : x33_2 < ((rd_L1 t914 x27_1).length : Int)
           ·
            rw [if_pos c24] at H
            have c24b0 : decide (x33_2 < ((rd_L1 t914 x27_1).length : Int)) = true := decide_eq_true c24
            clear c24
            by_cases c25 : 0 ≤ x33_2
            ·
             rw [if_pos c25] at H
             have c25b0 : decide (0 ≤ x33_2) = true := decide_eq_true c25
             clear c25
             by_cases c26 : x33_2 < ((rd_L1 t914 x27_1).length : Int)
             ·
              rw [if_pos c26] at H
              have c26b0 : decide (x33_2 < ((rd_L1 t914 x27_1).length : Int)) = true := decide_eq_true c26
              clear c26
              by_cases c27 : x33_2 < (x5_2.length : Int)
              ·
               rw [if_pos c27] at H
               have c27b0 : decide (x33_2 < (x5_2.length : Int)) = true := decide_eq_true c27
               clear c27
               by_cases c28 : (rd x5_2 x33_2) = (rd (rd_L1 t914 x27_1) x33_2)
               ·
                rw [if_pos c28] at H
                have c28b0 : ((rd x5_2 x33_2) == (rd (rd_L1 t914 x27_1) x33_2)) = true := beq_iff_eq.mpr c28
                have c28b1 : ((rd x5_2 x33_2) != (rd (rd_L1 t914 x27_1) x33_2)) = false := bne_eq_false_iff_eq.mpr c28
                clear c28
                have H' := Aside0.mk H
                clear H
                have p922 : 0 ≤ (x33_2 : Int) := of_decide_eq_true (by first | (with_reducible assumption) | assumption)
                have q922 : x33_2 < ((rd_L1 t914 x27_1).length : Int) := of_decide_eq_true (by first | (with_reducible assumption) | assumption)
                obtain ⟨ad922, e922, hx922_0⟩ := Kd.at_int HR921_0.out x33_2 p922 q922
                cases e922

                replace p922 := eq_true p922
                replace q922 := eq_true q922
                obtain ⟨Ao29, co29, eo29⟩ := Kd.R_slice HO_5.out
                subst eo29
                have p923 : 0 ≤ (x33_2 : Int) := of_decide_eq_true (by first | (with_reducible assumption) | assumption)
                have q923 : x33_2 < (x5_2.length : Int) := of_decide_eq_true (by first | (with_reducible assumption) | assumption)
                obtain ⟨ad923, e923, hx923_0⟩ := Kd.at_int (Kd.R_reads' HO_5.out).2.2 x33_2 p923 q923
                cases e923
                replace p923 := eq_true p923
                replace q923 := eq_true q923
                go_wp2
                go_roundg k2
                case measure => have := HK1.out; have := HK2.out; omega
                case rel => exact ⟨(x5_2), (wrap64 (x33_2 + 1)), (by first | rfl | (simp; done) | (simp [*]; done)), H', ⟨by have := HK1.out; have := HK2.out; omega⟩, ⟨by (with_reducible repeat (first | apply Kd.R_alloc | apply Kd.R_drewN | apply Kd.R_drew)); exact HO_5.out⟩, ⟨by (with_reducible repeat (first | apply Kd.S_alloc | apply Kd.S_drewN | apply Kd.S_drew)); exact HO_25.out⟩, ⟨by (with_reducible repeat (first | refine blk_drewN ?_ _ | refine blk_drew ?_ | refine blk_alloc ?_ _)); exact BK912.out⟩, ⟨by repeat (first | (with_reducible first | exact HB.out | apply below_alloc | apply pw_below_drewN | apply below_drew1 | refine below_set ?_ GE912.out) | exact HB.out)⟩, ⟨by (with_reducible repeat (first | apply Kd.R_alloc | apply Kd.R_drewN | apply Kd.R_drew)); exact HL921_0.out⟩⟩
               ·
                rw [if_neg c28] at H
                have c28b0 : ((rd x5_2 x33_2) == (rd (rd_L1 t914 x27_1) x33_2)) = false := beq_eq_false_iff_ne.mpr c28
                have c28b1 : ((rd x5_2 x33_2) != (rd (rd_L1 t914 x27_1) x33_2)) = true := bne_iff_ne.mpr c28
                obtain ⟨y924, hy924⟩ : ∃ y_ : List Int, y_ = (x5_2.set (x33_2 : Int).toNat 0) := ⟨_, rfl⟩
                replace H : (spec_SureTimes.l1 k2 y924 t914 (t914.length : Int) x27_1 (rd_L1 t914 x27_1) ((rd_L1 t914 x27_1).length : Int) (wrap64 (x33_2 + 1))) = some (r1, r2) := by first | (rw [hy924]; with_reducible exact H) | (have H2_ := (Option.bind_some _ _).symm.trans H; rw [hy924]; with_reducible exact H2_) | (have H2_ := (Option.bind_some _ _).symm.trans H; with_reducible exact H2_) | with_reducible exact H | (rw [hy924]; exact H) | exact H
                have Ny924 := Aside0.mk hy924
                clear hy924
                have H' := Aside0.mk H
                clear H
                have p922 : 0 ≤ (x33_2 : Int) := of_decide_eq_true (by first | (with_reducible assumption) | assumption)
                have q922 : x33_2 < ((rd_L1 t914 x27_1).length : Int) := of_decide_eq_true (by first | (with_reducible assumption) | assumption)
                obtain ⟨ad922, e922, hx922_0⟩ := Kd.at_int HR921_0.out x33_2 p922 q922
                cases e922

                replace p922 := eq_true p922
                replace q922 := eq_true q922
                obtain ⟨Ao31, co31, eo31⟩ := Kd.R_slice HO_5.out
                subst eo31
                have p923 : 0 ≤ (x33_2 : Int) := of_decide_eq_true (by first | (with_reducible assumption) | assumption)
                have q923 : x33_2 < (x5_2.length : Int) := of_decide_eq_true (by first | (with_reducible assumption) | assumption)
                obtain ⟨ad923, e923, hx923_0⟩ := Kd.at_int (Kd.R_reads' HO_5.out).2.2 x33_2 p923 q923
                cases e923
                replace p923 := eq_true p923
                replace q923 := eq_true q923
                have p30 : 0 ≤ (x33_2 : Int) := of_decide_eq_true (by first | (with_reducible assumption) | assumption)
                have q30 : (x33_2 : Int) < ((x5_2.length : Int) : Int) := of_decide_eq_true (by first | (with_reducible assumption) | assumption)
                obtain ⟨go30, co30, eo30, gb30, gl30, cl30, HG30⟩ := Kd.R_form HO_5.out (by omega)
                (first | cases eo30 | (injection eo30 with ea_ en_ ec_; (first | subst ea_ | (injection ea_ with ea_; subst ea_)); subst ec_; clear en_))
                have GB30 := Aside0.mk gb30
                have GG30 := Aside0.mk HG30
                clear gb30 gl30 HG30
                (first | simp only [add_plain] at hx923_0 | skip)
                obtain ⟨hx30_0, hf30_0⟩ := Kd.R_celln 0 HO_5.out (x33_2 : Int) p30 q30
                replace p30 := eq_true p30
                replace q30 := eq_true q30
                have HP32 := Kd.R_putg HO_5.out (x33_2 : Int) 0
                go_wp2_with (first | ((with_reducible refine gate_store (t := 3) (p := 46) rfl ?_); refine store_event (t := 3) (p := 46) (v := ?vo_w33) (w1 := (wr.setCell ⟨go30, (x33_2 : Int).toNat, none⟩ (.int .i64 0))) ?hg ?ho ?hn ?hr ?_; (case ho => rfl); (case hg => rfl); (case hn => rfl); (case hr => first | (go_simp; done) | (go_simp; rfl)); intro w33 hw; have hg : wr.grownBy w33 (some go30) := (by rw [hw]; exact HP32.2); have hp_ : Kd.R (Kd.int .i64) 3 w33 w.heap.size (fun _ => True) (.slice (some ⟨go30, 0, none⟩) x5_2.length co31) y924 := (by rw [hw, Ny924.out]; exact HP32.1); clear HP32; have n0_ := Aside0.mk (hp_); have n1_ := Aside0.mk (Kd.S_after (v := (.slice (some ⟨go30, 0, none⟩) x5_2.length co31)) (v1 := (.slice (some ⟨go30, 0, none⟩) x5_2.length co31)) (ok := (fun _ => True)) (by (with_reducible repeat (first | apply Kd.S_alloc | apply Kd.S_drewN | apply Kd.S_drew)); exact Kd.S_mono HO_25.out (fun _ hk => ⟨trivial, hk⟩)) hg (.inl rfl)); have n2_ := Aside0.mk (blk_grown (pk BK912.out) hg (Kd.R_ne HO_5.out BK912.out (by decide))); have n3_ := Aside0.mk ((by rw [hw]; exact below_set (HB.out) GB30.out : Below w.heap.size w w33)); have n9_ := Aside0.mk (Kd.R_after (v := (.slice (some ⟨go30, 0, none⟩) x5_2.length co31)) (v1 := (.slice (some ⟨go30, 0, none⟩) x5_2.length co31)) (ok := (fun _ => True)) (Kd.R_mono HL921_0.out (fun _ hk => ⟨trivial, hk⟩)) hg (.inl rfl)); clear HO_5; clear HO_25; clear BK912; clear HB; have HO_5 := n0_; have HO_25 := n1_; have BK912 := n2_; have HB := n3_; clear n0_ n1_ n2_ n3_; clear HL921_0; have HL921_0 := n9_; clear n9_; clear hg hw hp_))
                go_roundg k2
                case measure => have := HK1.out; have := HK2.out; omega
                case rel => exact ⟨(y924), (wrap64 (x33_2 + 1)), (by first | rfl | (simp; done) | (simp [*]; done)), H', ⟨by have := HK1.out; have := HK2.out; omega⟩, ⟨by (with_reducible repeat (first | apply Kd.R_alloc | apply Kd.R_drewN | apply Kd.R_drew)); exact HO_5.out⟩, ⟨by (with_reducible repeat (first | apply Kd.S_alloc | apply Kd.S_drewN | apply Kd.S_drew)); exact Kd.S_mono HO_25.out (fun _ hk => hk.2)⟩, ⟨by (with_reducible repeat (first | refine blk_drewN ?_ _ | refine blk_drew ?_ | refine blk_alloc ?_ _)); exact BK912.out⟩, ⟨by repeat (first | (with_reducible first | exact HB.out | apply below_alloc | apply pw_below_drewN | apply below_drew1 | refine below_set ?_ GE912.out) | exact HB.out)⟩, ⟨by (with_reducible repeat (first | apply Kd.R_alloc | apply Kd.R_drewN | apply Kd.R_drew)); exact Kd.R_mono HL921_0.out (fun _ hk => hk.2)⟩⟩
              ·
               rw [if_neg c27] at H
               exact absurd H (by simp)
             ·
              rw [if_neg c26] at H
              exact absurd H (by simp)
            ·
             rw [if_neg c25] at H
             exact absurd H (by simp)
           ·
            rw [if_neg c24] at H
            have c24b0 : decide (x33_2 < ((rd_L1 t914 x27_1).length : Int)) = false := decide_eq_false c24
            clear c24
            have H' := Aside0.mk H
            clear H
            go_wp2
            go_roundg k2
            case measure => have := HK1.out; have := HK2.out; omega
            case rel => exact ⟨(x5_2), (wrap64 (x27_1 + 1)), (by first | rfl | (simp; done) | (simp [*]; done)), H', ⟨by have := HK1.out; have := HK2.out; omega⟩, ⟨by (with_reducible repeat (first | apply Kd.R_alloc | apply Kd.R_drewN | apply Kd.R_drew)); exact HO_5.out⟩, ⟨by (with_reducible repeat (first | apply Kd.S_alloc | apply Kd.S_drewN | apply Kd.S_drew)); exact HO_25.out⟩, ⟨by (with_reducible repeat (first | refine blk_drewN ?_ _ | refine blk_drew ?_ | refine blk_alloc ?_ _)); exact BK912.out⟩, ⟨by repeat (first | (with_reducible first | exact HB.out | apply below_alloc | apply pw_below_drewN | apply below_drew1 | refine below_set ?_ GE912.out) | exact HB.out)⟩⟩
        ·
         rw [if_neg c23] at H
         exact absurd H (by simp)
       ·
        rw [if_neg c22] at H
        exact absurd H (by simp)
      ·
       rw [if_neg c21] at H
       have c21b0 : decide (x27_1 < (t914.length : Int)) = false := decide_eq_false c21
       clear c21
       simp only [Option.some.injEq, Prod.mk.injEq] at H
       obtain ⟨rfl, rfl⟩ := H
       go_wp2
       go_ret2
       exact ⟨_, by first | rfl | (simp [errW_none, errW_some] <;> rfl) | (simp [*, errW_none, errW_some] <;> rfl), by (with_reducible repeat (first | apply Kd.R_alloc | apply Kd.R_drewN | apply Kd.R_drew)); exact HO_5.out, by repeat (first | (with_reducible first | exact HB.out | apply below_alloc | apply pw_below_drewN | apply below_drew1 | refine below_set ?_ GE912.out) | exact HB.out)⟩
   ·
    rw [if_neg c12] at H
    exact absurd H (by simp)
 ·
  replace c3 := Bool.eq_false_iff.mpr c3
  subst c3
  have H1 : (some (([] : List Int), false)) = some (r1, r2) := by rw [if_neg (show ¬ (false = true) by decide)] at H; exact H
  clear H
  have H := H1
  clear H1
  simp only [Option.some.injEq, Prod.mk.injEq] at H
  obtain ⟨rfl, rfl⟩ := H
  go_enter Try.func14, Try.ntmps14
  go_wp2_with (first | ((with_reducible refine gate_dst (N := 1) rfl ?_); refine box_event ?hg (N := 1) ?hd (cs := #[.int .i64 a0_0, .slice A0_1 l0_1.length c0_1]) (t := 31) ?hr ?_; (case hd => rfl); (case hg => rfl); (case hr => first | (go_simp; done) | (go_simp; rfl)); intro gb912 hg w34 hbox hb; have n0_ := Aside0.mk (below_step (by repeat (first | (with_reducible first | exact HB.out | apply below_alloc | apply pw_below_drewN | apply below_drew1) | exact HB.out)) hb); have n1_ := Aside0.mk (hbox); have n2_ := Aside0.mk ((by rw [hg]; exact (below_size (by repeat (first | (with_reducible first | exact HB.out | apply below_alloc | apply pw_below_drewN | apply below_drew1) | exact HB.out))) : w.heap.size ≤ gb912)); have n3_ := n2_; clear HB; have HB := n0_; have BK912 := n1_; have GW912 := n2_; have GE912 := n3_; clear n0_ n1_ n2_ n3_; clear hb hbox hg; have hcz35_0 : w34.cell? ⟨gb912, 0, none⟩ = some (.int .i64 a0_0) := (blk_cell BK912.out 0).trans rfl; have hcz35_1 : w34.cell? ⟨gb912, 1, none⟩ = some (.slice A0_1 l0_1.length c0_1) := (blk_cell BK912.out 1).trans rfl; have hfz35_0 := blk_frozen BK912.out 0; have hfz35_1 := blk_frozen BK912.out 1) | ((with_reducible refine gate_callee (f := 47) rfl ?_); refine goesL_ (some 11) rfl rfl Try.func47 (by kernel_rfl) rfl #[.agg #[.int .i64 a0_0, .slice A0_1 l0_1.length c0_1]] rfl (by (try simp only [List.map_toArray, List.map_cons, List.map_nil]); first | done | rfl | (simp only [List.length_drop, List.length_take]; rfl)) ?_; (with_reducible refine (spec_pzGood.calls k a0_0 _ _ l0_1 false _ ?side1 ?side2 A2.out).mono ?_); (case side1 => repeat (first | exact (Kd.C_below HR0_1.out HB.out) | (with_reducible refine Kd.C_alloc ?_ _) | (with_reducible refine Kd.C_drewN ?_ _) | (with_reducible refine Kd.C_drew ?_))); (case side2 => exact HC0_1.out); rintro e w36 ⟨rfl, hb⟩; refine ⟨_, rfl, ?_⟩; have n0_ := Aside0.mk (blk_below (pk BK912.out) hb); have n1_ := Aside0.mk (below_step (by repeat (first | (with_reducible first | exact HB.out | apply below_alloc | apply pw_below_drewN | apply below_drew1 | refine below_set ?_ GE912.out) | exact HB.out)) hb); clear BK912; clear HB; have BK912 := n0_; have HB := n1_; clear n0_ n1_; (try clear hb); (try clear hb2); (try clear hk); (try clear hi)))
  go_ret2
  exact ⟨_, by first | rfl | (simp [errW_none, errW_some] <;> rfl) | (simp [*, errW_none, errW_some] <;> rfl), by first | exact Kd.R_nil _ _ _ _ _ | exact Kd.N_nil _ _ _ _ _ | exact Kd.V_nil _ _ _ _ _ | exact Kd.Q_nil _ _ _ _ _ | exact Kd.S_nil _ _ _ _ _, by repeat (first | (with_reducible first | exact HB.out | apply below_alloc | apply pw_below_drewN | apply below_drew1 | refine below_set ?_ GE912.out) | exact HB.out)⟩

/-! ### impl_SureTimes: function 16 -/
mutual
def impl_SureTimes.j0 : Nat → List (List Int) → Bool → Option (List Int × Bool)
  | 0, _, _ => none
  | k + 1, x4, x22 => if x22 = true then (some (([] : List Int), false)) else (if 0 < (x4.length : Int) then ((slices_Clone_int_int.f (rd_L1 x4 0)).bind fun t931 => (impl_SureTimes.l0 k t931 x4 (x4.length : Int) 0)) else (none))
def impl_SureTimes.l0 : Nat → List Int → List (List Int) → Int → Int → Option (List Int × Bool)
  | 0, _, _, _, _ => none
  | k + 1, x6, x27, x28, x29 => if x29 < x28 then (if 0 ≤ x29 then (if x29 < (x27.length : Int) then (impl_SureTimes.l1 k x6 x27 x28 x29 (rd_L1 x27 x29) ((rd_L1 x27 x29).length : Int) 0) else (none)) else (none)) else (some (x6, true))
def impl_SureTimes.l1 : Nat → List Int → List (List Int) → Int → Int → List Int → Int → Int → Option (List Int × Bool)
  | 0, _, _, _, _, _, _, _ => none
  | k + 1, x6, x27, x28, x29, x33, x34, x35 => if x35 < x34 then (if 0 ≤ x35 then (if x35 < (x33.length : Int) then (if x35 < (x6.length : Int) then (if (rd x6 x35) = (rd x33 x35) then (impl_SureTimes.l1 k x6 x27 x28 x29 x33 x34 (wrap64 (x35 + 1))) else (impl_SureTimes.l1 k (x6.set (x35 : Int).toNat 0) x27 x28 x29 x33 x34 (wrap64 (x35 + 1)))) else (none)) else (none)) else (none)) else (impl_SureTimes.l0 k x6 x27 x28 (wrap64 (x29 + 1)))
end
def impl_SureTimes.f (k : Nat) (a0_0 : Int) (l0_1 : List (S45)) : Option (List Int × Bool) := (impl_Solutions.f k a0_0 l0_1).bind fun bt926 => (if bt926.2 = true then (impl_SureTimes.j0 k bt926.1 ((bt926.1.length : Int) == 0)) else (impl_SureTimes.j0 k bt926.1 true))
theorem impl_SureTimes.mono_l : ∀ k, (∀ y0 y1, LeO (impl_SureTimes.j0 k y0 y1) (impl_SureTimes.j0 (k + 1) y0 y1)) ∧ (∀ y0 y1 y2 y3, LeO (impl_SureTimes.l0 k y0 y1 y2 y3) (impl_SureTimes.l0 (k + 1) y0 y1 y2 y3)) ∧ (∀ y0 y1 y2 y3 y4 y5 y6, LeO (impl_SureTimes.l1 k y0 y1 y2 y3 y4 y5 y6) (impl_SureTimes.l1 (k + 1) y0 y1 y2 y3 y4 y5 y6))
  | 0 => ⟨fun _ _ r h => by simp [impl_SureTimes.j0] at h, fun _ _ _ _ r h => by simp [impl_SureTimes.l0] at h, fun _ _ _ _ _ _ _ r h => by simp [impl_SureTimes.l1] at h⟩
  | k + 1 => by
    obtain ⟨ih0, ih1, ih2⟩ := impl_SureTimes.mono_l k
    refine ⟨?_, ?_, ?_⟩
    · intro y0 y1
      unfold impl_SureTimes.j0
      repeat' first
      | (with_reducible exact ih0 _ _)
      | (with_reducible exact ih1 _ _ _ _)
      | (with_reducible exact ih2 _ _ _ _ _ _ _)
      | (with_reducible exact impl_Solutions.mono _ _ _)
      | (with_reducible exact LeO.refl _)
      | (with_reducible exact LeO.none _)
      | (with_reducible refine LeO.ite ?_ ?_)
      | (with_reducible refine LeO.bind ?_ (fun _ => ?_))
      | exact ih0 _ _
      | exact ih1 _ _ _ _
      | exact ih2 _ _ _ _ _ _ _
      | exact impl_Solutions.mono _ _ _
      | exact LeO.none _
      | refine LeO.ite ?_ ?_
      | refine LeO.bind ?_ (fun _ => ?_)
    · intro y0 y1 y2 y3
      unfold impl_SureTimes.l0
      repeat' first
      | (with_reducible exact ih0 _ _)
      | (with_reducible exact ih1 _ _ _ _)
      | (with_reducible exact ih2 _ _ _ _ _ _ _)
      | (with_reducible exact impl_Solutions.mono _ _ _)
      | (with_reducible exact LeO.refl _)
      | (with_reducible exact LeO.none _)
      | (with_reducible refine LeO.ite ?_ ?_)
      | (with_reducible refine LeO.bind ?_ (fun _ => ?_))
      | exact ih0 _ _
      | exact ih1 _ _ _ _
      | exact ih2 _ _ _ _ _ _ _
      | exact impl_Solutions.mono _ _ _
      | exact LeO.none _
      | refine LeO.ite ?_ ?_
      | refine LeO.bind ?_ (fun _ => ?_)
    · intro y0 y1 y2 y3 y4 y5 y6
      unfold impl_SureTimes.l1
      repeat' first
      | (with_reducible exact ih0 _ _)
      | (with_reducible exact ih1 _ _ _ _)
      | (with_reducible exact ih2 _ _ _ _ _ _ _)
      | (with_reducible exact impl_Solutions.mono _ _ _)
      | (with_reducible exact LeO.refl _)
      | (with_reducible exact LeO.none _)
      | (with_reducible refine LeO.ite ?_ ?_)
      | (with_reducible refine LeO.bind ?_ (fun _ => ?_))
      | exact ih0 _ _
      | exact ih1 _ _ _ _
      | exact ih2 _ _ _ _ _ _ _
      | exact impl_Solutions.mono _ _ _
      | exact LeO.none _
      | refine LeO.ite ?_ ?_
      | refine LeO.bind ?_ (fun _ => ?_)
theorem impl_SureTimes.mono : ∀ a0 a1 k, LeO (impl_SureTimes.f k a0 a1) (impl_SureTimes.f (k + 1) a0 a1) := by
  intro a0 a1 k
  obtain ⟨ih0, ih1, ih2⟩ := impl_SureTimes.mono_l k
  unfold impl_SureTimes.f
  repeat' first
      | (with_reducible exact ih0 _ _)
      | (with_reducible exact ih1 _ _ _ _)
      | (with_reducible exact ih2 _ _ _ _ _ _ _)
      | (with_reducible exact impl_Solutions.mono _ _ _)
      | (with_reducible exact LeO.refl _)
      | (with_reducible exact LeO.none _)
      | (with_reducible refine LeO.ite ?_ ?_)
      | (with_reducible refine LeO.bind ?_ (fun _ => ?_))
      | exact ih0 _ _
      | exact ih1 _ _ _ _
      | exact ih2 _ _ _ _ _ _ _
      | exact impl_Solutions.mono _ _ _
      | exact LeO.none _
      | refine LeO.ite ?_ ?_
      | refine LeO.bind ?_ (fun _ => ?_)
set_option maxHeartbeats 8000000 in
set_option maxRecDepth 100000 in
theorem impl_SureTimes.calls (k : Nat) (a0_0 : Int) (A0_1 : Option Addr) (c0_1 : Nat) (l0_1 : List (S45)) (r1 : List Int) (r2 : Bool) (w : World) (hr0_1 : Kd.C k45 w A0_1 l0_1.length l0_1) (hc0_1 : l0_1.length ≤ c0_1) (h : impl_SureTimes.f k a0_0 l0_1 = some (r1, r2)) :
    Calls Try.prog 16 #[.agg #[.int .i64 a0_0, .slice A0_1 l0_1.length c0_1]] w fun e w' => ∃ v0_ : Value, e = .returned (.tuple #[v0_, .bool r2]) ∧ Kd.R (Kd.int .i64) 3 w' w.heap.size (fun _ => True) v0_ r1 ∧ Below w.heap.size w w' := by
  have hu31 := Try.underlying31
  have HR0_1 := Aside0.mk hr0_1
  have HC0_1 := Aside0.mk hc0_1
  clear hr0_1 hc0_1
  have HB := Aside0.mk (Below.refl w.heap.size w)
  have H : ((impl_Solutions.f k a0_0 l0_1).bind fun bt926 => (if bt926.2 = true then (impl_SureTimes.j0 k bt926.1 ((bt926.1.length : Int) == 0)) else (impl_SureTimes.j0 k bt926.1 true))) = some (r1, r2) := h
  clear h
  replace H := Option.bind_eq_some_iff.mp H
  obtain ⟨⟨t926, t929⟩, A20, H⟩ := H
  replace H : (if t929 = true then (impl_SureTimes.j0 k t926 ((t926.length : Int) == 0)) else (impl_SureTimes.j0 k t926 true)) = some (r1, r2) := H
  have A2 := Aside0.mk A20
  clear A20
  have HC3 := Aside0.mk H
  clear H
  go_enter Try.func16, Try.ntmps16
  go_upto_region 2 with (first | ((with_reducible refine gate_dst (N := 1) rfl ?_); (try (refine gate_guard (by rfl) ?_; dsimp only)); refine box_event ?hg (N := 1) ?hd (cs := #[.int .i64 a0_0, .slice A0_1 l0_1.length c0_1]) (t := 31) ?hr ?_; (case hd => rfl); (case hg => rfl); (case hr => first | (go_simp; done) | (go_simp; rfl)); intro gb925 hg w4 hbox hb; have n0_ := Aside0.mk (below_step (by repeat (first | (with_reducible first | exact HB.out | apply below_alloc | apply pw_below_drewN | apply below_drew1) | exact HB.out)) hb); have n1_ := Aside0.mk (hbox); have n2_ := Aside0.mk ((by rw [hg]; exact (below_size (by repeat (first | (with_reducible first | exact HB.out | apply below_alloc | apply pw_below_drewN | apply below_drew1) | exact HB.out))) : w.heap.size ≤ gb925)); have n3_ := Aside0.mk ((by rw [hg]; exact (below_size (by repeat (first | (with_reducible first | exact HB.out | apply below_alloc | apply pw_below_drewN | apply below_drew1) | exact HB.out))) : w.heap.size ≤ gb925)); clear HB; have HB := n0_; have BK925 := n1_; have GW925 := n2_; have GE925 := n3_; clear n0_ n1_ n2_ n3_; clear hb hbox hg; have hcz5_0 : w4.cell? ⟨gb925, 0, none⟩ = some (.int .i64 a0_0) := (blk_cell BK925.out 0).trans rfl; have hcz5_1 : w4.cell? ⟨gb925, 1, none⟩ = some (.slice A0_1 l0_1.length c0_1) := (blk_cell BK925.out 1).trans rfl; have hfz5_0 := blk_frozen BK925.out 0; have hfz5_1 := blk_frozen BK925.out 1) | ((with_reducible refine gate_callee (f := 42) rfl ?_); refine goesL_ (some 13) rfl rfl Try.func42 (by kernel_rfl) rfl #[.agg #[.int .i64 a0_0, .slice A0_1 l0_1.length c0_1]] rfl (by (try simp only [List.map_toArray, List.map_cons, List.map_nil]); first | done | rfl | (simp only [List.length_drop, List.length_take]; rfl)) ?_; (with_reducible refine (impl_Solutions.calls k a0_0 _ _ l0_1 t926 t929 _ ?side1 ?side2 A2.out).mono ?_); (case side1 => repeat (first | exact (Kd.C_below HR0_1.out HB.out) | (with_reducible refine Kd.C_alloc ?_ _) | (with_reducible refine Kd.C_drewN ?_ _) | (with_reducible refine Kd.C_drew ?_))); (case side2 => exact HC0_1.out); rintro e w6 ⟨v927, rfl, ho0, hb⟩; refine ⟨_, rfl, ?_⟩; have n0_ := Aside0.mk (Kd.S_lower ho0 (below_size (by repeat (first | (with_reducible first | exact HB.out | apply below_alloc | apply pw_below_drewN | apply below_drew1 | refine below_set ?_ GE925.out) | exact HB.out)))); have n1_ := Aside0.mk (blk_below (g := gb925) (o := .cells #[.int .i64 a0_0, .slice A0_1 l0_1.length c0_1] 31 (0, 0)) (by (with_reducible repeat (first | refine blk_drewN ?_ _ | refine blk_drew ?_ | refine blk_alloc ?_ _)); exact BK925.out) hb); have n2_ := Aside0.mk (below_step (by repeat (first | (with_reducible first | exact HB.out | apply below_alloc | apply pw_below_drewN | apply below_drew1 | refine below_set ?_ GE925.out) | exact HB.out)) hb); clear BK925; clear HB; have HO928 := n0_; have BK925 := n1_; have HB := n2_; clear n0_ n1_ n2_; (try clear hb); (try clear hb2); (try clear hk); (try clear hi); (try clear ho0)))
  (try simp only [Act.put, List.setIfInBounds_toArray, List.set_cons_zero, List.set_cons_succ])
  go_cut [22] (fun v22 wc => ∃ (kq : Nat) (x22_2 : Bool), v22 = .bool x22_2 ∧ Aside0 (impl_SureTimes.j0 kq t926 x22_2 = some (r1, r2)) ∧ Aside0 (kq ≤ k) ∧ Aside0 (Kd.S (Kd.slice 3 (Kd.int .i64)) 26 wc w.heap.size (fun _ => True) v927 t926) ∧ Aside0 (wc.heap[gb925]? = some (.cells #[.int .i64 a0_0, (.slice A0_1 l0_1.length c0_1)] 31 (0, 0))) ∧ Aside0 (Below w.heap.size w wc))
  case first =>
    have H := HC3.out
    clear HC3
    by_cases c7 : t929 = true
    · subst c7
      have H1 : (impl_SureTimes.j0 k t926 ((t926.length : Int) == 0)) = some (r1, r2) := by rw [if_pos rfl] at H; exact H
      clear H
      have H := H1
      clear H1
      have H' := Aside0.mk H
      clear H
      obtain ⟨Ao8, co8, eo8⟩ := Kd.S_slice HO928.out
      subst eo8
      go_wp2
      go_meet
      case rel => exact ⟨_, (((t926.length : Int) == 0)), (by first | rfl | (simp; done) | (simp [*]; done)), H', ⟨by first | omega | exact Nat.le_refl _⟩, ⟨by (with_reducible repeat (first | apply Kd.S_alloc | apply Kd.S_drewN | apply Kd.S_drew)); exact HO928.out⟩, ⟨by (with_reducible repeat (first | refine blk_drewN ?_ _ | refine blk_drew ?_ | refine blk_alloc ?_ _)); exact BK925.out⟩, ⟨by repeat (first | (with_reducible first | exact HB.out | apply below_alloc | apply pw_below_drewN | apply below_drew1 | refine below_set ?_ GE925.out) | exact HB.out)⟩⟩
    · replace c7 := Bool.eq_false_iff.mpr c7
      subst c7
      have H1 : (impl_SureTimes.j0 k t926 true) = some (r1, r2) := by rw [if_neg (show ¬ (false = true) by decide)] at H; exact H
      clear H
      have H := H1
      clear H1
      have H' := Aside0.mk H
      clear H
      go_wp2
      go_meet
      case rel => exact ⟨_, (true), (by first | rfl | (simp; done) | (simp [*]; done)), H', ⟨by first | omega | exact Nat.le_refl _⟩, ⟨by (with_reducible repeat (first | apply Kd.S_alloc | apply Kd.S_drewN | apply Kd.S_drew)); exact HO928.out⟩, ⟨by (with_reducible repeat (first | refine blk_drewN ?_ _ | refine blk_drew ?_ | refine blk_alloc ?_ _)); exact BK925.out⟩, ⟨by repeat (first | (with_reducible first | exact HB.out | apply below_alloc | apply pw_below_drewN | apply below_drew1 | refine below_set ?_ GE925.out) | exact HB.out)⟩⟩
  case rest =>
    clear HC3
    try clear c1
    try clear p2
    try clear c4
    try clear c7
    try clear hcz5_0
    try clear hcz5_1
    try clear hfz5_0
    try clear hfz5_1
    obtain ⟨kq, x22_2, rfl, HA, HJ2, HO_4, BK925, HB⟩ := hcut
    cases kq with
    | zero => exact absurd HA.out (by simp [impl_SureTimes.j0])
    | succ kj2 =>
      have H := HA.out
      clear HA
      simp only [impl_SureTimes.j0] at H
      by_cases c9 : x22_2 = true
      · subst c9
        have H1 : (some (([] : List Int), false)) = some (r1, r2) := by rw [if_pos rfl] at H; exact H
        clear H
        have H := H1
        clear H1
        simp only [Option.some.injEq, Prod.mk.injEq] at H
        obtain ⟨rfl, rfl⟩ := H
        go_wp2
        go_ret2
        exact ⟨_, by first | rfl | (simp [errW_none, errW_some] <;> rfl) | (simp [*, errW_none, errW_some] <;> rfl), by first | exact Kd.R_nil _ _ _ _ _ | exact Kd.N_nil _ _ _ _ _ | exact Kd.V_nil _ _ _ _ _ | exact Kd.Q_nil _ _ _ _ _ | exact Kd.S_nil _ _ _ _ _, by repeat (first | (with_reducible first | exact HB.out | apply below_alloc | apply pw_below_drewN | apply below_drew1 | refine below_set ?_ GE925.out) | exact HB.out)⟩
      · replace c9 := Bool.eq_false_iff.mpr c9
        subst c9
        have H1 : (if 0 < (t926.length : Int) then ((slices_Clone_int_int.f (rd_L1 t926 0)).bind fun t931 => (impl_SureTimes.l0 kj2 t931 t926 (t926.length : Int) 0)) else (none)) = some (r1, r2) := by rw [if_neg (show ¬ (false = true) by decide)] at H; exact H
        clear H
        have H := H1
        clear H1
        by_cases c10 : 0 < (t926.length : Int)
        · rw [if_pos c10] at H
          have c10b0 : decide (0 < (t926.length : Int)) = true := decide_eq_true c10
          have c10b1 : decide (0 < t926.length) = true := decide_eq_true (by omega)
          clear c10
          replace H := Option.bind_eq_some_iff.mp H
          obtain ⟨t931, A110, H⟩ := H
          replace H : (impl_SureTimes.l0 kj2 t931 t926 (t926.length : Int) 0) = some (r1, r2) := H
          have A11 := Aside0.mk A110
          clear A110
          have H' := Aside0.mk H
          clear H
          obtain ⟨Ao12, co12, eo12⟩ := Kd.S_slice HO_4.out
          subst eo12
          have p930 : 0 ≤ (0 : Int) := (by omega)
          have q930 : 0 < (t926.length : Int) := of_decide_eq_true (by first | (with_reducible assumption) | assumption)
          obtain ⟨ad930, A930_0, c930_0, e930, hx930_0, hl930_0, hi930_0⟩ := at_L1 (Kd.S_reads' HO_4.out).2.2 0 p930 q930
          cases e930
          obtain ⟨ce930, hce930, hMe930, hcc930⟩ := Kd.S_get HO_4.out [] 0 p930 (by first | exact q930 | exact of_decide_eq_true (by first | (with_reducible assumption) | assumption) | (have e_ := (Kd.S_reads' HO_4.out).1; omega))
          obtain ⟨ve930_0, rfl, ge930_0⟩ := hMe930
          have hv930_0 := hcc930 0 _ rfl
          rw [Nat.add_zero, show ((Kd.slice 3 (Kd.int .i64))).sz = 1 from rfl, Nat.mul_one] at hv930_0
          replace hv930_0 := Option.some.inj (hv930_0.symm.trans hx930_0)
          rw [hv930_0] at ge930_0
          have HL930_0 := Aside0.mk (show Kd.R (Kd.int .i64) 3 _ _ _ _ (rd_L1 t926 0) from ge930_0)
          clear hv930_0 ge930_0
          clear hcc930 hce930
          have qi930 : (0 < t926.length) = True := eq_true (by omega)
          (try rw [show ((0 : Int)).toNat = 0 from rfl] at hx930_0)
          (try rw [Addr.add_zero'] at hx930_0)
          have HR930_0 := Aside0.mk hi930_0
          have HC930_0 := Aside0.mk hl930_0
          clear hi930_0 hl930_0
          replace p930 := eq_true p930
          replace q930 := eq_true q930
          go_wp2_with (first | ((with_reducible refine gate_callee (f := 51) rfl ?_); refine goesL_ (some 26) rfl rfl Try.func51 (by kernel_rfl) rfl #[.slice A930_0 (rd_L1 t926 0).length c930_0] rfl (by (try simp only [List.map_toArray, List.map_cons, List.map_nil]); first | done | rfl | (simp only [List.length_drop, List.length_take]; rfl)) ?_; (with_reducible refine (slices_Clone_int_int.calls _ _ (rd_L1 t926 0) t931 _ ?side1 ?side2 A11.out).mono ?_); (case side1 => repeat (first | exact (by repeat (first | (with_reducible exact HR930_0.out) | (with_reducible refine Kd.C_alloc ?_ _) | (with_reducible refine Kd.C_drewN ?_ _) | (with_reducible refine Kd.C_drew ?_) | exact HR930_0.out)) | (with_reducible refine Kd.C_alloc ?_ _) | (with_reducible refine Kd.C_drewN ?_ _) | (with_reducible refine Kd.C_drew ?_))); (case side2 => exact HC930_0.out); rintro e w13 ⟨v932, rfl, ho0, hb⟩; refine ⟨_, rfl, ?_⟩; have n0_ := Aside0.mk (Kd.S_elder' (by (with_reducible repeat (first | apply Kd.S_alloc | apply Kd.S_drewN | apply Kd.S_drew)); exact HO_4.out) (Kd.R_base ho0) hb); have n1_ := Aside0.mk (Kd.R_elder' (by (with_reducible repeat (first | apply Kd.R_alloc | apply Kd.R_drewN | apply Kd.R_drew)); exact HL930_0.out) (Kd.R_base ho0) hb); have n2_ := Aside0.mk (Kd.R_lower (Kd.R_new' ho0 (Kd.R_lt (by (with_reducible repeat (first | apply Kd.R_alloc | apply Kd.R_drewN | apply Kd.R_drew)); exact HL930_0.out))) (below_size (by repeat (first | (with_reducible first | exact HB.out | apply below_alloc | apply pw_below_drewN | apply below_drew1 | refine below_set ?_ GE925.out) | exact HB.out)))); have n3_ := Aside0.mk (blk_below (g := gb925) (o := .cells #[.int .i64 a0_0, .slice A0_1 l0_1.length c0_1] 31 (0, 0)) (by (with_reducible repeat (first | refine blk_drewN ?_ _ | refine blk_drew ?_ | refine blk_alloc ?_ _)); exact BK925.out) hb); have n4_ := Aside0.mk (Kd.C_below (by repeat (first | (with_reducible exact HR930_0.out) | (with_reducible refine Kd.C_alloc ?_ _) | (with_reducible refine Kd.C_drewN ?_ _) | (with_reducible refine Kd.C_drew ?_) | exact HR930_0.out)) hb); have n5_ := Aside0.mk (below_step (by repeat (first | (with_reducible first | exact HB.out | apply below_alloc | apply pw_below_drewN | apply below_drew1 | refine below_set ?_ GE925.out) | exact HB.out)) hb); clear HO_4; clear HL930_0; clear BK925; clear HR930_0; clear HB; have HO_4 := n0_; have HL930_0 := n1_; have HO933 := n2_; have BK925 := n3_; have HR930_0 := n4_; have HB := n5_; clear n0_ n1_ n2_ n3_ n4_ n5_; (try clear hb); (try clear hb2); (try clear hk); (try clear hi); (try clear ho0)))
          go_loopg [29] kj2 (fun kq v29 w' => ∃ (x6_2 : List Int) (x29_2 : Int), v29 = .int .i64 x29_2 ∧ Aside0 (impl_SureTimes.l0 kq x6_2 t926 (t926.length : Int) x29_2 = some (r1, r2)) ∧ Aside0 (kq ≤ kj2) ∧ Aside0 (Kd.R (Kd.int .i64) 3 w' w.heap.size (fun _ => True) v932 x6_2) ∧ Aside0 (Kd.S (Kd.slice 3 (Kd.int .i64)) 26 w' w.heap.size (fun k_ => some k_ ≠ (v932 : Value).ownBlock) (.slice (some ad930) t926.length co12) t926) ∧ Aside0 (w'.heap[gb925]? = some (.cells #[.int .i64 a0_0, (.slice A0_1 l0_1.length c0_1)] 31 (0, 0))) ∧ Aside0 (Below w.heap.size w w'))
          case atStart => exact ⟨(t931), (0), (by first | rfl | (simp; done) | (simp [*]; done)), H', ⟨Nat.le_refl _⟩, ⟨by (with_reducible repeat (first | apply Kd.R_alloc | apply Kd.R_drewN | apply Kd.R_drew)); exact Kd.R_mono HO933.out (fun _ hk => trivial)⟩, ⟨by (with_reducible repeat (first | apply Kd.S_alloc | apply Kd.S_drewN | apply Kd.S_drew)); exact Kd.S_mono HO_4.out (fun _ hk => hk.2)⟩, ⟨by (with_reducible repeat (first | refine blk_drewN ?_ _ | refine blk_drew ?_ | refine blk_alloc ?_ _)); exact BK925.out⟩, ⟨by repeat (first | (with_reducible first | exact HB.out | apply below_alloc | apply pw_below_drewN | apply below_drew1 | refine below_set ?_ GE925.out) | exact HB.out)⟩⟩
          case round =>
            clear H'
            try clear c1
            try clear p2
            try clear c4
            try clear c5
            try clear c7
            try clear c9
            try clear p9
            try clear q9
            try clear hx9
            try clear qi9
            try clear c10
            try clear c10b0
            try clear c10b1
            try clear hcz5_0
            try clear hcz5_1
            try clear hfz5_0
            try clear hfz5_1
            try clear hx930_0
            try clear p2
            try clear p930
            try clear q930
            obtain ⟨x6_2, x29_2, rfl, HA, HK2, HO_6, HO_27, BK925, HB⟩ := hrel
            cases gk with
            | zero => exact absurd HA.out (by simp [impl_SureTimes.l0])
            | succ k2 =>
              have H := HA.out
              clear HA
              simp only [impl_SureTimes.l0] at H
              by_cases c14 : x29_2 < (t926.length : Int)
              · rw [if_pos c14] at H
                have c14b0 : decide (x29_2 < (t926.length : Int)) = true := decide_eq_true c14
                clear c14
                by_cases c15 : 0 ≤ x29_2
                · rw [if_pos c15] at H
                  have c15b0 : decide (0 ≤ x29_2) = true := decide_eq_true c15
                  clear c15
                  by_cases c16 : x29_2 < (t926.length : Int)
                  · rw [if_pos c16] at H
                    have c16b0 : decide (x29_2 < (t926.length : Int)) = true := decide_eq_true c16
                    clear c16
                    have H' := Aside0.mk H
                    clear H
                    have p934 : 0 ≤ (x29_2 : Int) := of_decide_eq_true (by first | (with_reducible assumption) | assumption)
                    have q934 : x29_2 < (t926.length : Int) := of_decide_eq_true (by first | (with_reducible assumption) | assumption)
                    obtain ⟨ad934, A934_0, c934_0, e934, hx934_0, hl934_0, hi934_0⟩ := at_L1 (Kd.S_reads' HO_27.out).2.2 x29_2 p934 q934
                    obtain rfl : ad930 = ad934 := (by injection e934)
                    obtain ⟨ce934, hce934, hMe934, hcc934⟩ := Kd.S_get HO_27.out [] x29_2 p934 (by first | exact q934 | exact of_decide_eq_true (by first | (with_reducible assumption) | assumption) | (have e_ := (Kd.S_reads' HO_27.out).1; omega))
                    obtain ⟨ve934_0, rfl, ge934_0⟩ := hMe934
                    have hv934_0 := hcc934 0 _ rfl
                    rw [Nat.add_zero, show ((Kd.slice 3 (Kd.int .i64))).sz = 1 from rfl, Nat.mul_one] at hv934_0
                    replace hv934_0 := Option.some.inj (hv934_0.symm.trans hx934_0)
                    rw [hv934_0] at ge934_0
                    have HL934_0 := Aside0.mk (show Kd.R (Kd.int .i64) 3 _ _ _ _ (rd_L1 t926 x29_2) from ge934_0)
                    clear hv934_0 ge934_0
                    clear hcc934 hce934
                    have HR934_0 := Aside0.mk hi934_0
                    have HC934_0 := Aside0.mk hl934_0
                    clear hi934_0 hl934_0
                    replace p934 := eq_true p934
                    replace q934 := eq_true q934
                    go_wp2
                    go_loopg [35] k2 (fun kq v35 w' => ∃ (x6_3 : List Int) (x35_3 : Int), v35 = .int .i64 x35_3 ∧ Aside0 (impl_SureTimes.l1 kq x6_3 t926 (t926.length : Int) x29_2 (rd_L1 t926 x29_2) ((rd_L1 t926 x29_2).length : Int) x35_3 = some (r1, r2)) ∧ Aside0 (kq ≤ k2) ∧ Aside0 (Kd.R (Kd.int .i64) 3 w' w.heap.size (fun _ => True) v932 x6_3) ∧ Aside0 (Kd.S (Kd.slice 3 (Kd.int .i64)) 26 w' w.heap.size (fun k_ => some k_ ≠ (v932 : Value).ownBlock) (.slice (some ad930) t926.length co12) t926) ∧ Aside0 (w'.heap[gb925]? = some (.cells #[.int .i64 a0_0, (.slice A0_1 l0_1.length c0_1)] 31 (0, 0))) ∧ Aside0 (Below w.heap.size w w') ∧ Aside0 (Kd.R (Kd.int .i64) 3 w' w.heap.size (fun k_ => some k_ ≠ (v932 : Value).ownBlock) (.slice A934_0 (rd_L1 t926 x29_2).length c934_0) (rd_L1 t926 x29_2)))
                    case atStart => exact ⟨(x6_2), (0), (by first | rfl | (simp; done) | (simp [*]; done)), H', ⟨Nat.le_refl _⟩, ⟨by (with_reducible repeat (first | apply Kd.R_alloc | apply Kd.R_drewN | apply Kd.R_drew)); exact HO_6.out⟩, ⟨by (with_reducible repeat (first | apply Kd.S_alloc | apply Kd.S_drewN | apply Kd.S_drew)); exact HO_27.out⟩, ⟨by (with_reducible repeat (first | refine blk_drewN ?_ _ | refine blk_drew ?_ | refine blk_alloc ?_ _)); exact BK925.out⟩, ⟨by repeat (first | (with_reducible first | exact HB.out | apply below_alloc | apply pw_below_drewN | apply below_drew1 | refine below_set ?_ GE925.out) | exact HB.out)⟩, ⟨by (with_reducible repeat (first | apply Kd.R_alloc | apply Kd.R_drewN | apply Kd.R_drew)); exact Kd.R_mono HL934_0.out (fun _ hk => hk.1)⟩⟩
                    case round =>
                      clear H'
                      try clear c1
                      try clear p2
                      try clear c4
                      try clear c5
                      try clear c7
                      try clear c9
                      try clear p9
                      try clear q9
                      try clear hx9
                      try clear qi9
                      try clear c10
                      try clear c10b0
                      try clear c10b1
                      try clear c14
                      try clear c14b0
                      try clear c15
                      try clear c15b0
                      try clear c16
                      try clear c16b0
                      try clear hcz5_0
                      try clear hcz5_1
                      try clear hfz5_0
                      try clear hfz5_1
                      try clear hx930_0
                      try clear hx934_0
                      try clear p2
                      try clear p9
                      try clear p930
                      try clear p934
                      try clear q9
                      try clear q930
                      try clear q934
                      obtain ⟨x6_3, x35_3, rfl, HA, HK3, HO_6, HO_27, BK925, HB, HL934_0⟩ := hrel
                      have HR934_0 := Aside0.mk (Kd.R_reads' HL934_0.out).2.2
                      cases gk with
                      | zero => exact absurd HA.out (by simp [impl_SureTimes.l1])
                      | succ k3 =>
                        have H := HA.out
                        clear HA
                        simp only [impl_SureTimes.l1] at H
                        by_cases c17 : x35_3 < ((rd_L1 t926 x29_2).length : Int)
                        · rw [if_pos c17] at H
                          have c17b0 : decide (x35_3 < ((rd_L1 t926 x29_2).length : Int)) = true := decide_eq_true c17
                          clear c17
                          by_cases c18 : 0 ≤ x35_3
                          · rw [if_pos c18] at H
                            have c18b0 : decide (0 ≤ x35_3) = true := decide_eq_true c18
                            clear c18
                            by_cases c19 : x35_3 < ((rd_L1 t926 x29_2).length : Int)
                            · rw [if_pos c19] at H
                              have c19b0 : decide (x35_3 < ((rd_L1 t926 x29_2).length : Int)) = true := decide_eq_true c19
                              clear c19
                              by_cases c20 : x35_3 < (x6_3.length : Int)
                              · rw [if_pos c20] at H
                                have c20b0 : decide (x35_3 < (x6_3.length : Int)) = true := decide_eq_true c20
                                clear c20
                                by_cases c21 : (rd x6_3 x35_3) = (rd (rd_L1 t926 x29_2) x35_3)
                                · rw [if_pos c21] at H
                                  have c21b0 : ((rd x6_3 x35_3) == (rd (rd_L1 t926 x29_2) x35_3)) = true := beq_iff_eq.mpr c21
                                  have c21b1 : ((rd x6_3 x35_3) != (rd (rd_L1 t926 x29_2) x35_3)) = false := bne_eq_false_iff_eq.mpr c21
                                  clear c21
                                  have H' := Aside0.mk H
                                  clear H
                                  have p935 : 0 ≤ (x35_3 : Int) := of_decide_eq_true (by first | (with_reducible assumption) | assumption)
                                  have q935 : x35_3 < ((rd_L1 t926 x29_2).length : Int) := of_decide_eq_true (by first | (with_reducible assumption) | assumption)
                                  obtain ⟨ad935, e935, hx935_0⟩ := Kd.at_int HR934_0.out x35_3 p935 q935
                                  cases e935

                                  replace p935 := eq_true p935
                                  replace q935 := eq_true q935
                                  obtain ⟨Ao22, co22, eo22⟩ := Kd.R_slice HO_6.out
                                  subst eo22
                                  have p936 : 0 ≤ (x35_3 : Int) := of_decide_eq_true (by first | (with_reducible assumption) | assumption)
                                  have q936 : x35_3 < (x6_3.length : Int) := of_decide_eq_true (by first | (with_reducible assumption) | assumption)
                                  obtain ⟨ad936, e936, hx936_0⟩ := Kd.at_int (Kd.R_reads' HO_6.out).2.2 x35_3 p936 q936
                                  cases e936
                                  replace p936 := eq_true p936
                                  replace q936 := eq_true q936
                                  go_wp2
                                  go_roundg k3
                                  case measure => have := HJ2.out; have := HK2.out; have := HK3.out; omega
                                  case rel => exact ⟨(x6_3), (wrap64 (x35_3 + 1)), (by first | rfl | (simp; done) | (simp [*]; done)), H', ⟨by have := HJ2.out; have := HK2.out; have := HK3.out; omega⟩, ⟨by (with_reducible repeat (first | apply Kd.R_alloc | apply Kd.R_drewN | apply Kd.R_drew)); exact HO_6.out⟩, ⟨by (with_reducible repeat (first | apply Kd.S_alloc | apply Kd.S_drewN | apply Kd.S_drew)); exact HO_27.out⟩, ⟨by (with_reducible repeat (first | refine blk_drewN ?_ _ | refine blk_drew ?_ | refine blk_alloc ?_ _)); exact BK925.out⟩, ⟨by repeat (first | (with_reducible first | exact HB.out | apply below_alloc | apply pw_below_drewN | apply below_drew1 | refine below_set ?_ GE925.out) | exact HB.out)⟩, ⟨by (with_reducible repeat (first | apply Kd.R_alloc | apply Kd.R_drewN | apply Kd.R_drew)); exact HL934_0.out⟩⟩
                                · rw [if_neg c21] at H
                                  have c21b0 : ((rd x6_3 x35_3) == (rd (rd_L1 t926 x29_2) x35_3)) = false := beq_eq_false_iff_ne.mpr c21
                                  have c21b1 : ((rd x6_3 x35_3) != (rd (rd_L1 t926 x29_2) x35_3)) = true := bne_iff_ne.mpr c21
                                  obtain ⟨y937, hy937⟩ : ∃ y_ : List Int, y_ = (x6_3.set (x35_3 : Int).toNat 0) := ⟨_, rfl⟩
                                  replace H : (impl_SureTimes.l1 k3 y937 t926 (t926.length : Int) x29_2 (rd_L1 t926 x29_2) ((rd_L1 t926 x29_2).length : Int) (wrap64 (x35_3 + 1))) = some (r1, r2) := by first | (rw [hy937]; with_reducible exact H) | (have H2_ := (Option.bind_some _ _).symm.trans H; rw [hy937]; with_reducible exact H2_) | (have H2_ := (Option.bind_some _ _).symm.trans H; with_reducible exact H2_) | with_reducible exact H | (rw [hy937]; exact H) | exact H
                                  have Ny937 := Aside0.mk hy937
                                  clear hy937
                                  have H' := Aside0.mk H
                                  clear H
                                  have p935 : 0 ≤ (x35_3 : Int) := of_decide_eq_true (by first | (with_reducible assumption) | assumption)
                                  have q935 : x35_3 < ((rd_L1 t926 x29_2).length : Int) := of_decide_eq_true (by first | (with_reducible assumption) | assumption)
                                  obtain ⟨ad935, e935, hx935_0⟩ := Kd.at_int HR934_0.out x35_3 p935 q935
                                  cases e935

                                  replace p935 := eq_true p935
                                  replace q935 := eq_true q935
                                  obtain ⟨Ao24, co24, eo24⟩ := Kd.R_slice HO_6.out
                                  subst eo24
                                  have p936 : 0 ≤ (x35_3 : Int) := of_decide_eq_true (by first | (with_reducible assumption) | assumption)
                                  have q936 : x35_3 < (x6_3.length : Int) := of_decide_eq_true (by first | (with_reducible assumption) | assumption)
                                  obtain ⟨ad936, e936, hx936_0⟩ := Kd.at_int (Kd.R_reads' HO_6.out).2.2 x35_3 p936 q936
                                  cases e936
                                  replace p936 := eq_true p936
                                  replace q936 := eq_true q936
                                  have p23 : 0 ≤ (x35_3 : Int) := of_decide_eq_true (by first | (with_reducible assumption) | assumption)
                                  have q23 : (x35_3 : Int) < ((x6_3.length : Int) : Int) := of_decide_eq_true (by first | (with_reducible assumption) | assumption)
                                  obtain ⟨go23, co23, eo23, gb23, gl23, cl23, HG23⟩ := Kd.R_form HO_6.out (by omega)
                                  (first | cases eo23 | (injection eo23 with ea_ en_ ec_; (first | subst ea_ | (injection ea_ with ea_; subst ea_)); subst ec_; clear en_))
                                  have GB23 := Aside0.mk gb23
                                  have GG23 := Aside0.mk HG23
                                  clear gb23 gl23 HG23
                                  (first | simp only [add_plain] at hx936_0 | skip)
                                  obtain ⟨hx23_0, hf23_0⟩ := Kd.R_celln 0 HO_6.out (x35_3 : Int) p23 q23
                                  replace p23 := eq_true p23
                                  replace q23 := eq_true q23
                                  have HP25 := Kd.R_putg HO_6.out (x35_3 : Int) 0
                                  go_wp2_with (first | ((with_reducible refine gate_store (t := 3) (p := 48) rfl ?_); refine store_event (t := 3) (p := 48) (v := ?vo_w26) (w1 := (wr.setCell ⟨go23, (x35_3 : Int).toNat, none⟩ (.int .i64 0))) ?hg ?ho ?hn ?hr ?_; (case ho => rfl); (case hg => rfl); (case hn => rfl); (case hr => first | (go_simp; done) | (go_simp; rfl)); intro w26 hw; have hg : wr.grownBy w26 (some go23) := (by rw [hw]; exact HP25.2); have hp_ : Kd.R (Kd.int .i64) 3 w26 w.heap.size (fun _ => True) (.slice (some ⟨go23, 0, none⟩) x6_3.length co24) y937 := (by rw [hw, Ny937.out]; exact HP25.1); clear HP25; have n0_ := Aside0.mk (hp_); have n1_ := Aside0.mk (Kd.S_after (v := (.slice (some ⟨go23, 0, none⟩) x6_3.length co24)) (v1 := (.slice (some ⟨go23, 0, none⟩) x6_3.length co24)) (ok := (fun _ => True)) (by (with_reducible repeat (first | apply Kd.S_alloc | apply Kd.S_drewN | apply Kd.S_drew)); exact Kd.S_mono HO_27.out (fun _ hk => ⟨trivial, hk⟩)) hg (.inl rfl)); have n2_ := Aside0.mk (blk_grown (g := gb925) (o := .cells #[.int .i64 a0_0, .slice A0_1 l0_1.length c0_1] 31 (0, 0)) (by (with_reducible repeat (first | refine blk_drewN ?_ _ | refine blk_drew ?_ | refine blk_alloc ?_ _)); exact BK925.out) hg (Kd.R_ne HO_6.out BK925.out (by decide))); have n3_ := Aside0.mk ((by rw [hw]; exact below_set (HB.out) GB23.out : Below w.heap.size w w26)); have n9_ := Aside0.mk (Kd.R_after (v := (.slice (some ⟨go23, 0, none⟩) x6_3.length co24)) (v1 := (.slice (some ⟨go23, 0, none⟩) x6_3.length co24)) (ok := (fun _ => True)) (Kd.R_mono HL934_0.out (fun _ hk => ⟨trivial, hk⟩)) hg (.inl rfl)); clear HO_6; clear HO_27; clear BK925; clear HB; have HO_6 := n0_; have HO_27 := n1_; have BK925 := n2_; have HB := n3_; clear n0_ n1_ n2_ n3_; clear HL934_0; have HL934_0 := n9_; clear n9_; clear hg hw hp_))
                                  go_roundg k3
                                  case measure => have := HJ2.out; have := HK2.out; have := HK3.out; omega
                                  case rel => exact ⟨(y937), (wrap64 (x35_3 + 1)), (by first | rfl | (simp; done) | (simp [*]; done)), H', ⟨by have := HJ2.out; have := HK2.out; have := HK3.out; omega⟩, ⟨by (with_reducible repeat (first | apply Kd.R_alloc | apply Kd.R_drewN | apply Kd.R_drew)); exact HO_6.out⟩, ⟨by (with_reducible repeat (first | apply Kd.S_alloc | apply Kd.S_drewN | apply Kd.S_drew)); exact Kd.S_mono HO_27.out (fun _ hk => hk.2)⟩, ⟨by (with_reducible repeat (first | refine blk_drewN ?_ _ | refine blk_drew ?_ | refine blk_alloc ?_ _)); exact BK925.out⟩, ⟨by repeat (first | (with_reducible first | exact HB.out | apply below_alloc | apply pw_below_drewN | apply below_drew1 | refine below_set ?_ GE925.out) | exact HB.out)⟩, ⟨by (with_reducible repeat (first | apply Kd.R_alloc | apply Kd.R_drewN | apply Kd.R_drew)); exact Kd.R_mono HL934_0.out (fun _ hk => hk.2)⟩⟩
                              · rw [if_neg c20] at H
                                exact absurd H (by simp)
                            · rw [if_neg c19] at H
                              exact absurd H (by simp)
                          · rw [if_neg c18] at H
                            exact absurd H (by simp)
                        · rw [if_neg c17] at H
                          have c17b0 : decide (x35_3 < ((rd_L1 t926 x29_2).length : Int)) = false := decide_eq_false c17
                          clear c17
                          have H' := Aside0.mk H
                          clear H
                          go_wp2
                          go_roundg k3
                          case measure => have := HJ2.out; have := HK2.out; have := HK3.out; omega
                          case rel => exact ⟨(x6_3), (wrap64 (x29_2 + 1)), (by first | rfl | (simp; done) | (simp [*]; done)), H', ⟨by have := HJ2.out; have := HK2.out; have := HK3.out; omega⟩, ⟨by (with_reducible repeat (first | apply Kd.R_alloc | apply Kd.R_drewN | apply Kd.R_drew)); exact HO_6.out⟩, ⟨by (with_reducible repeat (first | apply Kd.S_alloc | apply Kd.S_drewN | apply Kd.S_drew)); exact HO_27.out⟩, ⟨by (with_reducible repeat (first | refine blk_drewN ?_ _ | refine blk_drew ?_ | refine blk_alloc ?_ _)); exact BK925.out⟩, ⟨by repeat (first | (with_reducible first | exact HB.out | apply below_alloc | apply pw_below_drewN | apply below_drew1 | refine below_set ?_ GE925.out) | exact HB.out)⟩⟩
                  · rw [if_neg c16] at H
                    exact absurd H (by simp)
                · rw [if_neg c15] at H
                  exact absurd H (by simp)
              · rw [if_neg c14] at H
                have c14b0 : decide (x29_2 < (t926.length : Int)) = false := decide_eq_false c14
                clear c14
                simp only [Option.some.injEq, Prod.mk.injEq] at H
                obtain ⟨rfl, rfl⟩ := H
                go_wp2
                go_ret2
                exact ⟨_, by first | rfl | (simp [errW_none, errW_some] <;> rfl) | (simp [*, errW_none, errW_some] <;> rfl), by (with_reducible repeat (first | apply Kd.R_alloc | apply Kd.R_drewN | apply Kd.R_drew)); exact HO_6.out, by repeat (first | (with_reducible first | exact HB.out | apply below_alloc | apply pw_below_drewN | apply below_drew1 | refine below_set ?_ GE925.out) | exact HB.out)⟩
        · rw [if_neg c10] at H
          exact absurd H (by simp)

end Go.Proofs.Ytkgbahokhifojaa.QHid
