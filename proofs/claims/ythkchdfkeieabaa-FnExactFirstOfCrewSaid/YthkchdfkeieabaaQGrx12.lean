/- Contracts of functions of the given program, walked: each call returns what its Lean function says. Conditions: those that stand at each theorem. (Written by a program of this session.) -/
import Derived.Test.YthkchdfkeieabaaQGrx0
import Derived.Test.YthkchdfkeieabaaQGrx2
import Derived.Test.YthkchdfkeieabaaQGrx10
import Derived.Test.YthkchdfkeieabaaQGrx11
namespace Go.Proofs.Ythkchdfkeieabaa.QGr
open Go.RowKit Go.Proofs.YthkchdfkeieabaaW.PrintWords Go.Proofs.YthkchdfkeieabaaW.PrintLast Go.Proofs.YthkchdfkeieabaaW.PrintMore
open List (setIfInBounds_toArray set_cons_zero set_cons_succ map_toArray map_cons map_nil)
attribute [local go_sem] max2_int min2_int max_two min_two max_three min_three max_four min_four
set_option linter.unusedVariables false
set_option maxHeartbeats 8000000
set_option maxRecDepth 100000
set_option linter.unusedSimpArgs false
def spec_FirstOfCrew.f (k : Nat) (l0_0 : List Int) (l0_1 : List Bool) (a0_2 : Int) : Option ((List (List Int)) × Bool) := (spec_loGood.f k l0_0 l0_1 a0_2).bind fun t447 => (if t447 = true then ((spec_loLeast.f k l0_0 l0_1 a0_2 false).bind fun t448 => (if t448 < 0 then (some (([] : List (List Int)), false)) else ((spec_loFirst.f k l0_0 l0_1 a0_2 false).bind fun t449 => (some (t449, true))))) else (some (([] : List (List Int)), false)))
theorem spec_FirstOfCrew.mono : ∀ a0 a1 a2 k, LeO (spec_FirstOfCrew.f k a0 a1 a2) (spec_FirstOfCrew.f (k + 1) a0 a1 a2) := by
 intro a0 a1 a2 k
 unfold spec_FirstOfCrew.f
 repeat' first
  | (with_reducible first | exact spec_loFirst.mono _ _ _ _ _ | exact spec_loGood.mono _ _ _ _ | exact spec_loLeast.mono _ _ _ _ _ | exact LeO.refl _ | exact LeO.none _ | refine LeO.ite ?_ ?_ | refine LeO.bind ?_ (fun _ => ?_))
  | exact spec_loFirst.mono _ _ _ _ _
  | exact spec_loGood.mono _ _ _ _
  | exact spec_loLeast.mono _ _ _ _ _
  | exact LeO.none _
  | refine LeO.ite ?_ ?_
  | refine LeO.bind ?_ (fun _ => ?_)
theorem spec_FirstOfCrew.calls (k : Nat) (P0_0_ : Nat → Prop) (A0_0 : Option Addr) (c0_0 : Nat) (l0_0 : List Int) (A0_1 : Option Addr) (c0_1 : Nat) (l0_1 : List Bool) (a0_2 : Int) (r1 : List (List Int)) (r2 : Bool) (w : World) (hs0_0 : Kd.V (Kd.int .i64) 3 w w.heap.size (fun k_ => P0_0_ k_) (.slice A0_0 l0_0.length c0_0) l0_0) (hr0_1 : Kd.C Kd.bool w A0_1 l0_1.length l0_1) (hc0_1 : l0_1.length ≤ c0_1) (h : spec_FirstOfCrew.f k l0_0 l0_1 a0_2 = some (r1, r2)) :
  Calls Try.prog 28 #[.agg #[.slice A0_0 l0_0.length c0_0, .slice A0_1 l0_1.length c0_1, .int .i64 a0_2]] w fun e w' => ∃ v0_ : Value, e = .returned (.tuple #[v0_, .bool r2]) ∧ Kd.N (Kd.slice 3 (Kd.int .i64)) 29 w' w.heap.size (fun k_ => (P0_0_ k_ ∨ w.heap.size ≤ k_)) v0_ r1 ∧ Below w.heap.size w w' := by
 have hu43 := Try.underlying43
 have HO0_0 := ak_ (show Kd.V (Kd.int .i64) 3 w w.heap.size (fun k_ => (P0_0_ k_ ∨ w.heap.size ≤ k_)) (.slice A0_0 l0_0.length c0_0) l0_0 from Kd.V_mono hs0_0 (fun k_ hk => .inl hk))
 have HR0_1 := ak_ hr0_1
 have HC0_1 := ak_ hc0_1
 clear hr0_1 hc0_1
 have HB := ak_ (Below.refl w.heap.size w)
 have H : ((spec_loGood.f k l0_0 l0_1 a0_2).bind fun t447 => (if t447 = true then ((spec_loLeast.f k l0_0 l0_1 a0_2 false).bind fun t448 => (if t448 < 0 then (some (([] : List (List Int)), false)) else ((spec_loFirst.f k l0_0 l0_1 a0_2 false).bind fun t449 => (some (t449, true))))) else (some (([] : List (List Int)), false)))) = some (r1, r2) := h
 clear h
 replace H := Option.bind_eq_some_iff.mp H
 obtain ⟨t447, A20, H⟩ := H
 replace H : (if t447 = true then ((spec_loLeast.f k l0_0 l0_1 a0_2 false).bind fun t448 => (if t448 < 0 then (some (([] : List (List Int)), false)) else ((spec_loFirst.f k l0_0 l0_1 a0_2 false).bind fun t449 => (some (t449, true))))) else (some (([] : List (List Int)), false))) = some (r1, r2) := H
 have A2 := ak_ A20
 clear A20
 by_cases c3 : t447 = true
 ·
  subst c3
  have H1 : ((spec_loLeast.f k l0_0 l0_1 a0_2 false).bind fun t448 => (if t448 < 0 then (some (([] : List (List Int)), false)) else ((spec_loFirst.f k l0_0 l0_1 a0_2 false).bind fun t449 => (some (t449, true))))) = some (r1, r2) := by rw [if_pos rfl] at H; exact H
  clear H
  have H := H1
  clear H1
  replace H := Option.bind_eq_some_iff.mp H
  obtain ⟨t448, A40, H⟩ := H
  replace H : (if t448 < 0 then (some (([] : List (List Int)), false)) else ((spec_loFirst.f k l0_0 l0_1 a0_2 false).bind fun t449 => (some (t449, true)))) = some (r1, r2) := H
  have A4 := ak_ A40
  clear A40
  by_cases c5 : t448 < 0
  ·
   rw [if_pos c5] at H
   have c5b0 : decide (t448 < 0) = true := decide_eq_true c5
   clear c5
   simp only [Option.some.injEq, Prod.mk.injEq] at H
   obtain ⟨rfl, rfl⟩ := H
   go_enter Try.func28, Try.ntmps28
   go_wp2_with (first | ((with_reducible refine gate_dst (N := 1) rfl ?_); refine bx_ 1 #[.slice A0_0 l0_0.length c0_0, .slice A0_1 l0_1.length c0_1, .int .i64 a0_2] 43 ?_; intro gb446 hg w6 hbox hb; have n0_ := ak_ (Kd.V_below (Kd.V_elderB (Kd.pV HO0_0.out) gb446 (Nat.le_of_eq hg.symm)) hb); have n1_ := ak_ (bs_ (bb_ HB.out) hb); have n2_ := ak_ (hbox); have n3_ := ak_ ((by rw [hg]; exact (bz_ (bb_ HB.out)) : w.heap.size ≤ gb446)); have n4_ := n3_; clear HO0_0; clear HB; have HO0_0 := n0_; have HB := n1_; have BK446 := n2_; have GW446 := n3_; have GE446 := n4_; clear n0_ n1_ n2_ n3_ n4_; clear hb hbox hg; have hcz7_0 : w6.cell? ⟨gb446, 0, none⟩ = some (.slice A0_0 l0_0.length c0_0) := (blk_cell BK446.out 0).trans rfl; have hcz7_1 : w6.cell? ⟨gb446, 1, none⟩ = some (.slice A0_1 l0_1.length c0_1) := (blk_cell BK446.out 1).trans rfl; have hcz7_2 : w6.cell? ⟨gb446, 2, none⟩ = some (.int .i64 a0_2) := (blk_cell BK446.out 2).trans rfl; have hfz7_0 := blk_frozen BK446.out 0; have hfz7_1 := blk_frozen BK446.out 1; have hfz7_2 := blk_frozen BK446.out 2) | ((with_reducible refine gate_callee (f := 53) rfl ?_); refine goesL_ (some 5) rfl rfl Try.func53 (by kernel_rfl) rfl #[.agg #[.slice A0_0 l0_0.length c0_0, .slice A0_1 l0_1.length c0_1, .int .i64 a0_2]] rfl (by first | rfl | (simp only [map_toArray, map_cons, map_nil]; try rfl)) ?_; (with_reducible refine (spec_loGood.calls k _ _ l0_0 _ _ l0_1 a0_2 true _ ?side1 ?side2 ?side3 ?side4 A2.out).mono ?_); (case side1 => repeat (first | exact (Kd.V_reads' HO0_0.out).2.2 | (with_reducible refine Kd.C_alloc ?_ _) | (with_reducible refine Kd.C_drewN ?_ _) | (with_reducible refine Kd.C_drew ?_))); (case side2 => exact (Kd.V_reads' HO0_0.out).2.1); (case side3 => repeat (first | exact (Kd.C_below HR0_1.out HB.out) | (with_reducible refine Kd.C_alloc ?_ _) | (with_reducible refine Kd.C_drewN ?_ _) | (with_reducible refine Kd.C_drew ?_))); (case side4 => exact HC0_1.out); rintro e w8 ⟨rfl, hb⟩; refine ⟨_, rfl, ?_⟩; have n0_ := ak_ (Kd.V_below (Kd.pV HO0_0.out) hb); have n1_ := ak_ (blk_below (pk BK446.out) hb); have n2_ := ak_ (bs_ bl_ hb); clear HO0_0; clear BK446; clear HB; have HO0_0 := n0_; have BK446 := n1_; have HB := n2_; clear n0_ n1_ n2_; (try clear hb); (try clear hb2); (try clear hk); (try clear hi); have hcz9_0 : w8.cell? ⟨gb446, 0, none⟩ = some (.slice A0_0 l0_0.length c0_0) := (blk_cell BK446.out 0).trans rfl; have hcz9_1 : w8.cell? ⟨gb446, 1, none⟩ = some (.slice A0_1 l0_1.length c0_1) := (blk_cell BK446.out 1).trans rfl; have hcz9_2 : w8.cell? ⟨gb446, 2, none⟩ = some (.int .i64 a0_2) := (blk_cell BK446.out 2).trans rfl; have hfz9_0 := blk_frozen BK446.out 0; have hfz9_1 := blk_frozen BK446.out 1; have hfz9_2 := blk_frozen BK446.out 2) | (go_at_call 68; (with_reducible refine (spec_loLeast.calls k _ _ l0_0 _ _ l0_1 a0_2 false t448 _ ?side1 ?side2 ?side3 ?side4 A4.out).mono ?_); (case side1 => repeat (first | exact (Kd.V_reads' HO0_0.out).2.2 | (with_reducible refine Kd.C_alloc ?_ _) | (with_reducible refine Kd.C_drewN ?_ _) | (with_reducible refine Kd.C_drew ?_))); (case side2 => exact (Kd.V_reads' HO0_0.out).2.1); (case side3 => repeat (first | exact (Kd.C_below HR0_1.out HB.out) | (with_reducible refine Kd.C_alloc ?_ _) | (with_reducible refine Kd.C_drewN ?_ _) | (with_reducible refine Kd.C_drew ?_))); (case side4 => exact HC0_1.out); rintro e w10 ⟨rfl, hb⟩; have n0_ := ak_ (Kd.V_below (Kd.pV HO0_0.out) hb); have n1_ := ak_ (blk_below (pk BK446.out) hb); have n2_ := ak_ (bs_ bl_ hb); clear HO0_0; clear BK446; clear HB; have HO0_0 := n0_; have BK446 := n1_; have HB := n2_; clear n0_ n1_ n2_; (try clear hb); (try clear hb2); (try clear hk); (try clear hi)))
   go_ret2
   exact ⟨_, rx_, by first | exact Kd.S_nil _ _ _ _ _ | exact Kd.N_nil _ _ _ _ _ | exact Kd.V_nil _ _ _ _ _ | exact Kd.Q_nil _ _ _ _ _ | exact Kd.R_nil _ _ _ _ _, by repeat (first | exact HB.out | apply ba_ | apply bN_ | apply b1_ | refine below_set ?_ GE446.out)⟩
  ·
   rw [if_neg c5] at H
   have c5b0 : decide (t448 < 0) = false := decide_eq_false c5
   clear c5
   replace H := Option.bind_eq_some_iff.mp H
   obtain ⟨t449, A110, H⟩ := H
   replace H : (some (t449, true)) = some (r1, r2) := H
   have A11 := ak_ A110
   clear A110
   simp only [Option.some.injEq, Prod.mk.injEq] at H
   obtain ⟨rfl, rfl⟩ := H
   go_enter Try.func28, Try.ntmps28
   go_wp2_with (first | ((with_reducible refine gate_dst (N := 1) rfl ?_); refine bx_ 1 #[.slice A0_0 l0_0.length c0_0, .slice A0_1 l0_1.length c0_1, .int .i64 a0_2] 43 ?_; intro gb446 hg w12 hbox hb; have n0_ := ak_ (Kd.V_below (Kd.V_elderB (Kd.pV HO0_0.out) gb446 (Nat.le_of_eq hg.symm)) hb); have n1_ := ak_ (bs_ (bb_ HB.out) hb); have n2_ := ak_ (hbox); have n3_ := ak_ ((by rw [hg]; exact (bz_ (bb_ HB.out)) : w.heap.size ≤ gb446)); have n4_ := n3_; clear HO0_0; clear HB; have HO0_0 := n0_; have HB := n1_; have BK446 := n2_; have GW446 := n3_; have GE446 := n4_; clear n0_ n1_ n2_ n3_ n4_; clear hb hbox hg; have hcz13_0 : w12.cell? ⟨gb446, 0, none⟩ = some (.slice A0_0 l0_0.length c0_0) := (blk_cell BK446.out 0).trans rfl; have hcz13_1 : w12.cell? ⟨gb446, 1, none⟩ = some (.slice A0_1 l0_1.length c0_1) := (blk_cell BK446.out 1).trans rfl; have hcz13_2 : w12.cell? ⟨gb446, 2, none⟩ = some (.int .i64 a0_2) := (blk_cell BK446.out 2).trans rfl; have hfz13_0 := blk_frozen BK446.out 0; have hfz13_1 := blk_frozen BK446.out 1; have hfz13_2 := blk_frozen BK446.out 2) | ((with_reducible refine gate_callee (f := 53) rfl ?_); refine goesL_ (some 5) rfl rfl Try.func53 (by kernel_rfl) rfl #[.agg #[.slice A0_0 l0_0.length c0_0, .slice A0_1 l0_1.length c0_1, .int .i64 a0_2]] rfl (by first | rfl | (simp only [map_toArray, map_cons, map_nil]; try rfl)) ?_; (with_reducible refine (spec_loGood.calls k _ _ l0_0 _ _ l0_1 a0_2 true _ ?side1 ?side2 ?side3 ?side4 A2.out).mono ?_); (case side1 => repeat (first | exact (Kd.V_reads' HO0_0.out).2.2 | (with_reducible refine Kd.C_alloc ?_ _) | (with_reducible refine Kd.C_drewN ?_ _) | (with_reducible refine Kd.C_drew ?_))); (case side2 => exact (Kd.V_reads' HO0_0.out).2.1); (case side3 => repeat (first | exact (Kd.C_below HR0_1.out HB.out) | (with_reducible refine Kd.C_alloc ?_ _) | (with_reducible refine Kd.C_drewN ?_ _) | (with_reducible refine Kd.C_drew ?_))); (case side4 => exact HC0_1.out); rintro e w14 ⟨rfl, hb⟩; refine ⟨_, rfl, ?_⟩; have n0_ := ak_ (Kd.V_below (Kd.pV HO0_0.out) hb); have n1_ := ak_ (blk_below (pk BK446.out) hb); have n2_ := ak_ (bs_ bl_ hb); clear HO0_0; clear BK446; clear HB; have HO0_0 := n0_; have BK446 := n1_; have HB := n2_; clear n0_ n1_ n2_; (try clear hb); (try clear hb2); (try clear hk); (try clear hi); have hcz15_0 : w14.cell? ⟨gb446, 0, none⟩ = some (.slice A0_0 l0_0.length c0_0) := (blk_cell BK446.out 0).trans rfl; have hcz15_1 : w14.cell? ⟨gb446, 1, none⟩ = some (.slice A0_1 l0_1.length c0_1) := (blk_cell BK446.out 1).trans rfl; have hcz15_2 : w14.cell? ⟨gb446, 2, none⟩ = some (.int .i64 a0_2) := (blk_cell BK446.out 2).trans rfl; have hfz15_0 := blk_frozen BK446.out 0; have hfz15_1 := blk_frozen BK446.out 1; have hfz15_2 := blk_frozen BK446.out 2) | (go_at_call 68; (with_reducible refine (spec_loLeast.calls k _ _ l0_0 _ _ l0_1 a0_2 false t448 _ ?side1 ?side2 ?side3 ?side4 A4.out).mono ?_); (case side1 => repeat (first | exact (Kd.V_reads' HO0_0.out).2.2 | (with_reducible refine Kd.C_alloc ?_ _) | (with_reducible refine Kd.C_drewN ?_ _) | (with_reducible refine Kd.C_drew ?_))); (case side2 => exact (Kd.V_reads' HO0_0.out).2.1); (case side3 => repeat (first | exact (Kd.C_below HR0_1.out HB.out) | (with_reducible refine Kd.C_alloc ?_ _) | (with_reducible refine Kd.C_drewN ?_ _) | (with_reducible refine Kd.C_drew ?_))); (case side4 => exact HC0_1.out); rintro e w16 ⟨rfl, hb⟩; have n0_ := ak_ (Kd.V_below (Kd.pV HO0_0.out) hb); have n1_ := ak_ (blk_below (pk BK446.out) hb); have n2_ := ak_ (bs_ bl_ hb); clear HO0_0; clear BK446; clear HB; have HO0_0 := n0_; have BK446 := n1_; have HB := n2_; clear n0_ n1_ n2_; (try clear hb); (try clear hb2); (try clear hk); (try clear hi); have hcz17_0 : w16.cell? ⟨gb446, 0, none⟩ = some (.slice A0_0 l0_0.length c0_0) := (blk_cell BK446.out 0).trans rfl; have hcz17_1 : w16.cell? ⟨gb446, 1, none⟩ = some (.slice A0_1 l0_1.length c0_1) := (blk_cell BK446.out 1).trans rfl; have hcz17_2 : w16.cell? ⟨gb446, 2, none⟩ = some (.int .i64 a0_2) := (blk_cell BK446.out 2).trans rfl; have hfz17_0 := blk_frozen BK446.out 0; have hfz17_1 := blk_frozen BK446.out 1; have hfz17_2 := blk_frozen BK446.out 2) | ((with_reducible refine gate_callee (f := 69) rfl ?_); refine goesL_ (some 13) rfl rfl Try.func69 (by kernel_rfl) rfl #[.agg #[.slice A0_0 l0_0.length c0_0, .slice A0_1 l0_1.length c0_1, .int .i64 a0_2], .bool false] rfl (by first | rfl | (simp only [map_toArray, map_cons, map_nil]; try rfl)) ?_; (with_reducible refine (spec_loFirst.calls k (fun k_ => ((P0_0_ k_ ∨ w.heap.size ≤ k_) ∧ k_ ≠ gb446)) _ _ l0_0 _ _ l0_1 a0_2 false t449 _ ?side1 ?side2 ?side3 A11.out).mono ?_); (case side1 => exact HO0_0.out); (case side2 => repeat (first | exact (Kd.C_below HR0_1.out HB.out) | (with_reducible refine Kd.C_alloc ?_ _) | (with_reducible refine Kd.C_drewN ?_ _) | (with_reducible refine Kd.C_drew ?_))); (case side3 => exact HC0_1.out); rintro e w18 ⟨v450, rfl, ho0, hb⟩; refine ⟨_, rfl, ?_⟩; have n0_ := ak_ (Kd.V_elder' (Kd.pV HO0_0.out) (Kd.N_base ho0) hb); have n1_ := ak_ (Kd.N_lower (Kd.N_mono (ok' := fun k_ => (P0_0_ k_ ∨ w.heap.size ≤ k_) ∧ k_ ≠ gb446) ho0 (fun k_ hk_ => ⟨Or.elim hk_ (fun hs_ => hs_.1) (fun hn_ => (.inr (Nat.le_trans (bz_ bl_) hn_))), Or.elim hk_ (fun hs_ => hs_.2) (fun hn_ => (Kd.freshB (pk BK446.out) k_ hn_))⟩)) (bz_ bl_)); have n2_ := ak_ (blk_below (pk BK446.out) hb); have n3_ := ak_ (bs_ bl_ hb); clear HO0_0; clear BK446; clear HB; have HO0_0 := n0_; have HO451 := n1_; have BK446 := n2_; have HB := n3_; clear n0_ n1_ n2_ n3_; (try clear hb); (try clear hb2); (try clear hk); (try clear hi); (try clear ho0)))
   go_ret2
   exact ⟨_, rx_, by (with_reducible repeat (first | apply Kd.N_alloc | apply Kd.N_drewN | apply Kd.N_drew)); exact Kd.N_mono HO451.out (fun _ hk => hk.1), by repeat (first | exact HB.out | apply ba_ | apply bN_ | apply b1_ | refine below_set ?_ GE446.out)⟩
 ·
  replace c3 := Bool.eq_false_iff.mpr c3
  subst c3
  have H1 : (some (([] : List (List Int)), false)) = some (r1, r2) := by rw [if_neg (show ¬ (false = true) by decide)] at H; exact H
  clear H
  have H := H1
  clear H1
  simp only [Option.some.injEq, Prod.mk.injEq] at H
  obtain ⟨rfl, rfl⟩ := H
  go_enter Try.func28, Try.ntmps28
  go_wp2_with (first | ((with_reducible refine gate_dst (N := 1) rfl ?_); refine bx_ 1 #[.slice A0_0 l0_0.length c0_0, .slice A0_1 l0_1.length c0_1, .int .i64 a0_2] 43 ?_; intro gb446 hg w19 hbox hb; have n0_ := ak_ (Kd.V_below (Kd.V_elderB (Kd.pV HO0_0.out) gb446 (Nat.le_of_eq hg.symm)) hb); have n1_ := ak_ (bs_ (bb_ HB.out) hb); have n2_ := ak_ (hbox); have n3_ := ak_ ((by rw [hg]; exact (bz_ (bb_ HB.out)) : w.heap.size ≤ gb446)); have n4_ := n3_; clear HO0_0; clear HB; have HO0_0 := n0_; have HB := n1_; have BK446 := n2_; have GW446 := n3_; have GE446 := n4_; clear n0_ n1_ n2_ n3_ n4_; clear hb hbox hg; have hcz20_0 : w19.cell? ⟨gb446, 0, none⟩ = some (.slice A0_0 l0_0.length c0_0) := (blk_cell BK446.out 0).trans rfl; have hcz20_1 : w19.cell? ⟨gb446, 1, none⟩ = some (.slice A0_1 l0_1.length c0_1) := (blk_cell BK446.out 1).trans rfl; have hcz20_2 : w19.cell? ⟨gb446, 2, none⟩ = some (.int .i64 a0_2) := (blk_cell BK446.out 2).trans rfl; have hfz20_0 := blk_frozen BK446.out 0; have hfz20_1 := blk_frozen BK446.out 1; have hfz20_2 := blk_frozen BK446.out 2) | ((with_reducible refine gate_callee (f := 53) rfl ?_); refine goesL_ (some 5) rfl rfl Try.func53 (by kernel_rfl) rfl #[.agg #[.slice A0_0 l0_0.length c0_0, .slice A0_1 l0_1.length c0_1, .int .i64 a0_2]] rfl (by first | rfl | (simp only [map_toArray, map_cons, map_nil]; try rfl)) ?_; (with_reducible refine (spec_loGood.calls k _ _ l0_0 _ _ l0_1 a0_2 false _ ?side1 ?side2 ?side3 ?side4 A2.out).mono ?_); (case side1 => repeat (first | exact (Kd.V_reads' HO0_0.out).2.2 | (with_reducible refine Kd.C_alloc ?_ _) | (with_reducible refine Kd.C_drewN ?_ _) | (with_reducible refine Kd.C_drew ?_))); (case side2 => exact (Kd.V_reads' HO0_0.out).2.1); (case side3 => repeat (first | exact (Kd.C_below HR0_1.out HB.out) | (with_reducible refine Kd.C_alloc ?_ _) | (with_reducible refine Kd.C_drewN ?_ _) | (with_reducible refine Kd.C_drew ?_))); (case side4 => exact HC0_1.out); rintro e w21 ⟨rfl, hb⟩; refine ⟨_, rfl, ?_⟩; have n0_ := ak_ (Kd.V_below (Kd.pV HO0_0.out) hb); have n1_ := ak_ (blk_below (pk BK446.out) hb); have n2_ := ak_ (bs_ bl_ hb); clear HO0_0; clear BK446; clear HB; have HO0_0 := n0_; have BK446 := n1_; have HB := n2_; clear n0_ n1_ n2_; (try clear hb); (try clear hb2); (try clear hk); (try clear hi)))
  go_ret2
  exact ⟨_, rx_, by first | exact Kd.S_nil _ _ _ _ _ | exact Kd.N_nil _ _ _ _ _ | exact Kd.V_nil _ _ _ _ _ | exact Kd.Q_nil _ _ _ _ _ | exact Kd.R_nil _ _ _ _ _, by repeat (first | exact HB.out | apply ba_ | apply bN_ | apply b1_ | refine below_set ?_ GE446.out)⟩
def impl_in.f (a0 : Int) (a1 : Int) (a2 : Int) : Option (Bool) := if a1 ≤ a0 then (some (decide (a0 ≤ a2))) else (some false)
theorem impl_in.calls (a0 : Int) (a1 : Int) (a2 : Int) (r : Bool) (w : World) (h : impl_in.f a0 a1 a2 = some r) :
  Calls Try.prog 82 #[.int .i64 a0, .int .i64 a1, .int .i64 a2] w fun e w' => e = .returned (.bool r) ∧ Drawn0 w w' := by
 have H : (if a1 ≤ a0 then (some (decide (a0 ≤ a2))) else (some false)) = some r := h
 clear h
 by_cases c4 : a1 ≤ a0
 ·rw [if_pos c4] at H
  have c4b0 : decide (a1 ≤ a0) = true := decide_eq_true c4
  clear c4
  obtain rfl := Option.some.inj H
  go_enter Try.func82, Try.ntmps82
  go_wp2
  go_ret
  exact ⟨ry_, by repeat (first | exact Drawn0.refl _ | apply Drawn0.step)⟩
 ·rw [if_neg c4] at H
  have c4b0 : decide (a1 ≤ a0) = false := decide_eq_false c4
  clear c4
  obtain rfl := Option.some.inj H
  go_enter Try.func82, Try.ntmps82
  go_wp2
  go_ret
  exact ⟨ry_, by repeat (first | exact Drawn0.refl _ | apply Drawn0.step)⟩
def anyO {α : Type} (p : α → Option Bool) : List α → Option Bool
 | [] => some false
 | x :: xs => (p x).bind fun b => if b = true then some true else anyO p xs
theorem anyO_some {α : Type} (p : α → Bool) (l : List α) : anyO (fun x => some (p x)) l = some (l.any p) := by
 induction l with
 | nil => rfl
 | cons x xs ih =>
  simp only [anyO, Option.bind_some, List.any_cons]
  cases p x
  ·simpa using ih
  ·simp
theorem anyO_mono {α : Type} {p q : α → Option Bool} (h : ∀ x, LeO (p x) (q x)) : ∀ l, LeO (anyO p l) (anyO q l)
 | [] => LeO.refl _
 | x :: xs => by
  unfold anyO
  refine LeO.bind (h x) (fun b => ?_)
  exact LeO.ite (LeO.refl _) (anyO_mono h xs)
theorem drop_at_i64 {l : List (Int)} {kk : Nat} (h : kk < l.length) : l.drop kk = rd l (kk : Int) :: l.drop (kk + 1) := by
 rw [List.drop_eq_getElem_cons h]
 simp [rd, List.getD_eq_getElem?_getD, List.getElem?_eq_getElem h]
theorem slices_IndexFunc_int_int.calls_fn (g : Nat) (lb : Array Value) (eg : ∀ args w, (callFunc g args).run Try.prog w = .ok (.enter g args) w) (p : Int → Option Bool)
  (A : Option Addr) (c : Nat) (l : List (Int)) (w : World) (hr : Kd.C (Kd.int .i64) w A l.length l)
  (hp : ∀ (W : World) (x : Int) (r : Bool), Below w.heap.size w W → p x = some r → Calls Try.prog g (#[.int .i64 x] ++ lb) W fun e w' => e = .returned (.bool r) ∧ Below W.heap.size W w')
  (r : Bool) (h : anyO p l = some r) :
  Calls Try.prog 163 #[.slice A l.length c, .func (.func g) #[] lb] w fun e w' => (∃ i : Int, e = .returned (.int .i64 i) ∧ decide (i ≥ 0) = r) ∧ Below w.heap.size w w' := by
 have HR0 := ak_ hr
 clear hr
 go_enter Try.func163, Try.ntmps163
 go_wp2
 go_loopg [5, 8] l.length (fun gg _ s8 wr => ∃ kk : Nat, kk ≤ l.length ∧ l.length - kk ≤ gg ∧ s8 = .int .i64 kk ∧ Aside0 (Below w.heap.size w wr) ∧ Aside0 (anyO p (l.drop kk) = some r))
 case atStart => exact ⟨0, Nat.zero_le _, by omega, rfl, ⟨Below.refl _ w⟩, ⟨h⟩⟩
 case round =>
  clear h
  obtain ⟨kk, hkk, hg, rfl, BW, A0⟩ := hrel
  have hbig := HR0.out.2.1
  by_cases hlt : kk < l.length
  ·have hltz : (kk : Int) < (l.length : Int) := by omega
   have hA := A0.out
   clear A0
   rw [drop_at_i64 hlt] at hA
   simp only [anyO] at hA
   obtain ⟨b, hb0, hb⟩ := Option.bind_eq_some_iff.mp hA
   clear hA
   obtain ⟨ad, eA, hx⟩ := Kd.at_int (Kd.C_below HR0.out BW.out) (kk : Int) (by omega) (by omega)
   cases eA
   simp only [Int.toNat_natCast] at hx
   have hcall := hp wr _ b BW.out hb0
   clear hp
   cases b with
   | true =>
    obtain rfl : true = r := by simpa using hb
    go_wp2_with (go_at_fn g; refine hcall.mono ?_; rintro e w' ⟨rfl, hb'⟩)
    go_ret
    exact ⟨⟨_, rfl, by simp⟩, BW.out.trans (hb'.mono BW.out.size)⟩
   | false =>
    have hb2 : anyO p (l.drop (kk + 1)) = some r := by simpa using hb
    have HB2 := ak_ hb2
    clear hb hb2
    go_wp2_with (go_at_fn g; refine hcall.mono ?_; rintro e w' ⟨rfl, hb'⟩)
    go_roundg (l.length - (kk + 1))
    case measure => omega
    case rel => exact ⟨kk + 1, by omega, by omega, by go_num, ⟨BW.out.trans (hb'.mono BW.out.size)⟩, HB2⟩
  ·have hltz : ¬ (kk : Int) < (l.length : Int) := by omega
   have : kk = l.length := by omega
   subst this
   have hA := A0.out
   clear A0
   rw [List.drop_length] at hA
   obtain rfl : false = r := by simpa [anyO] using hA
   go_wp2
   go_ret
   exact ⟨⟨_, rfl, by decide⟩, BW.out⟩
theorem slices_ContainsFunc_int_int.calls_fn (g : Nat) (lb : Array Value) (eg : ∀ args w, (callFunc g args).run Try.prog w = .ok (.enter g args) w) (p : Int → Option Bool)
  (A : Option Addr) (c : Nat) (l : List (Int)) (w : World) (hr : Kd.C (Kd.int .i64) w A l.length l)
  (hp : ∀ (W : World) (x : Int) (r : Bool), Below w.heap.size w W → p x = some r → Calls Try.prog g (#[.int .i64 x] ++ lb) W fun e w' => e = .returned (.bool r) ∧ Below W.heap.size W w')
  (r : Bool) (h : anyO p l = some r) :
  Calls Try.prog 131 #[.slice A l.length c, .func (.func g) #[] lb] w fun e w' => e = .returned (.bool r) ∧ Below w.heap.size w w' := by
 have hI := ak_ (slices_IndexFunc_int_int.calls_fn g lb eg p A c l w hr hp r h)
 clear hr hp h
 go_enter Try.func131, Try.ntmps131
 go_wp2_with (go_at_call 163; refine hI.out.mono ?_; rintro e w' ⟨⟨i, rfl, hi⟩, hb'⟩)
 go_ret
 exact ⟨by first | rfl | simp [hi], hb'⟩
def impl_areIn.f (l0 : List Int) (a1 : Int) (a2 : Int) (a3 : Int) (a4 : Int) : Option Bool :=
 some ((decide (a3 ≤ (l0.length : Int)) && decide ((l0.length : Int) ≤ a4)) && !(l0.any fun x => !(decide (a1 ≤ x) && decide (x ≤ a2))))
theorem impl_in.f_eq (x a b : Int) : impl_in.f x a b = some (decide (a ≤ x) && decide (x ≤ b)) := by
 unfold impl_in.f
 by_cases h : a ≤ x <;> simp [h]
theorem impl_areIn.calls_1 (x a1 a2 : Int) (B1 B2 : Nat) (w : World) (h1 : w.cell? ⟨B1, 0, none⟩ = some (.int .i64 a1)) (h2 : w.cell? ⟨B2, 0, none⟩ = some (.int .i64 a2)) :
  Calls Try.prog 132 (#[.int .i64 x] ++ #[.pointer (some ⟨B1, 0, none⟩), .pointer (some ⟨B2, 0, none⟩)]) w fun e w' => e = .returned (.bool (!(decide (a1 ≤ x) && decide (x ≤ a2)))) ∧ Below w.heap.size w w' := by
 have hin := fun W => impl_in.calls x a1 a2 _ W (impl_in.f_eq x a1 a2)
 generalize hb : (decide (a1 ≤ x) && decide (x ≤ a2)) = b at hin ⊢
 clear hb
 go_enter Try.func132, Try.ntmps132
 go_wp2_with (go_at_call 82; refine (hin _).mono ?_; rintro e w' ⟨rfl, ⟨nd, rfl⟩⟩)
 go_ret
 exact ⟨rfl, by repeat (first | exact Below.refl _ _ | apply bN_ | apply b1_)⟩
theorem impl_areIn.calls (A0 : Option Addr) (c0 : Nat) (l0 : List Int) (a1 : Int) (a2 : Int) (a3 : Int) (a4 : Int) (r : Bool) (w : World) (hr0 : Kd.C (Kd.int .i64) w A0 l0.length l0) (hc0 : l0.length ≤ c0) (h : impl_areIn.f l0 a1 a2 a3 a4 = some r) :
  Calls Try.prog 97 #[.slice A0 l0.length c0, .int .i64 a1, .int .i64 a2, .int .i64 a3, .int .i64 a4] w fun e w' => e = .returned (.bool r) ∧ Below w.heap.size w w' := by
 have hin := fun W => impl_in.calls (l0.length : Int) a3 a4 _ W (impl_in.f_eq _ a3 a4)
 obtain rfl := Option.some.inj h
 clear h
 have hC := ak_ fun (W : World) (hb : Below w.heap.size w W) (B1 B2 : Nat) (h1 : W.cell? ⟨B1, 0, none⟩ = some (.int .i64 a1)) (h2 : W.cell? ⟨B2, 0, none⟩ = some (.int .i64 a2)) (hB1 : B1 < W.heap.size) (hB2 : B2 < W.heap.size) =>
  slices_ContainsFunc_int_int.calls_fn 132 #[.pointer (some ⟨B1, 0, none⟩), .pointer (some ⟨B2, 0, none⟩)] (enters_of Try.func132 (by kernel_rfl) rfl) (fun x => some (!(decide (a1 ≤ x) && decide (x ≤ a2)))) A0 c0 l0 W (Kd.C_below hr0 hb)
   (fun W' x r hb' hx => by
    obtain rfl := Option.some.inj hx
    exact impl_areIn.calls_1 x a1 a2 B1 B2 W' ((hb'.cell (p := ⟨B1, 0, none⟩) hB1).trans h1) ((hb'.cell (p := ⟨B2, 0, none⟩) hB2).trans h2)) _ (anyO_some _ l0)
 clear hr0
 generalize hq : (l0.any fun x => !(decide (a1 ≤ x) && decide (x ≤ a2))) = q at hC ⊢
 clear hq
 generalize hb : (decide (a3 ≤ (l0.length : Int)) && decide ((l0.length : Int) ≤ a4)) = b at hin ⊢
 clear hb
 cases b
 ·go_enter Try.func97, Try.ntmps97
  go_wp2_with (go_at_call 82; refine (hin _).mono ?_; rintro e w' ⟨rfl, ⟨nd, rfl⟩⟩)
  go_ret
  exact ⟨rfl, by repeat (first | exact Below.refl _ _ | apply ba_ | apply bN_ | apply b1_)⟩
 ·go_enter Try.func97, Try.ntmps97
  go_wp2_with (first | (go_at_call 82; refine (hin _).mono ?_; rintro e w' ⟨rfl, ⟨nd, rfl⟩⟩) | (go_at_call 131; refine (hC.out _ (by repeat (first | exact Below.refl _ _ | apply ba_ | apply bN_ | apply b1_)) _ _ (by simp) (by simp) (by first | (simp; done) | (simp; omega)) (by first | (simp; done) | (simp; omega))).mono ?_; rintro e w' ⟨rfl, hb'⟩))
  go_ret
  exact ⟨by cases q <;> rfl, Below.trans (by repeat (first | exact Below.refl _ _ | apply ba_ | apply bN_ | apply b1_)) (hb'.mono (by first | (simp; done) | (simp; omega)))⟩
def impl_IsCrew.f (l0_0 : List Int) (l0_1 : List Bool) (a0_2 : Int) : Option (Bool) := (impl_areIn.f l0_0 1 500 1 7).bind fun t453 => (if t453 = true then (if (l0_1.length : Int) = (l0_0.length : Int) then ((impl_in.f a0_2 0 2000).bind fun t454 => (some t454)) else (some false)) else (some false))
theorem impl_IsCrew.calls (A0_0 : Option Addr) (c0_0 : Nat) (l0_0 : List Int) (A0_1 : Option Addr) (c0_1 : Nat) (l0_1 : List Bool) (a0_2 : Int) (r : Bool) (w : World) (hr0_0 : Kd.C (Kd.int .i64) w A0_0 l0_0.length l0_0) (hc0_0 : l0_0.length ≤ c0_0) (hr0_1 : Kd.C Kd.bool w A0_1 l0_1.length l0_1) (hc0_1 : l0_1.length ≤ c0_1) (h : impl_IsCrew.f l0_0 l0_1 a0_2 = some r) :
  Calls Try.prog 57 #[.agg #[.slice A0_0 l0_0.length c0_0, .slice A0_1 l0_1.length c0_1, .int .i64 a0_2]] w fun e w' => e = .returned (.bool r) ∧ Below w.heap.size w w' := by
 have hu43 := Try.underlying43
 have HR0_0 := ak_ hr0_0
 have HC0_0 := ak_ hc0_0
 clear hr0_0 hc0_0
 have HR0_1 := ak_ hr0_1
 have HC0_1 := ak_ hc0_1
 clear hr0_1 hc0_1
 have HB := ak_ (Below.refl w.heap.size w)
 have H : ((impl_areIn.f l0_0 1 500 1 7).bind fun t453 => (if t453 = true then (if (l0_1.length : Int) = (l0_0.length : Int) then ((impl_in.f a0_2 0 2000).bind fun t454 => (some t454)) else (some false)) else (some false))) = some r := h
 clear h
 replace H := Option.bind_eq_some_iff.mp H
 obtain ⟨t453, A20, H⟩ := H
 replace H : (if t453 = true then (if (l0_1.length : Int) = (l0_0.length : Int) then ((impl_in.f a0_2 0 2000).bind fun t454 => (some t454)) else (some false)) else (some false)) = some r := H
 have A2 := ak_ A20
 clear A20
 by_cases c3 : t453 = true
 ·
  subst c3
  have H1 : (if (l0_1.length : Int) = (l0_0.length : Int) then ((impl_in.f a0_2 0 2000).bind fun t454 => (some t454)) else (some false)) = some r := by rw [if_pos rfl] at H; exact H
  clear H
  have H := H1
  clear H1
  by_cases c4 : (l0_1.length : Int) = (l0_0.length : Int)
  ·
   rw [if_pos c4] at H
   have c4b0 : ((l0_1.length : Int) == (l0_0.length : Int)) = true := beq_iff_eq.mpr c4
   have c4b1 : ((l0_1.length : Int) != (l0_0.length : Int)) = false := bne_eq_false_iff_eq.mpr c4
   have c4b2 : (l0_1.length == l0_0.length) = true := by first | simpa using c4 | (simp at c4 ⊢; omega)
   clear c4
   replace H := Option.bind_eq_some_iff.mp H
   obtain ⟨t454, A50, H⟩ := H
   replace H : (some t454) = some r := H
   have A5 := ak_ A50
   clear A50
   obtain rfl := Option.some.inj H
   go_enter Try.func57, Try.ntmps57
   go_wp2_with (first | ((with_reducible refine gate_dst (N := 1) rfl ?_); (try (refine gate_guard (by rfl) ?_; dsimp only)); refine bx_ 1 #[.slice A0_0 l0_0.length c0_0, .slice A0_1 l0_1.length c0_1, .int .i64 a0_2] 43 ?_; intro gb452 hg w6 hbox hb; have n0_ := ak_ (bs_ (bb_ HB.out) hb); have n1_ := ak_ (hbox); have n2_ := ak_ ((by rw [hg]; exact (bz_ (bb_ HB.out)) : w.heap.size ≤ gb452)); have n3_ := n2_; clear HB; have HB := n0_; have BK452 := n1_; have GW452 := n2_; have GE452 := n3_; clear n0_ n1_ n2_ n3_; clear hb hbox hg; have hcz7_0 : w6.cell? ⟨gb452, 0, none⟩ = some (.slice A0_0 l0_0.length c0_0) := (blk_cell BK452.out 0).trans rfl; have hcz7_1 : w6.cell? ⟨gb452, 1, none⟩ = some (.slice A0_1 l0_1.length c0_1) := (blk_cell BK452.out 1).trans rfl; have hcz7_2 : w6.cell? ⟨gb452, 2, none⟩ = some (.int .i64 a0_2) := (blk_cell BK452.out 2).trans rfl; have hfz7_0 := blk_frozen BK452.out 0; have hfz7_1 := blk_frozen BK452.out 1; have hfz7_2 := blk_frozen BK452.out 2) | ((with_reducible refine gate_callee (f := 97) rfl ?_); refine goesL_ (some 5) rfl rfl Try.func97 (by kernel_rfl) rfl #[.slice A0_0 l0_0.length c0_0, .int .i64 1, .int .i64 500, .int .i64 1, .int .i64 7] rfl (by first | rfl | (simp only [map_toArray, map_cons, map_nil]; try rfl)) ?_; (with_reducible refine (impl_areIn.calls _ _ l0_0 1 500 1 7 true _ ?side1 ?side2 A2.out).mono ?_); (case side1 => repeat (first | exact (Kd.C_below HR0_0.out HB.out) | (with_reducible refine Kd.C_alloc ?_ _) | (with_reducible refine Kd.C_drewN ?_ _) | (with_reducible refine Kd.C_drew ?_))); (case side2 => exact HC0_0.out); rintro e w8 ⟨rfl, hb⟩; refine ⟨_, rfl, ?_⟩; have n0_ := ak_ (blk_below (pk BK452.out) hb); have n1_ := ak_ (bs_ bl_ hb); clear BK452; clear HB; have BK452 := n0_; have HB := n1_; clear n0_ n1_; (try clear hb); (try clear hb2); (try clear hk); (try clear hi); have hcz9_0 : w8.cell? ⟨gb452, 0, none⟩ = some (.slice A0_0 l0_0.length c0_0) := (blk_cell BK452.out 0).trans rfl; have hcz9_1 : w8.cell? ⟨gb452, 1, none⟩ = some (.slice A0_1 l0_1.length c0_1) := (blk_cell BK452.out 1).trans rfl; have hcz9_2 : w8.cell? ⟨gb452, 2, none⟩ = some (.int .i64 a0_2) := (blk_cell BK452.out 2).trans rfl; have hfz9_0 := blk_frozen BK452.out 0; have hfz9_1 := blk_frozen BK452.out 1; have hfz9_2 := blk_frozen BK452.out 2) | (go_at_call 82; (with_reducible refine (impl_in.calls a0_2 0 2000 t454 _ A5.out).mono ?_); rintro e w' ⟨rfl, ⟨nd, rfl⟩⟩))
   go_ret
   exact ⟨rx_, by repeat (first | exact HB.out | apply ba_ | apply bN_ | apply b1_ | refine below_set ?_ GE452.out)⟩
  ·
   rw [if_neg c4] at H
   have c4b0 : ((l0_1.length : Int) == (l0_0.length : Int)) = false := beq_eq_false_iff_ne.mpr c4
   have c4b1 : ((l0_1.length : Int) != (l0_0.length : Int)) = true := bne_iff_ne.mpr c4
   have c4b2 : (l0_1.length == l0_0.length) = false := by first | simpa using c4 | (simp at c4 ⊢; omega)
   obtain rfl := Option.some.inj H
   go_enter Try.func57, Try.ntmps57
   go_wp2_with (first | ((with_reducible refine gate_dst (N := 1) rfl ?_); (try (refine gate_guard (by rfl) ?_; dsimp only)); refine bx_ 1 #[.slice A0_0 l0_0.length c0_0, .slice A0_1 l0_1.length c0_1, .int .i64 a0_2] 43 ?_; intro gb452 hg w10 hbox hb; have n0_ := ak_ (bs_ (bb_ HB.out) hb); have n1_ := ak_ (hbox); have n2_ := ak_ ((by rw [hg]; exact (bz_ (bb_ HB.out)) : w.heap.size ≤ gb452)); have n3_ := n2_; clear HB; have HB := n0_; have BK452 := n1_; have GW452 := n2_; have GE452 := n3_; clear n0_ n1_ n2_ n3_; clear hb hbox hg; have hcz11_0 : w10.cell? ⟨gb452, 0, none⟩ = some (.slice A0_0 l0_0.length c0_0) := (blk_cell BK452.out 0).trans rfl; have hcz11_1 : w10.cell? ⟨gb452, 1, none⟩ = some (.slice A0_1 l0_1.length c0_1) := (blk_cell BK452.out 1).trans rfl; have hcz11_2 : w10.cell? ⟨gb452, 2, none⟩ = some (.int .i64 a0_2) := (blk_cell BK452.out 2).trans rfl; have hfz11_0 := blk_frozen BK452.out 0; have hfz11_1 := blk_frozen BK452.out 1; have hfz11_2 := blk_frozen BK452.out 2) | ((with_reducible refine gate_callee (f := 97) rfl ?_); refine goesL_ (some 5) rfl rfl Try.func97 (by kernel_rfl) rfl #[.slice A0_0 l0_0.length c0_0, .int .i64 1, .int .i64 500, .int .i64 1, .int .i64 7] rfl (by first | rfl | (simp only [map_toArray, map_cons, map_nil]; try rfl)) ?_; (with_reducible refine (impl_areIn.calls _ _ l0_0 1 500 1 7 true _ ?side1 ?side2 A2.out).mono ?_); (case side1 => repeat (first | exact (Kd.C_below HR0_0.out HB.out) | (with_reducible refine Kd.C_alloc ?_ _) | (with_reducible refine Kd.C_drewN ?_ _) | (with_reducible refine Kd.C_drew ?_))); (case side2 => exact HC0_0.out); rintro e w12 ⟨rfl, hb⟩; refine ⟨_, rfl, ?_⟩; have n0_ := ak_ (blk_below (pk BK452.out) hb); have n1_ := ak_ (bs_ bl_ hb); clear BK452; clear HB; have BK452 := n0_; have HB := n1_; clear n0_ n1_; (try clear hb); (try clear hb2); (try clear hk); (try clear hi); have hcz13_0 : w12.cell? ⟨gb452, 0, none⟩ = some (.slice A0_0 l0_0.length c0_0) := (blk_cell BK452.out 0).trans rfl; have hcz13_1 : w12.cell? ⟨gb452, 1, none⟩ = some (.slice A0_1 l0_1.length c0_1) := (blk_cell BK452.out 1).trans rfl; have hcz13_2 : w12.cell? ⟨gb452, 2, none⟩ = some (.int .i64 a0_2) := (blk_cell BK452.out 2).trans rfl; have hfz13_0 := blk_frozen BK452.out 0; have hfz13_1 := blk_frozen BK452.out 1; have hfz13_2 := blk_frozen BK452.out 2))
   go_ret
   exact ⟨rx_, by repeat (first | exact HB.out | apply ba_ | apply bN_ | apply b1_ | refine below_set ?_ GE452.out)⟩
 ·
  replace c3 := Bool.eq_false_iff.mpr c3
  subst c3
  have H1 : (some false) = some r := by rw [if_neg (show ¬ (false = true) by decide)] at H; exact H
  clear H
  have H := H1
  clear H1
  obtain rfl := Option.some.inj H
  go_enter Try.func57, Try.ntmps57
  go_wp2_with (first | ((with_reducible refine gate_dst (N := 1) rfl ?_); (try (refine gate_guard (by rfl) ?_; dsimp only)); refine bx_ 1 #[.slice A0_0 l0_0.length c0_0, .slice A0_1 l0_1.length c0_1, .int .i64 a0_2] 43 ?_; intro gb452 hg w14 hbox hb; have n0_ := ak_ (bs_ (bb_ HB.out) hb); have n1_ := ak_ (hbox); have n2_ := ak_ ((by rw [hg]; exact (bz_ (bb_ HB.out)) : w.heap.size ≤ gb452)); have n3_ := n2_; clear HB; have HB := n0_; have BK452 := n1_; have GW452 := n2_; have GE452 := n3_; clear n0_ n1_ n2_ n3_; clear hb hbox hg; have hcz15_0 : w14.cell? ⟨gb452, 0, none⟩ = some (.slice A0_0 l0_0.length c0_0) := (blk_cell BK452.out 0).trans rfl; have hcz15_1 : w14.cell? ⟨gb452, 1, none⟩ = some (.slice A0_1 l0_1.length c0_1) := (blk_cell BK452.out 1).trans rfl; have hcz15_2 : w14.cell? ⟨gb452, 2, none⟩ = some (.int .i64 a0_2) := (blk_cell BK452.out 2).trans rfl; have hfz15_0 := blk_frozen BK452.out 0; have hfz15_1 := blk_frozen BK452.out 1; have hfz15_2 := blk_frozen BK452.out 2) | ((with_reducible refine gate_callee (f := 97) rfl ?_); refine goesL_ (some 5) rfl rfl Try.func97 (by kernel_rfl) rfl #[.slice A0_0 l0_0.length c0_0, .int .i64 1, .int .i64 500, .int .i64 1, .int .i64 7] rfl (by first | rfl | (simp only [map_toArray, map_cons, map_nil]; try rfl)) ?_; (with_reducible refine (impl_areIn.calls _ _ l0_0 1 500 1 7 false _ ?side1 ?side2 A2.out).mono ?_); (case side1 => repeat (first | exact (Kd.C_below HR0_0.out HB.out) | (with_reducible refine Kd.C_alloc ?_ _) | (with_reducible refine Kd.C_drewN ?_ _) | (with_reducible refine Kd.C_drew ?_))); (case side2 => exact HC0_0.out); rintro e w16 ⟨rfl, hb⟩; refine ⟨_, rfl, ?_⟩; have n0_ := ak_ (blk_below (pk BK452.out) hb); have n1_ := ak_ (bs_ bl_ hb); clear BK452; clear HB; have BK452 := n0_; have HB := n1_; clear n0_ n1_; (try clear hb); (try clear hb2); (try clear hk); (try clear hi)))
  go_ret
  exact ⟨rx_, by repeat (first | exact HB.out | apply ba_ | apply bN_ | apply b1_ | refine below_set ?_ GE452.out)⟩
def slices_Repeat_int_int.f (l0 : List Int) (a1 : Int) : Option (List Int) := if l0.length = 1 then (if 0 ≤ a1 then (if a1 ≤ 1000000 then some (List.replicate a1.toNat (l0.headD 0)) else none) else none) else none
def slices_Repeat_int_int.row (N m : Nat) (x : Int) : List Int := List.replicate m x ++ List.replicate (N - m) 0
theorem slices_Repeat_int_int.row_len {N m : Nat} {x : Int} (h : m ≤ N) : (slices_Repeat_int_int.row N m x).length = N := by
 unfold slices_Repeat_int_int.row
 rw [List.length_append, List.length_replicate, List.length_replicate]
 omega
theorem slices_Repeat_int_int.row_set {N m : Nat} {x : Int} (h : m < N) : (slices_Repeat_int_int.row N m x).set m x = slices_Repeat_int_int.row N (m + 1) x := by
 unfold slices_Repeat_int_int.row
 obtain ⟨r, hr⟩ : ∃ r, N - m = r + 1 := ⟨N - m - 1, by omega⟩
 rw [hr, show N - (m + 1) = r by omega, List.set_append_right _ _ (by simp), List.length_replicate, Nat.sub_self, List.replicate_succ, List.set_cons_zero, List.replicate_succ', List.append_assoc]
 rfl
theorem slices_Repeat_int_int.row_get {N m j : Nat} {x : Int} (h : j < m) : rdOf 0 (slices_Repeat_int_int.row N m x) (j : Int) = x := by
 unfold slices_Repeat_int_int.row rdOf
 rw [Int.toNat_natCast, List.getD_eq_getElem?_getD, List.getElem?_append_left (by simpa using h)]
 simp [h]
theorem slices_Repeat_int_int.puts {w : World} {base g N c : Nat} {x : Int} (hg : w.heap.size ≤ g) : ∀ (q m : Nat) (W : World), m + q ≤ N → (Kd.int .i64).R 3 W base (fun _ => True) (.slice (some ⟨g, 0, none⟩) N c) (slices_Repeat_int_int.row N m x) → Below w.heap.size w W →
  (Kd.int .i64).R 3 (W.setCells g m (List.replicate q (Value.int .i64 x))) base (fun _ => True) (.slice (some ⟨g, 0, none⟩) N c) (slices_Repeat_int_int.row N (m + q) x) ∧ Below w.heap.size w (W.setCells g m (List.replicate q (Value.int .i64 x)))
 | 0, m, W, _, h, hb => ⟨h, hb⟩
 | q + 1, m, W, hl, h, hb => by
  have h1 := (Kd.R_putg h (m : Int) x).1
  rw [Int.toNat_natCast, slices_Repeat_int_int.row_set (by omega)] at h1
  have h2 := slices_Repeat_int_int.puts hg q (m + 1) _ (by omega) h1 (below_set (j := m) (v := Value.int .i64 x) hb hg)
  rw [show m + (q + 1) = m + 1 + q by omega, List.replicate_succ]
  exact h2
theorem slices_Repeat_int_int.calls (A0 : Option Addr) (c0 : Nat) (l0 : List Int) (a1 : Int) (r : List Int) (w : World) (hr0 : Kd.C (Kd.int .i64) w A0 l0.length l0) (hc0 : l0.length ≤ c0) (h : slices_Repeat_int_int.f l0 a1 = some r) :
  Calls Try.prog 127 #[.slice A0 l0.length c0, .int .i64 a1] w fun e w' => ∃ v0_ : Value, e = .returned (v0_) ∧ (Kd.int .i64).R 3 w' w.heap.size (fun _ => True) v0_ r ∧ Below w.heap.size w w' := by
 unfold slices_Repeat_int_int.f at h
 by_cases hl : l0.length = 1
 rotate_left
 ·rw [if_neg hl] at h; exact absurd h (by simp)
 rw [if_pos hl] at h
 by_cases h0 : 0 ≤ a1
 rotate_left
 ·rw [if_neg h0] at h; exact absurd h (by simp)
 rw [if_pos h0] at h
 by_cases h1 : a1 ≤ 1000000
 rotate_left
 ·rw [if_neg h1] at h; exact absurd h (by simp)
 rw [if_pos h1] at h
 obtain ⟨x, rfl⟩ := List.length_eq_one_iff.mp hl
 obtain ⟨N, rfl⟩ : ∃ N : Nat, a1 = (N : Int) := ⟨a1.toNat, by omega⟩
 rw [Int.toNat_natCast] at h
 obtain rfl := Option.some.inj h
 obtain ⟨ad, rfl, hx⟩ := Kd.at_int hr0 0 (by decide) (by simp)
 have hx1 : w.cell? (ad.add 0) = some (Value.int .i64 x) := hx
 have HX := ak_ hx1
 have HN := ak_ h1
 have HB := ak_ (Below.refl w.heap.size w)
 have HM0 := fun (W : World) => Try.bits_Mul 1 N (by decide) (by omega) W
 rw [show (1 * N / 18446744073709551616 : Nat) = 0 by omega, show (1 * N % 18446744073709551616 : Nat) = N by omega] at HM0
 have HM := ak_ HM0
 have k0 : decide ((N : Int) < 0) = false := decide_eq_false (by omega)
 have k0n : ((N : Int) < 0) = False := eq_false (by omega)
 have k1 : IntKind.u64.wrap (N : Int) = (N : Int) := IntWalk.u64_in _ ⟨by omega, by omega⟩
 have k2 : IntKind.i64.wrap (N : Int) = (N : Int) := IntWalk.i64_in _ ⟨by omega, by omega⟩
 have k3 : decide ((9223372036854775807 : Int) < (N : Int)) = false := decide_eq_false (by omega)
 have k3n : ((9223372036854775807 : Int) < (N : Int)) = False := eq_false (by omega)
 have HH := ak_ (show List.replicate N x = List.replicate N (List.headD [x] 0) from rfl)
 clear h hl h0 h1 hr0 hc0 hx hx1 HM0
 go_enter Try.func127, Try.ntmps127
 go_upto_region 6 with (go_at_call 161; refine (HM.out _).mono ?_; rintro e w' ⟨rfl, hw_⟩; rw [hw_]; clear hw_ w')
 go_upto_region 7 with ((with_reducible refine gate_dst (N := 30) rfl ?_); refine Kd.R_make (Kd.int .i64) _ 3 rfl (N := 30) rfl 29 _ _ rfl (N : Int) rfl rfl Try.underlying29 (Value.int .i64 0) 8 info3 rfl (by decide) (by omega) 0 (ok := fun _ => True) (okp := fun _ => True) rfl (fun _ hk => hk) trivial (by omega) (by have := HN.out; omega) (Below.refl _ _) (Nat.le_refl _) ?_; intro v30 w30 ho hb hg hnew; have HO := ak_ (Kd.R_lower ho (bz_ (bb_ HB.out))); have n0_ := ak_ (bs_ (bb_ HB.out) hb); clear HB hb hg hnew ho; have HB := n0_; clear n0_)
 have h30 := HO.out
 rw [Int.toNat_natCast] at h30
 clear HO
 have hsz : (Try.prog.info? 3).map (·.size) = some 1 := by kernel_rfl
 by_cases hz : N = 0
 ·obtain ⟨A3, c3, e3⟩ := Kd.R_slice h30
  rw [List.length_replicate] at e3
  subst e3
  have HO := ak_ h30
  have hcp : ∀ W, (Builtin.copy_ #[29, 29] 3 #[.slice A3 N c3, .slice (some ad) 1 c0]).run Try.prog W = .ok (goInt 0) W := fun W => run_copy_none W 29 29 3 3 A3 (some ad) N c3 1 c0 Try.underlying29 hsz (by rw [hz]; rfl)
  have k4 : decide ((0 : Int) < (N : Int)) = false := decide_eq_false (by omega)
  have k4n : decide (0 < N) = false := decide_eq_false (by omega)
  have k4p : (0 < N) = False := eq_false (by omega)
  have HZ := ak_ hz
  clear h30 hz
  go_upto_region 8 with (fail)
  go_loopg [8] 0 (fun gg v8 wr => v8 = .int .i64 0 ∧ Aside0 ((Kd.int .i64).R 3 wr w.heap.size (fun _ => True) (.slice A3 N c3) (List.replicate N 0)) ∧ Aside0 (Below w.heap.size w wr))
  case atStart => exact ⟨rfl, ⟨Kd.R_below HO.out be_⟩, ⟨(bb_ HB.out)⟩⟩
  case round =>
   clear HO HB
   obtain ⟨rfl, HO, HB⟩ := hrel
   go_wp2
   go_ret
   exact ⟨_, rfl, by have h_ := HO.out; rw [HZ.out] at h_ ⊢; exact Kd.R_below h_ be_, (bb_ HB.out)⟩
 obtain ⟨g, cap, e3, hge, -, -⟩ := Kd.R_form h30 (by rw [List.length_replicate]; omega)
 rw [List.length_replicate] at e3
 subst e3
 have HO := ak_ (show (Kd.int .i64).R 3 w30 w.heap.size (fun _ => True) (.slice (some ⟨g, 0, none⟩) N cap) (slices_Repeat_int_int.row N 0 x) from h30)
 have HG := ak_ hge
 have HZ := ak_ hz
 have hc00 := Kd.R_celln 0 h30 (0 : Int) (by decide) (by omega)
 have hcp : (Builtin.copy_ #[29, 29] 3 #[.slice (some ⟨g, 0, none⟩) N cap, .slice (some ad) 1 c0]).run Try.prog w30 = .ok (goInt 1) (w30.setCells g 0 [Value.int .i64 x]) :=
  run_copy_cells w30 29 29 3 3 g 0 N cap ad 1 c0 [Value.int .i64 x] Try.underlying29 hsz (by simp [Nat.min_def]; omega)
   (fun j v hj => by
    rcases j with _ | j
    ·obtain rfl := Option.some.inj hj
     exact (HB.out.cell (World.block_lt_of_cell? w _ HX.out)).trans HX.out
    ·simp at hj)
   (fun j hj => by
    obtain rfl : j = 0 := by simpa using hj
    have := hc00.1
    simp at this ⊢
    rw [this]; rfl)
   (fun j hj => by
    obtain rfl : j = 0 := by simpa using hj
    have := hc00.2
    simpa using this) (by intro v hv; obtain rfl := List.mem_singleton.mp hv; rfl)
 clear h30 hge hz hc00
 go_upto_region 8 with (fail)
 have hp1 := slices_Repeat_int_int.puts (w := w) HG.out 1 0 w30 (by have := HZ.out; omega) HO.out HB.out
 have n0_ := ak_ hp1.1
 have n1_ := ak_ hp1.2
 clear HO HB hp1 hcp
 have HO := n0_; have HB := n1_
 clear n0_ n1_
 change Aside0 ((Kd.int .i64).R 3 (w30.setCells g 0 [Value.int .i64 x]) w.heap.size (fun _ => True) (.slice (some ⟨g, 0, none⟩) N cap) (slices_Repeat_int_int.row N 1 x)) at HO
 change Aside0 (Below w.heap.size w (w30.setCells g 0 [Value.int .i64 x])) at HB
 generalize hW8 : w30.setCells g 0 [Value.int .i64 x] = W8 at HO HB ⊢
 clear hW8
 go_loopg [8] N (fun gg v8 wr => ∃ m : Nat, v8 = .int .i64 (m : Int) ∧ 1 ≤ m ∧ m ≤ N ∧ N - m ≤ gg ∧ Aside0 ((Kd.int .i64).R 3 wr w.heap.size (fun _ => True) (.slice (some ⟨g, 0, none⟩) N cap) (slices_Repeat_int_int.row N m x)) ∧ Aside0 (Below w.heap.size w wr))
 case atStart => exact ⟨1, rfl, Nat.le_refl _, by have := HZ.out; omega, by omega, ⟨Kd.R_below HO.out be_⟩, ⟨(bb_ HB.out)⟩⟩
 case round =>
  clear HO HB
  obtain ⟨m, rfl, hm1, hmN, hg, HO, HB⟩ := hrel
  by_cases hlt : m < N
  ·have q1 : decide ((m : Int) < (N : Int)) = true := decide_eq_true (by omega)
   have q1n : decide (m < N) = true := decide_eq_true hlt
   have q1p : (m < N) = True := eq_true hlt
   have hcap := (Kd.R_reads' HO.out).2.1
   have h00 := fun j (hj : j < N) => Kd.R_celln 0 HO.out (j : Int) (by omega) (by omega)
   have b0 : (0 : Int) ≤ (m : Int) := by omega
   have b1 : (m : Int) ≤ (N : Int) := by omega
   have b2 : (m : Int) ≤ (cap : Int) := by omega
   have b3 : (N : Int) ≤ (cap : Int) := by omega
   have b1n : m ≤ N := by omega
   have b2n : m ≤ cap := by omega
   have b3n : N ≤ cap := by omega
   have b4 : (cap = m) = False := eq_false (by omega)
   have b5 : ((cap : Int) = (m : Int)) = False := eq_false (by omega)
   obtain ⟨q, hq⟩ : ∃ q, q = Nat.min m (N - m) := ⟨_, rfl⟩
   have hq1 : q ≤ m := by rw [hq]; exact Nat.min_le_left _ _
   have hq2' : q ≤ N - m := by rw [hq]; exact Nat.min_le_right _ _
   have hq2 : m + q ≤ N := by omega
   clear hq2'
   have hq3 : 1 ≤ q := by rw [hq]; exact Nat.le_min.2 ⟨hm1, by omega⟩
   have hw : IntKind.i64.wrap ((m : Int) + (q : Int)) = ((m + q : Nat) : Int) := by rw [IntWalk.i64_in _ ⟨by omega, by have := HN.out; omega⟩]; omega
   have hp1 := slices_Repeat_int_int.puts (w := w) HG.out q m wr.drew hq2 (Kd.R_drew HO.out) (b1_ HB.out)
   have hcp : (Builtin.copy_ #[29, 29] 3 #[.slice (some ⟨g, m, none⟩) (N - m) (cap - m), .slice (some ⟨g, 0, none⟩) m cap]).run Try.prog wr.drew = .ok (goInt (q : Int)) (wr.drew.setCells g m (List.replicate q (Value.int .i64 x))) := by
    have h_ := run_copy_cells (P := Try.prog) wr.drew 29 29 3 3 g m (N - m) (cap - m) ⟨g, 0, none⟩ m cap (List.replicate q (Value.int .i64 x)) Try.underlying29 hsz (by rw [List.length_replicate]; exact hq)
     (fun j v hj => by
      rw [List.getElem?_replicate] at hj
      by_cases hjq : j < q
      ·rw [if_pos hjq] at hj
       obtain rfl := Option.some.inj hj
       have e := (h00 j (by omega)).1
       rw [slices_Repeat_int_int.row_get (by omega), Int.toNat_natCast] at e
       rw [add_plain]
       simpa using e
      ·rw [if_neg hjq] at hj; exact absurd hj (by simp))
     (fun j hj => by
      rw [List.length_replicate] at hj
      have e := (h00 (m + j) (by omega)).1
      rw [Int.toNat_natCast] at e
      simp only [World.cell?_drew]
      rw [e]; rfl)
     (fun j hj => by
      rw [List.length_replicate] at hj
      have e := (h00 (m + j) (by omega)).2
      rw [Int.toNat_natCast] at e
      simpa using e) (by intro v hv; obtain rfl := List.eq_of_mem_replicate hv; rfl)
    rw [List.length_replicate] at h_
    exact h_
   have HQ := ak_ (And.intro hq3 (And.intro hg hlt))
   have HP1 := ak_ hp1
   clear hq hq1 hq3 h00 hp1 hcap hm1 hmN hg hlt
   try go_wp2
   refine start_ (n := 10) (S := fun _ => True) (ds := [9]) (mb_ 10 0) (by kernel_rfl) rfl rfl trivial (fun hHeld => ?_)
   refine pure_ (i := 0) (N := some 38) (v := ?_) (a' := ?_) (mb_ 10 1) rfl rfl (by kernel_rfl) (fun _ _ _ h => h) (Or.inl ⟨by rfl, ?_⟩) ?_ ?_
   rotate_left
   ·intro w'
    go_simp
    with_reducible rfl
   rotate_left
   ·simp only [Act.put, setIfInBounds_toArray, set_cons_zero, set_cons_succ, i64_w, i32_w]
    rfl
   refine pure_ (i := 1) (N := some 39) (v := ?_) (a' := ?_) (mb_ 10 3) rfl rfl (by kernel_rfl) (fun _ _ _ h => h) (Or.inl ⟨by rfl, ?_⟩) ?_ ?_
   rotate_left
   ·intro w'
    go_simp
    with_reducible rfl
   rotate_left
   ·simp only [Act.put, setIfInBounds_toArray, set_cons_zero, set_cons_succ, i64_w, i32_w]
    rfl
   refine pure_ (i := 2) (N := some 40) (v := ?_) (a' := ?_) (mb_ 10 7) rfl rfl (by kernel_rfl) (fun _ _ _ h => h) (Or.inl ⟨by rfl, ?_⟩) ?_ ?_
   rotate_left
   ·intro w'
    go_simp
    with_reducible rfl
   rotate_left
   ·simp only [Act.put, setIfInBounds_toArray, set_cons_zero, set_cons_succ, i64_w, i32_w]
    rfl
   refine pure_ (i := 3) (N := some 41) (v := ?_) (a' := ?_) (mb_ 10 15) rfl rfl (by kernel_rfl) (fun _ _ _ h => h) (Or.inl ⟨by rfl, ?_⟩) ?_ ?_
   rotate_left
   ·intro w'
    go_simp
    with_reducible rfl
   rotate_left
   ·simp only [Act.put, setIfInBounds_toArray, set_cons_zero, set_cons_succ, i64_w, i32_w]
    rfl
   refine pure_ (i := 4) (N := some 42) (v := ?_) (a' := ?_) (mb_ 10 31) rfl rfl (by kernel_rfl) (fun _ _ _ h => h) (Or.inl ⟨by rfl, ?_⟩) ?_ ?_
   rotate_left
   ·intro w'
    go_simp
    with_reducible rfl
   rotate_left
   ·simp only [Act.put, setIfInBounds_toArray, set_cons_zero, set_cons_succ, i64_w, i32_w]
    rfl
   refine pure_ (i := 5) (N := some 43) (v := ?_) (a' := ?_) (mb_ 10 63) rfl rfl (by kernel_rfl) (fun _ _ _ h => h) (Or.inl ⟨by rfl, ?_⟩) ?_ ?_
   rotate_left
   ·intro w'
    go_simp
    with_reducible rfl
   rotate_left
   ·simp only [Act.put, setIfInBounds_toArray, set_cons_zero, set_cons_succ, i64_w, i32_w]
    rfl
   refine pure_ (i := 6) (N := some 44) (v := ?_) (a' := ?_) (mb_ 10 127) rfl rfl (by kernel_rfl) (fun _ _ _ h => h) (Or.inl ⟨by rfl, ?_⟩) ?_ ?_
   rotate_left
   ·intro w'
    go_simp
    with_reducible rfl
   rotate_left
   ·simp only [Act.put, setIfInBounds_toArray, set_cons_zero, set_cons_succ, i64_w, i32_w]
    rfl
   refine one_ (i := 7) (N := some 45) (mb_ 10 255) rfl rfl (by kernel_rfl) (by decide) (fun K hK => ?_)
   refine value_ (w1 := ?_) (v := ?_) (by rfl) rfl ?_ ?_
   rotate_left 2
   ·go_simp
    constructor
    ·rfl
    ·rfl
   refine hK.out _ _ trivial (fun hHeld => ?_)
   clear hK K
   refine nm_ ?_
   refine pure_ (i := 8) (N := some 46) (v := ?_) (a' := ?_) (mb_ 10 511) rfl rfl (by kernel_rfl) (fun _ _ _ h => h) (Or.inl ⟨by rfl, ?_⟩) ?_ ?_
   rotate_left
   ·intro w'
    go_simp
    with_reducible rfl
   rotate_left
   ·simp only [Act.put, setIfInBounds_toArray, set_cons_zero, set_cons_succ, i64_w, i32_w]
    rfl
   refine pure_ (i := 9) (N := some 8) (v := ?_) (a' := ?_) (mb_ 10 1023) rfl rfl (by kernel_rfl) (fun _ _ _ h => h) (Or.inl ⟨by rfl, ?_⟩) ?_ ?_
   rotate_left
   ·intro w'
    go_simp
    with_reducible rfl
   rotate_left
   ·simp only [Act.put, setIfInBounds_toArray, set_cons_zero, set_cons_succ, i64_w, i32_w]
    rfl
   refine done_ (by kernel_rfl) ?_
   clear HO HB hcp
   have HO := ak_ HP1.out.1
   have HB := ak_ HP1.out.2
   clear HP1
   generalize wr.drew.setCells g m (List.replicate q (Value.int .i64 x)) = W9 at HO HB ⊢
   try go_wp2
   go_roundg (N - (m + q))
   case measure => have := HQ.out; omega
   case rel => exact ⟨m + q, (ry_), by have := HQ.out; omega, hq2, Nat.le_refl _, ⟨Kd.R_below HO.out be_⟩, ⟨(bb_ HB.out)⟩⟩
  ·have q1 : decide ((m : Int) < (N : Int)) = false := decide_eq_false (by omega)
   have q1n : decide (m < N) = false := decide_eq_false hlt
   have q1p : (m < N) = False := eq_false hlt
   obtain rfl : m = N := by omega
   clear hlt hg hmN hm1
   go_wp2
   go_ret
   have e : slices_Repeat_int_int.row m m x = List.replicate m (List.headD [x] 0) := by unfold slices_Repeat_int_int.row; rw [Nat.sub_self]; simp
   exact ⟨_, rfl, by have h_ := HO.out; rw [e] at h_; exact Kd.R_below h_ be_, (bb_ HB.out)⟩
end Go.Proofs.Ythkchdfkeieabaa.QGr
