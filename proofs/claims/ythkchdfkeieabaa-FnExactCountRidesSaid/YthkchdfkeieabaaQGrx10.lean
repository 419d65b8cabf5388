/- Contracts of functions of the given program, walked: each call returns what its Lean function says. Conditions: those that stand at each theorem. (Written by a program of this session.) -/
import Derived.Test.YthkchdfkeieabaaQGrx0
import Derived.Test.YthkchdfkeieabaaQGrx2
import Derived.Test.YthkchdfkeieabaaQGrx9
namespace Go.Proofs.Ythkchdfkeieabaa.QGr
open Go.RowKit Go.Proofs.YthkchdfkeieabaaW.PrintWords Go.Proofs.YthkchdfkeieabaaW.PrintLast Go.Proofs.YthkchdfkeieabaaW.PrintMore
open List (setIfInBounds_toArray set_cons_zero set_cons_succ map_toArray map_cons map_nil)
attribute [local go_sem] max2_int min2_int max_two min_two max_three min_three max_four min_four
set_option linter.unusedVariables false
set_option maxHeartbeats 8000000
set_option maxRecDepth 100000
set_option linter.unusedSimpArgs false
def spec_keStart.f (a0_0 : Int) (l0_1 : List (List Int)) (a0_2 : Int) : Option (List Bool × Bool) := if 0 ≤ a0_0 then (if (a0_0 : Int).toNat ≤ 281474976710656 then (some ((List.replicate (a0_0 : Int).toNat false), false)) else (none)) else (none)
theorem spec_keStart.calls (a0_0 : Int) (A0_1 : Option Addr) (c0_1 : Nat) (l0_1 : List (List Int)) (a0_2 : Int) (r1 : List Bool) (r2 : Bool) (w : World) (hr0_1 : Kd.C (Kd.slice 3 (Kd.int .i64)) w A0_1 l0_1.length l0_1) (hc0_1 : l0_1.length ≤ c0_1) (h : spec_keStart.f a0_0 l0_1 a0_2 = some (r1, r2)) :
  Calls Try.prog 64 #[.agg #[.int .i64 a0_0, .slice A0_1 l0_1.length c0_1, .int .i64 a0_2]] w fun e w' => ∃ v0_ : Value, e = .returned (.agg #[v0_, .bool r2]) ∧ Kd.R Kd.bool 4 w' w.heap.size (fun _ => True) v0_ r1 ∧ Below w.heap.size w w' := by
 have hu52 := Try.underlying52
 have hu90 := Try.underlying90
 have HR0_1 := ak_ hr0_1
 have HC0_1 := ak_ hc0_1
 clear hr0_1 hc0_1
 have HB := ak_ (Below.refl w.heap.size w)
 have H : (if 0 ≤ a0_0 then (if (a0_0 : Int).toNat ≤ 281474976710656 then (some ((List.replicate (a0_0 : Int).toNat false), false)) else (none)) else (none)) = some (r1, r2) := h
 clear h
 by_cases c2 : 0 ≤ a0_0
 ·
  rw [if_pos c2] at H
  have c2b0 := eq_true c2
  have c2b1 : decide (0 ≤ a0_0) = true := decide_eq_true c2
  clear c2
  by_cases c3 : (a0_0 : Int).toNat ≤ 281474976710656
  ·
   rw [if_pos c3] at H
   have c3b0 := eq_true c3
   have c3b1 : decide ((a0_0 : Int).toNat ≤ 281474976710656) = true := decide_eq_true c3
   clear c3
   obtain ⟨y365, hy365⟩ : ∃ y_ : List Bool, y_ = (List.replicate (a0_0 : Int).toNat false) := ⟨_, rfl⟩
   replace H : (some (y365, false)) = some (r1, r2) := by first | (rw [hy365]; exact H) | exact H
   have Ny365 := ak_ hy365
   clear hy365
   simp only [Option.some.injEq, Prod.mk.injEq] at H
   obtain ⟨rfl, rfl⟩ := H
   go_enter Try.func64, Try.ntmps64
   go_wp2_with (first | ((with_reducible refine gate_dst (N := 1) rfl ?_); refine bx_ 1 #[.int .i64 a0_0, .slice A0_1 l0_1.length c0_1, .int .i64 a0_2] 52 ?_; intro gb363 hg w4 hbox hb; have n0_ := ak_ (bs_ (bb_ HB.out) hb); have n1_ := ak_ (hbox); have n2_ := ak_ ((by rw [hg]; exact (bz_ (bb_ HB.out)) : w.heap.size ≤ gb363)); have n3_ := n2_; clear HB; have HB := n0_; have BK363 := n1_; have GW363 := n2_; have GE363 := n3_; clear n0_ n1_ n2_ n3_; clear hb hbox hg) | ((with_reducible refine gate_dst (N := 2) rfl ?_); refine bx_ 2 #[.slice none 0 0, .bool false] 90 ?_; intro gb364 hg w5 hbox hb; have n0_ := ak_ (blk_below (pk BK363.out) hb); have n1_ := ak_ (bs_ bl_ hb); have n2_ := ak_ (hbox); have n3_ := ak_ ((by rw [hg]; exact (bz_ bl_) : w.heap.size ≤ gb364)); have n4_ := n3_; have n5_ := ak_ ((by rw [hg]; exact Nat.ne_of_lt (blk_lt (pk BK363.out)) : gb363 ≠ gb364)); have n6_ := ak_ n5_.out.symm; clear BK363; clear HB; have BK363 := n0_; have HB := n1_; have BK364 := n2_; have GW364 := n3_; have GE364 := n4_; have NB363_364 := n5_; have NB364_363 := n6_; clear n0_ n1_ n2_ n3_ n4_ n5_ n6_; clear hb hbox hg; have hnb6 := NB363_364.out; have hnc6 := NB364_363.out; have hcz7_0 : w5.cell? ⟨gb363, 0, none⟩ = some (.int .i64 a0_0) := (blk_cell BK363.out 0).trans rfl; have hcz7_1 : w5.cell? ⟨gb363, 1, none⟩ = some (.slice A0_1 l0_1.length c0_1) := (blk_cell BK363.out 1).trans rfl; have hcz7_2 : w5.cell? ⟨gb363, 2, none⟩ = some (.int .i64 a0_2) := (blk_cell BK363.out 2).trans rfl; have hfz7_0 := blk_frozen BK363.out 0; have hfz7_1 := blk_frozen BK363.out 1; have hfz7_2 := blk_frozen BK363.out 2) | ((with_reducible refine gate_dst (N := 5) rfl ?_); refine Kd.R_make Kd.bool _ 4 rfl (N := 5) rfl 38 _ _ rfl a0_0 rfl rfl Try.underlying38 (.bool false) 1 info4 rfl (by decide) (by omega) false (ok := fun _ => True) (okp := fun _ => True) rfl (fun _ hk => hk) trivial (odt_ (by assumption)) (Nat.le_trans (Nat.mul_le_mul_right _ (odt_ (by assumption) : a0_0.toNat ≤ 281474976710656)) (by omega)) (Below.refl _ _) (Nat.le_refl _) ?_; intro v366 w8 ho9 hb hg_ hnew_; clear hg_ hnew_; (first | rw [← Ny365.out] at ho9 | (simp only [Int.reduceToNat] at ho9; rw [← Ny365.out] at ho9)); have n0_ := ak_ (Kd.R_lower ho9 (bz_ bl_)); have n1_ := ak_ (blk_below (pk BK363.out) hb); have n2_ := ak_ (blk_below (pk BK364.out) hb); have n3_ := ak_ (bs_ bl_ hb); clear BK363; clear BK364; clear HB; have HO367 := n0_; have BK363 := n1_; have BK364 := n2_; have HB := n3_; clear n0_ n1_ n2_ n3_; clear hb ho9; obtain ⟨Ao10, co10, eo10⟩ := Kd.R_slice HO367.out; subst eo10; have hcz11_0 : w8.cell? ⟨gb364, 0, none⟩ = some (.slice none 0 0) := (blk_cell BK364.out 0).trans rfl; have hcz11_1 : w8.cell? ⟨gb364, 1, none⟩ = some (.bool false) := (blk_cell BK364.out 1).trans rfl; have hfz11_0 := blk_frozen BK364.out 0; have hfz11_1 := blk_frozen BK364.out 1))
   refine bodyPost_ret (results_cell_row rfl _ _ gb364 90 #[.slice Ao10 y365.length co10, .bool false] (0, 0) _ rfl (by (with_reducible repeat (first | refine kN_ ?_ _ | refine k1_ ?_ | refine ka_ ?_ _)); refine blk_put (cs := #[.slice Ao10 y365.length co10, .bool false]) ?_ 1 _ rfl; (with_reducible repeat (first | refine kN_ ?_ _ | refine k1_ ?_ | refine ka_ ?_ _)); refine blk_put (cs := #[.slice none 0 0, .bool false]) ?_ 0 _ rfl; exact pk BK364.out) Try.underlying90 rfl (by kernel_rfl)) rfl ?_
   exact ⟨_, rx_, by (with_reducible repeat (first | apply Kd.R_alloc | apply Kd.R_drewN | apply Kd.R_drew)); exact Kd.R_mono (Kd.R_far (p := ⟨gb364, 1, none⟩) (Kd.R_far (p := ⟨gb364, 0, none⟩) (Kd.R_types HO367.out BK364.out (by decide)) (fun _ hk => hk.2) (.slice Ao10 y365.length co10)) (fun _ hk => hk.2) (.bool false)) (fun _ hk => trivial), by repeat (first | exact HB.out | apply ba_ | apply bN_ | apply b1_ | refine below_set ?_ (Aside0.out (by assumption)))⟩
  ·
   rw [if_neg c3] at H
   exact absurd H (by simp)
 ·
  rw [if_neg c2] at H
  exact absurd H (by simp)
def spec_CountRides.f (k : Nat) (a0_0 : Int) (l0_1 : List (List Int)) (a0_2 : Int) : Option (Int × Bool) := (spec_keGood.f k a0_0 l0_1 a0_2).bind fun t369 => (if t369 = true then ((spec_keFar.f k a0_0 l0_1 a0_2).bind fun bt370 => ((spec_keStart.f a0_0 l0_1 a0_2).bind fun bt376 => ((spec_keIndex.f k bt376.1 bt376.2).bind fun t380 => (if 0 ≤ t380 then (if t380 < (bt370.2.length : Int) then (some (rd bt370.2 t380, true)) else (none)) else (none))))) else (some (0, false)))
theorem spec_CountRides.mono : ∀ a0 a1 a2 k, LeO (spec_CountRides.f k a0 a1 a2) (spec_CountRides.f (k + 1) a0 a1 a2) := by
 intro a0 a1 a2 k
 unfold spec_CountRides.f
 repeat' first
  | (with_reducible first | exact spec_keFar.mono _ _ _ _ | exact spec_keGood.mono _ _ _ _ | exact spec_keIndex.mono _ _ _ | exact LeO.refl _ | exact LeO.none _ | refine LeO.ite ?_ ?_ | refine LeO.bind ?_ (fun _ => ?_))
  | exact spec_keFar.mono _ _ _ _
  | exact spec_keGood.mono _ _ _ _
  | exact spec_keIndex.mono _ _ _
  | exact LeO.none _
  | refine LeO.ite ?_ ?_
  | refine LeO.bind ?_ (fun _ => ?_)
theorem spec_CountRides.calls (k : Nat) (a0_0 : Int) (A0_1 : Option Addr) (c0_1 : Nat) (l0_1 : List (List Int)) (a0_2 : Int) (r1 : Int) (r2 : Bool) (w : World) (hr0_1 : Kd.C (Kd.slice 3 (Kd.int .i64)) w A0_1 l0_1.length l0_1) (hc0_1 : l0_1.length ≤ c0_1) (h : spec_CountRides.f k a0_0 l0_1 a0_2 = some (r1, r2)) :
  Calls Try.prog 24 #[.agg #[.int .i64 a0_0, .slice A0_1 l0_1.length c0_1, .int .i64 a0_2]] w fun e w' => e = .returned (.tuple #[.int .i64 r1, .bool r2]) ∧ Below w.heap.size w w' := by
 have hu52 := Try.underlying52
 have HR0_1 := ak_ hr0_1
 have HC0_1 := ak_ hc0_1
 clear hr0_1 hc0_1
 have HB := ak_ (Below.refl w.heap.size w)
 have H : ((spec_keGood.f k a0_0 l0_1 a0_2).bind fun t369 => (if t369 = true then ((spec_keFar.f k a0_0 l0_1 a0_2).bind fun bt370 => ((spec_keStart.f a0_0 l0_1 a0_2).bind fun bt376 => ((spec_keIndex.f k bt376.1 bt376.2).bind fun t380 => (if 0 ≤ t380 then (if t380 < (bt370.2.length : Int) then (some (rd bt370.2 t380, true)) else (none)) else (none))))) else (some (0, false)))) = some (r1, r2) := h
 clear h
 replace H := Option.bind_eq_some_iff.mp H
 obtain ⟨t369, A20, H⟩ := H
 replace H : (if t369 = true then ((spec_keFar.f k a0_0 l0_1 a0_2).bind fun bt370 => ((spec_keStart.f a0_0 l0_1 a0_2).bind fun bt376 => ((spec_keIndex.f k bt376.1 bt376.2).bind fun t380 => (if 0 ≤ t380 then (if t380 < (bt370.2.length : Int) then (some (rd bt370.2 t380, true)) else (none)) else (none))))) else (some (0, false))) = some (r1, r2) := H
 have A2 := ak_ A20
 clear A20
 by_cases c3 : t369 = true
 ·
  subst c3
  have H1 : ((spec_keFar.f k a0_0 l0_1 a0_2).bind fun bt370 => ((spec_keStart.f a0_0 l0_1 a0_2).bind fun bt376 => ((spec_keIndex.f k bt376.1 bt376.2).bind fun t380 => (if 0 ≤ t380 then (if t380 < (bt370.2.length : Int) then (some (rd bt370.2 t380, true)) else (none)) else (none))))) = some (r1, r2) := by rw [if_pos rfl] at H; exact H
  clear H
  have H := H1
  clear H1
  replace H := Option.bind_eq_some_iff.mp H
  obtain ⟨⟨t370, t373⟩, A40, H⟩ := H
  replace H : ((spec_keStart.f a0_0 l0_1 a0_2).bind fun bt376 => ((spec_keIndex.f k bt376.1 bt376.2).bind fun t380 => (if 0 ≤ t380 then (if t380 < (t373.length : Int) then (some (rd t373 t380, true)) else (none)) else (none)))) = some (r1, r2) := H
  have A4 := ak_ A40
  clear A40
  replace H := Option.bind_eq_some_iff.mp H
  obtain ⟨⟨t376, t379⟩, A50, H⟩ := H
  replace H : ((spec_keIndex.f k t376 t379).bind fun t380 => (if 0 ≤ t380 then (if t380 < (t373.length : Int) then (some (rd t373 t380, true)) else (none)) else (none))) = some (r1, r2) := H
  have A5 := ak_ A50
  clear A50
  replace H := Option.bind_eq_some_iff.mp H
  obtain ⟨t380, A60, H⟩ := H
  replace H : (if 0 ≤ t380 then (if t380 < (t373.length : Int) then (some (rd t373 t380, true)) else (none)) else (none)) = some (r1, r2) := H
  have A6 := ak_ A60
  clear A60
  by_cases c7 : 0 ≤ t380
  ·
   rw [if_pos c7] at H
   have c7b0 : decide (0 ≤ t380) = true := decide_eq_true c7
   clear c7
   by_cases c8 : t380 < (t373.length : Int)
   ·
    rw [if_pos c8] at H
    have c8b0 : decide (t380 < (t373.length : Int)) = true := decide_eq_true c8
    clear c8
    simp only [Option.some.injEq, Prod.mk.injEq] at H
    obtain ⟨rfl, rfl⟩ := H
    go_enter Try.func24, Try.ntmps24
    go_wp2_with (first | ((with_reducible refine gate_dst (N := 1) rfl ?_); refine bx_ 1 #[.int .i64 a0_0, .slice A0_1 l0_1.length c0_1, .int .i64 a0_2] 52 ?_; intro gb368 hg w9 hbox hb; have n0_ := ak_ (bs_ (bb_ HB.out) hb); have n1_ := ak_ (hbox); have n2_ := ak_ ((by rw [hg]; exact (bz_ (bb_ HB.out)) : w.heap.size ≤ gb368)); have n3_ := n2_; clear HB; have HB := n0_; have BK368 := n1_; have GW368 := n2_; have GE368 := n3_; clear n0_ n1_ n2_ n3_; clear hb hbox hg; have hcz10_0 : w9.cell? ⟨gb368, 0, none⟩ = some (.int .i64 a0_0) := (blk_cell BK368.out 0).trans rfl; have hcz10_1 : w9.cell? ⟨gb368, 1, none⟩ = some (.slice A0_1 l0_1.length c0_1) := (blk_cell BK368.out 1).trans rfl; have hcz10_2 : w9.cell? ⟨gb368, 2, none⟩ = some (.int .i64 a0_2) := (blk_cell BK368.out 2).trans rfl; have hfz10_0 := blk_frozen BK368.out 0; have hfz10_1 := blk_frozen BK368.out 1; have hfz10_2 := blk_frozen BK368.out 2) | ((with_reducible refine gate_callee (f := 61) rfl ?_); refine goesL_ (some 7) rfl rfl Try.func61 (by kernel_rfl) rfl #[.agg #[.int .i64 a0_0, .slice A0_1 l0_1.length c0_1, .int .i64 a0_2]] rfl (by first | rfl | (simp only [map_toArray, map_cons, map_nil]; try rfl)) ?_; (with_reducible refine (spec_keGood.calls k a0_0 _ _ l0_1 a0_2 true _ ?side1 ?side2 A2.out).mono ?_); (case side1 => repeat (first | exact (Kd.C_below HR0_1.out HB.out) | (with_reducible refine Kd.C_alloc ?_ _) | (with_reducible refine Kd.C_drewN ?_ _) | (with_reducible refine Kd.C_drew ?_))); (case side2 => exact HC0_1.out); rintro e w11 ⟨rfl, hb⟩; refine ⟨_, rfl, ?_⟩; have n0_ := ak_ (blk_below (pk BK368.out) hb); have n1_ := ak_ (bs_ bl_ hb); clear BK368; clear HB; have BK368 := n0_; have HB := n1_; clear n0_ n1_; (try clear hb); (try clear hb2); (try clear hk); (try clear hi); have hcz12_0 : w11.cell? ⟨gb368, 0, none⟩ = some (.int .i64 a0_0) := (blk_cell BK368.out 0).trans rfl; have hcz12_1 : w11.cell? ⟨gb368, 1, none⟩ = some (.slice A0_1 l0_1.length c0_1) := (blk_cell BK368.out 1).trans rfl; have hcz12_2 : w11.cell? ⟨gb368, 2, none⟩ = some (.int .i64 a0_2) := (blk_cell BK368.out 2).trans rfl; have hfz12_0 := blk_frozen BK368.out 0; have hfz12_1 := blk_frozen BK368.out 1; have hfz12_2 := blk_frozen BK368.out 2) | ((with_reducible refine gate_callee (f := 62) rfl ?_); refine goesL_ (some 11) rfl rfl Try.func62 (by kernel_rfl) rfl #[.agg #[.int .i64 a0_0, .slice A0_1 l0_1.length c0_1, .int .i64 a0_2]] rfl (by first | rfl | (simp only [map_toArray, map_cons, map_nil]; try rfl)) ?_; (with_reducible refine (spec_keFar.calls k a0_0 _ _ l0_1 a0_2 t370 t373 _ ?side1 ?side2 A4.out).mono ?_); (case side1 => repeat (first | exact (Kd.C_below HR0_1.out HB.out) | (with_reducible refine Kd.C_alloc ?_ _) | (with_reducible refine Kd.C_drewN ?_ _) | (with_reducible refine Kd.C_drew ?_))); (case side2 => exact HC0_1.out); rintro e w13 ⟨v371, v374, rfl, ho0, ho1, hb⟩; refine ⟨_, rfl, ?_⟩; have n0_ := ak_ (Kd.R_lower ho0 (bz_ bl_)); have n1_ := ak_ (Kd.R_lower ho1 (bz_ bl_)); have n2_ := ak_ (blk_below (pk BK368.out) hb); have n3_ := ak_ (bs_ bl_ hb); clear BK368; clear HB; have HO372 := n0_; have HO375 := n1_; have BK368 := n2_; have HB := n3_; clear n0_ n1_ n2_ n3_; (try clear hb); (try clear hb2); (try clear hk); (try clear hi); (try clear ho0); (try clear ho1); have hcz14_0 : w13.cell? ⟨gb368, 0, none⟩ = some (.int .i64 a0_0) := (blk_cell BK368.out 0).trans rfl; have hcz14_1 : w13.cell? ⟨gb368, 1, none⟩ = some (.slice A0_1 l0_1.length c0_1) := (blk_cell BK368.out 1).trans rfl; have hcz14_2 : w13.cell? ⟨gb368, 2, none⟩ = some (.int .i64 a0_2) := (blk_cell BK368.out 2).trans rfl; have hfz14_0 := blk_frozen BK368.out 0; have hfz14_1 := blk_frozen BK368.out 1; have hfz14_2 := blk_frozen BK368.out 2) | ((with_reducible refine gate_callee (f := 64) rfl ?_); refine goesL_ (some 16) rfl rfl Try.func64 (by kernel_rfl) rfl #[.agg #[.int .i64 a0_0, .slice A0_1 l0_1.length c0_1, .int .i64 a0_2]] rfl (by first | rfl | (simp only [map_toArray, map_cons, map_nil]; try rfl)) ?_; (with_reducible refine (spec_keStart.calls a0_0 _ _ l0_1 a0_2 t376 t379 _ ?side1 ?side2 A5.out).mono ?_); (case side1 => repeat (first | exact (Kd.C_below HR0_1.out HB.out) | (with_reducible refine Kd.C_alloc ?_ _) | (with_reducible refine Kd.C_drewN ?_ _) | (with_reducible refine Kd.C_drew ?_))); (case side2 => exact HC0_1.out); rintro e w15 ⟨v377, rfl, ho0, hb⟩; refine ⟨_, rfl, ?_⟩; have n0_ := ak_ (Kd.R_below (Kd.pR HO372.out) hb); have n1_ := ak_ (Kd.R_below (Kd.pR HO375.out) hb); have n2_ := ak_ (Kd.R_lower ho0 (bz_ bl_)); have n3_ := ak_ (blk_below (pk BK368.out) hb); have n4_ := ak_ (bs_ bl_ hb); clear HO372; clear HO375; clear BK368; clear HB; have HO372 := n0_; have HO375 := n1_; have HO378 := n2_; have BK368 := n3_; have HB := n4_; clear n0_ n1_ n2_ n3_ n4_; (try clear hb); (try clear hb2); (try clear hk); (try clear hi); (try clear ho0); obtain ⟨Ao16, co16, eo16⟩ := Kd.R_slice HO378.out; subst eo16) | ((with_reducible refine gate_callee (f := 63) rfl ?_); refine goesL_ (some 17) rfl rfl Try.func63 (by kernel_rfl) rfl #[.agg #[.slice Ao16 t376.length co16, .bool t379]] rfl (by first | rfl | (simp only [map_toArray, map_cons, map_nil]; try rfl)) ?_; (with_reducible refine (spec_keIndex.calls k _ _ t376 t379 t380 _ ?side1 ?side2 A6.out).mono ?_); (case side1 => repeat (first | exact (Kd.R_reads' HO378.out).2.2 | (with_reducible refine Kd.C_alloc ?_ _) | (with_reducible refine Kd.C_drewN ?_ _) | (with_reducible refine Kd.C_drew ?_))); (case side2 => exact (Kd.R_reads' HO378.out).2.1); rintro e w17 ⟨rfl, hb⟩; refine ⟨_, rfl, ?_⟩; have n0_ := ak_ (Kd.R_below (Kd.pR HO372.out) hb); have n1_ := ak_ (Kd.R_below (Kd.pR HO375.out) hb); have n2_ := ak_ (Kd.R_below (Kd.pR HO378.out) hb); have n3_ := ak_ (blk_below (pk BK368.out) hb); have n4_ := ak_ (bs_ bl_ hb); clear HO372; clear HO375; clear HO378; clear BK368; clear HB; have HO372 := n0_; have HO375 := n1_; have HO378 := n2_; have BK368 := n3_; have HB := n4_; clear n0_ n1_ n2_ n3_ n4_; (try clear hb); (try clear hb2); (try clear hk); (try clear hi); obtain ⟨Ao18, co18, eo18⟩ := Kd.R_slice HO375.out; subst eo18; have p381 : 0 ≤ (t380 : Int) := odt_ (by assumption); have q381 : t380 < (t373.length : Int) := odt_ (by assumption); obtain ⟨ad381, e381, hx381_0⟩ := Kd.at_int (Kd.R_reads' HO375.out).2.2 t380 p381 q381; cases e381; replace p381 := eq_true p381; replace q381 := eq_true q381))
    go_ret2
    exact ⟨rx_, by repeat (first | exact HB.out | apply ba_ | apply bN_ | apply b1_ | refine below_set ?_ GE368.out)⟩
   ·
    rw [if_neg c8] at H
    exact absurd H (by simp)
  ·
   rw [if_neg c7] at H
   exact absurd H (by simp)
 ·
  replace c3 := Bool.eq_false_iff.mpr c3
  subst c3
  have H1 : (some (0, false)) = some (r1, r2) := by rw [if_neg (show ¬ (false = true) by decide)] at H; exact H
  clear H
  have H := H1
  clear H1
  simp only [Option.some.injEq, Prod.mk.injEq] at H
  obtain ⟨rfl, rfl⟩ := H
  go_enter Try.func24, Try.ntmps24
  go_wp2_with (first | ((with_reducible refine gate_dst (N := 1) rfl ?_); refine bx_ 1 #[.int .i64 a0_0, .slice A0_1 l0_1.length c0_1, .int .i64 a0_2] 52 ?_; intro gb368 hg w19 hbox hb; have n0_ := ak_ (bs_ (bb_ HB.out) hb); have n1_ := ak_ (hbox); have n2_ := ak_ ((by rw [hg]; exact (bz_ (bb_ HB.out)) : w.heap.size ≤ gb368)); have n3_ := n2_; clear HB; have HB := n0_; have BK368 := n1_; have GW368 := n2_; have GE368 := n3_; clear n0_ n1_ n2_ n3_; clear hb hbox hg; have hcz20_0 : w19.cell? ⟨gb368, 0, none⟩ = some (.int .i64 a0_0) := (blk_cell BK368.out 0).trans rfl; have hcz20_1 : w19.cell? ⟨gb368, 1, none⟩ = some (.slice A0_1 l0_1.length c0_1) := (blk_cell BK368.out 1).trans rfl; have hcz20_2 : w19.cell? ⟨gb368, 2, none⟩ = some (.int .i64 a0_2) := (blk_cell BK368.out 2).trans rfl; have hfz20_0 := blk_frozen BK368.out 0; have hfz20_1 := blk_frozen BK368.out 1; have hfz20_2 := blk_frozen BK368.out 2) | ((with_reducible refine gate_callee (f := 61) rfl ?_); refine goesL_ (some 7) rfl rfl Try.func61 (by kernel_rfl) rfl #[.agg #[.int .i64 a0_0, .slice A0_1 l0_1.length c0_1, .int .i64 a0_2]] rfl (by first | rfl | (simp only [map_toArray, map_cons, map_nil]; try rfl)) ?_; (with_reducible refine (spec_keGood.calls k a0_0 _ _ l0_1 a0_2 false _ ?side1 ?side2 A2.out).mono ?_); (case side1 => repeat (first | exact (Kd.C_below HR0_1.out HB.out) | (with_reducible refine Kd.C_alloc ?_ _) | (with_reducible refine Kd.C_drewN ?_ _) | (with_reducible refine Kd.C_drew ?_))); (case side2 => exact HC0_1.out); rintro e w21 ⟨rfl, hb⟩; refine ⟨_, rfl, ?_⟩; have n0_ := ak_ (blk_below (pk BK368.out) hb); have n1_ := ak_ (bs_ bl_ hb); clear BK368; clear HB; have BK368 := n0_; have HB := n1_; clear n0_ n1_; (try clear hb); (try clear hb2); (try clear hk); (try clear hi)))
  go_ret2
  exact ⟨rx_, by repeat (first | exact HB.out | apply ba_ | apply bN_ | apply b1_ | refine below_set ?_ GE368.out)⟩
def laws_toIntS.l0 : Nat → List Int → List Int → Int → Option (List Int)
 | 0, _, _, _ => none
 | k + 1, x0, x3, x4 => if x4 < (x0.length : Int) then (if 0 ≤ x4 then (if x4 < (x3.length : Int) then (laws_toIntS.l0 k x0 (x3.set (x4 : Int).toNat (rd x0 x4)) (wrap64 (x4 + 1))) else (none)) else (none)) else (some x3)
def laws_toIntS.f (k : Nat) (l0 : List Int) : Option (List Int) := if 0 ≤ (l0.length : Int) then (if ((l0.length : Int) : Int).toNat ≤ 35184372088832 then (laws_toIntS.l0 k l0 (List.replicate ((l0.length : Int) : Int).toNat 0) 0) else (none)) else (none)
theorem laws_toIntS.mono_l : ∀ k, (∀ y0 y1 y2, LeO (laws_toIntS.l0 k y0 y1 y2) (laws_toIntS.l0 (k + 1) y0 y1 y2))
 | 0 => fun _ _ _ r h => by simp [laws_toIntS.l0] at h
 | k + 1 => by
  have ih0 := laws_toIntS.mono_l k
  ·intro y0 y1 y2
   unfold laws_toIntS.l0
   repeat' first
   | (with_reducible first | exact ih0 _ _ _ | exact LeO.refl _ | exact LeO.none _ | refine LeO.ite ?_ ?_ | refine LeO.bind ?_ (fun _ => ?_))
   | exact ih0 _ _ _
   | exact LeO.none _
   | refine LeO.ite ?_ ?_
   | refine LeO.bind ?_ (fun _ => ?_)
theorem laws_toIntS.mono : ∀ a0 k, LeO (laws_toIntS.f k a0) (laws_toIntS.f (k + 1) a0) := by
 intro a0 k
 have ih0 := laws_toIntS.mono_l k
 unfold laws_toIntS.f
 repeat' first
  | (with_reducible first | exact ih0 _ _ _ | exact LeO.refl _ | exact LeO.none _ | refine LeO.ite ?_ ?_ | refine LeO.bind ?_ (fun _ => ?_))
  | exact ih0 _ _ _
  | exact LeO.none _
  | refine LeO.ite ?_ ?_
  | refine LeO.bind ?_ (fun _ => ?_)
theorem laws_toIntS.calls (k : Nat) (A0 : Option Addr) (c0 : Nat) (l0 : List Int) (r : List Int) (w : World) (hr0 : Kd.C (Kd.int .i64) w A0 l0.length l0) (hc0 : l0.length ≤ c0) (h : laws_toIntS.f k l0 = some r) :
  Calls Try.prog 48 #[.slice A0 l0.length c0] w fun e w' => ∃ v0_ : Value, e = .returned (v0_) ∧ Kd.R (Kd.int .i64) 3 w' w.heap.size (fun _ => True) v0_ r ∧ Below w.heap.size w w' := by
 have HR0 := ak_ hr0
 have HC0 := ak_ hc0
 clear hr0 hc0
 have HB := ak_ (Below.refl w.heap.size w)
 have H : (if 0 ≤ (l0.length : Int) then (if ((l0.length : Int) : Int).toNat ≤ 35184372088832 then (laws_toIntS.l0 k l0 (List.replicate ((l0.length : Int) : Int).toNat 0) 0) else (none)) else (none)) = some r := h
 clear h
 by_cases c2 : 0 ≤ (l0.length : Int)
 ·
  rw [if_pos c2] at H
  have c2b0 := eq_true c2
  have c2b1 : decide (0 ≤ (l0.length : Int)) = true := decide_eq_true c2
  clear c2
  by_cases c3 : ((l0.length : Int) : Int).toNat ≤ 35184372088832
  ·
   rw [if_pos c3] at H
   have c3b0 := eq_true c3
   have c3b1 : decide (((l0.length : Int) : Int).toNat ≤ 35184372088832) = true := decide_eq_true c3
   clear c3
   obtain ⟨y382, hy382⟩ : ∃ y_ : List Int, y_ = (List.replicate ((l0.length : Int) : Int).toNat 0) := ⟨_, rfl⟩
   replace H : (laws_toIntS.l0 k l0 y382 0) = some r := by first | (rw [hy382]; exact H) | exact H
   have Ny382 := ak_ hy382
   clear hy382
   have H' := ak_ H
   clear H
   go_enter Try.func48, Try.ntmps48
   go_wp2_with (first | ((with_reducible refine gate_dst (N := 7) rfl ?_); refine Kd.R_make (Kd.int .i64) _ 3 rfl (N := 7) rfl 29 _ _ rfl (l0.length : Int) rfl rfl Try.underlying29 (.int .i64 0) 8 info3 rfl (by decide) (by omega) 0 (ok := fun _ => True) (okp := fun _ => True) rfl (fun _ hk => hk) trivial (odt_ (by assumption)) (Nat.le_trans (Nat.mul_le_mul_right _ (odt_ (by assumption) : (l0.length : Int).toNat ≤ 35184372088832)) (by omega)) (Below.refl _ _) (Nat.le_refl _) ?_; intro v383 w4 ho5 hb hg_ hnew_; clear hg_ hnew_; (first | rw [← Ny382.out] at ho5 | (simp only [Int.reduceToNat] at ho5; rw [← Ny382.out] at ho5)); have n0_ := ak_ (Kd.R_lower ho5 (bz_ (bb_ HB.out))); have n1_ := ak_ (bs_ (bb_ HB.out) hb); clear HB; have HO384 := n0_; have HB := n1_; clear n0_ n1_; clear hb ho5))
   go_loopg [4] k (fun kq v4 w' => ∃ (x3_1 : List Int) (x4_1 : Int), v4 = .int .i64 x4_1 ∧ Aside0 (laws_toIntS.l0 kq l0 x3_1 x4_1 = some r) ∧ Aside0 (kq ≤ k) ∧ Aside0 (Kd.R (Kd.int .i64) 3 w' w.heap.size (fun _ => True) v383 x3_1) ∧ Aside0 (Below w.heap.size w w'))
   case atStart => exact ⟨(y382), (0), (ry_), H', ⟨Nat.le_refl _⟩, ⟨Kd.pR HO384.out⟩, ⟨bb_ HB.out⟩⟩
   case round =>
    clear H'
    try clear c2
    try clear c2b0
    try clear c2b1
    try clear p2
    try clear c3
    try clear c3b0
    try clear c3b1
    try clear c4
    obtain ⟨x3_1, x4_1, rfl, HA, HK1, HO_3, HB⟩ := hrel
    cases gk with
    | zero => exact absurd HA.out (by simp [laws_toIntS.l0])
    | succ k1 =>
     have H := HA.out
     clear HA
     simp only [laws_toIntS.l0] at H
     by_cases c6 : x4_1 < (l0.length : Int)
     ·
      rw [if_pos c6] at H
      have c6b0 : decide (x4_1 < (l0.length : Int)) = true := decide_eq_true c6
      clear c6
      by_cases c7 : 0 ≤ x4_1
      ·
       rw [if_pos c7] at H
       have c7b0 : decide (0 ≤ x4_1) = true := decide_eq_true c7
       clear c7
       by_cases c8 : x4_1 < (x3_1.length : Int)
       ·
        rw [if_pos c8] at H
        have c8b0 : decide (x4_1 < (x3_1.length : Int)) = true := decide_eq_true c8
        clear c8
        obtain ⟨y386, hy386⟩ : ∃ y_ : List Int, y_ = (x3_1.set (x4_1 : Int).toNat (rd l0 x4_1)) := ⟨_, rfl⟩
        replace H : (laws_toIntS.l0 k1 l0 y386 (wrap64 (x4_1 + 1))) = some r := by first | (rw [hy386]; exact H) | exact H
        have Ny386 := ak_ hy386
        clear hy386
        have H' := ak_ H
        clear H
        have p385 : 0 ≤ (x4_1 : Int) := odt_ (by assumption)
        have q385 : x4_1 < (l0.length : Int) := odt_ (by assumption)
        obtain ⟨ad385, e385, hx385_0⟩ := Kd.at_int HR0.out x4_1 p385 q385
        cases e385
        try replace hx385_0 := (HB.out.cell (World.block_lt_of_cell? w _ hx385_0)).trans hx385_0
        replace p385 := eq_true p385
        replace q385 := eq_true q385
        have p9 : 0 ≤ (x4_1 : Int) := odt_ (by assumption)
        have q9 : (x4_1 : Int) < ((x3_1.length : Int) : Int) := odt_ (by assumption)
        obtain ⟨go9, co9, eo9, gb9, gl9, cl9, HG9⟩ := Kd.R_form HO_3.out (by omega)
        (first | cases eo9 | (injection eo9 with ea_ en_ ec_; (first | subst ea_ | (injection ea_ with ea_; subst ea_)); subst ec_; clear en_))
        have GB9 := ak_ gb9
        have GG9 := ak_ HG9
        clear gb9 gl9 HG9
        obtain ⟨hx9_0, hf9_0⟩ := Kd.R_celln 0 HO_3.out (x4_1 : Int) p9 q9
        replace p9 := eq_true p9
        replace q9 := eq_true q9
        have HP10 := Kd.R_putg HO_3.out (x4_1 : Int) (rd l0 x4_1)
        go_wp2_with (first | ((with_reducible refine gate_store (t := 3) (p := 20) rfl ?_); refine store_event (t := 3) (p := 20) (v := ?vo_w11) (w1 := (wr.setCell ⟨go9, (x4_1 : Int).toNat, none⟩ (.int .i64 (rd l0 x4_1)))) ?hg ?ho ?hn ?hr ?_; (case ho => rfl); (case hg => rfl); (case hn => rfl); (case hr => go_simp <;> rfl); intro w11 hw; have hg : wr.grownBy w11 (some go9) := (by rw [hw]; exact HP10.2); have hp_ : Kd.R (Kd.int .i64) 3 w11 w.heap.size (fun _ => True) (.slice (some ⟨go9, 0, none⟩) x3_1.length co9) y386 := (by rw [hw, Ny386.out]; exact HP10.1); clear HP10; have n0_ := ak_ (hp_); have n1_ := ak_ ((by rw [hw]; exact below_set (HB.out) GB9.out : Below w.heap.size w w11)); clear HO_3; clear HB; have HO_3 := n0_; have HB := n1_; clear n0_ n1_; clear hg hw hp_))
        go_roundg k1
        case measure => have := HK1.out; omega
        case rel => exact ⟨(y386), (wrap64 (x4_1 + 1)), (ry_), H', ⟨by have := HK1.out; omega⟩, ⟨Kd.pR HO_3.out⟩, ⟨bb_ HB.out⟩⟩
       ·
        rw [if_neg c8] at H
        exact absurd H (by simp)
      ·
       rw [if_neg c7] at H
       exact absurd H (by simp)
     ·
      rw [if_neg c6] at H
      have c6b0 : decide (x4_1 < (l0.length : Int)) = false := decide_eq_false c6
      clear c6
      obtain rfl := Option.some.inj H
      go_wp2
      go_ret
      exact ⟨_, rx_, by (with_reducible repeat (first | apply Kd.R_alloc | apply Kd.R_drewN | apply Kd.R_drew)); exact HO_3.out, bb_ HB.out⟩
  ·
   rw [if_neg c3] at H
   exact absurd H (by simp)
 ·
  rw [if_neg c2] at H
  exact absurd H (by simp)
def laws_toIntSS.l0 : Nat → List (List Int) → List (List Int) → Int → Option ((List (List Int)))
 | 0, _, _, _ => none
 | k + 1, x0, x3, x4 => if x4 < (x0.length : Int) then (if 0 ≤ x4 then ((laws_toIntS.f k (rd_L1 x0 x4)).bind fun t391 => (if x4 < (x3.length : Int) then (laws_toIntSS.l0 k x0 (x3.set (x4 : Int).toNat t391) (wrap64 (x4 + 1))) else (none))) else (none)) else (some x3)
def laws_toIntSS.f (k : Nat) (l0 : List (List Int)) : Option ((List (List Int))) := if 0 ≤ (l0.length : Int) then (if ((l0.length : Int) : Int).toNat ≤ 11728124029610 then (laws_toIntSS.l0 k l0 (List.replicate ((l0.length : Int) : Int).toNat []) 0) else (none)) else (none)
theorem laws_toIntSS.mono_l : ∀ k, (∀ y0 y1 y2, LeO (laws_toIntSS.l0 k y0 y1 y2) (laws_toIntSS.l0 (k + 1) y0 y1 y2))
 | 0 => fun _ _ _ r h => by simp [laws_toIntSS.l0] at h
 | k + 1 => by
  have ih0 := laws_toIntSS.mono_l k
  ·intro y0 y1 y2
   unfold laws_toIntSS.l0
   repeat' first
   | (with_reducible first | exact ih0 _ _ _ | exact laws_toIntS.mono _ _ | exact LeO.refl _ | exact LeO.none _ | refine LeO.ite ?_ ?_ | refine LeO.bind ?_ (fun _ => ?_))
   | exact ih0 _ _ _
   | exact laws_toIntS.mono _ _
   | exact LeO.none _
   | refine LeO.ite ?_ ?_
   | refine LeO.bind ?_ (fun _ => ?_)
theorem laws_toIntSS.mono : ∀ a0 k, LeO (laws_toIntSS.f k a0) (laws_toIntSS.f (k + 1) a0) := by
 intro a0 k
 have ih0 := laws_toIntSS.mono_l k
 unfold laws_toIntSS.f
 repeat' first
  | (with_reducible first | exact ih0 _ _ _ | exact laws_toIntS.mono _ _ | exact LeO.refl _ | exact LeO.none _ | refine LeO.ite ?_ ?_ | refine LeO.bind ?_ (fun _ => ?_))
  | exact ih0 _ _ _
  | exact laws_toIntS.mono _ _
  | exact LeO.none _
  | refine LeO.ite ?_ ?_
  | refine LeO.bind ?_ (fun _ => ?_)
theorem laws_toIntSS.calls (k : Nat) (A0 : Option Addr) (c0 : Nat) (l0 : List (List Int)) (r : List (List Int)) (w : World) (hr0 : Kd.C (Kd.slice 3 (Kd.int .i64)) w A0 l0.length l0) (hc0 : l0.length ≤ c0) (h : laws_toIntSS.f k l0 = some r) :
  Calls Try.prog 65 #[.slice A0 l0.length c0] w fun e w' => ∃ v0_ : Value, e = .returned (v0_) ∧ Kd.S (Kd.slice 3 (Kd.int .i64)) 29 w' w.heap.size (fun _ => True) v0_ r ∧ Below w.heap.size w w' := by
 have HR0 := ak_ hr0
 have HC0 := ak_ hc0
 clear hr0 hc0
 have HB := ak_ (Below.refl w.heap.size w)
 have H : (if 0 ≤ (l0.length : Int) then (if ((l0.length : Int) : Int).toNat ≤ 11728124029610 then (laws_toIntSS.l0 k l0 (List.replicate ((l0.length : Int) : Int).toNat []) 0) else (none)) else (none)) = some r := h
 clear h
 by_cases c2 : 0 ≤ (l0.length : Int)
 ·
  rw [if_pos c2] at H
  have c2b0 := eq_true c2
  have c2b1 : decide (0 ≤ (l0.length : Int)) = true := decide_eq_true c2
  clear c2
  by_cases c3 : ((l0.length : Int) : Int).toNat ≤ 11728124029610
  ·
   rw [if_pos c3] at H
   have c3b0 := eq_true c3
   have c3b1 : decide (((l0.length : Int) : Int).toNat ≤ 11728124029610) = true := decide_eq_true c3
   clear c3
   obtain ⟨y387, hy387⟩ : ∃ y_ : List (List Int), y_ = (List.replicate ((l0.length : Int) : Int).toNat []) := ⟨_, rfl⟩
   replace H : (laws_toIntSS.l0 k l0 y387 0) = some r := by first | (rw [hy387]; exact H) | exact H
   have Ny387 := ak_ hy387
   clear hy387
   have H' := ak_ H
   clear H
   go_enter Try.func65, Try.ntmps65
   go_wp2_with (first | ((with_reducible refine gate_dst (N := 7) rfl ?_); refine Kd.S_make (Kd.slice 3 (Kd.int .i64)) _ 29 rfl (N := 7) rfl 47 _ _ rfl (l0.length : Int) rfl rfl Try.underlying47 (.slice none 0 0) 24 info29 rfl (by decide) (by omega) [] (ok := fun _ => True) (okp := fun _ => True) ⟨_, rfl, Kd.R_nil _ _ _ _ _⟩ (fun _ hk => hk) trivial (odt_ (by assumption)) (Nat.le_trans (Nat.mul_le_mul_right _ (odt_ (by assumption) : (l0.length : Int).toNat ≤ 11728124029610)) (by omega)) (Below.refl _ _) (Nat.le_refl _) ?_; intro v388 w4 ho5 hb hg_ hnew_; clear hg_ hnew_; (first | rw [← Ny387.out] at ho5 | (simp only [Int.reduceToNat] at ho5; rw [← Ny387.out] at ho5)); have n0_ := ak_ (Kd.S_lower ho5 (bz_ (bb_ HB.out))); have n1_ := ak_ (bs_ (bb_ HB.out) hb); clear HB; have HO389 := n0_; have HB := n1_; clear n0_ n1_; clear hb ho5))
   go_loopg [4] k (fun kq v4 w' => ∃ (x3_1 : List (List Int)) (x4_1 : Int), v4 = .int .i64 x4_1 ∧ Aside0 (laws_toIntSS.l0 kq l0 x3_1 x4_1 = some r) ∧ Aside0 (kq ≤ k) ∧ Aside0 (Kd.S (Kd.slice 3 (Kd.int .i64)) 29 w' w.heap.size (fun _ => True) v388 x3_1) ∧ Aside0 (Below w.heap.size w w'))
   case atStart => exact ⟨(y387), (0), (ry_), H', ⟨Nat.le_refl _⟩, ⟨Kd.pS HO389.out⟩, ⟨bb_ HB.out⟩⟩
   case round =>
    clear H'
    try clear c2
    try clear c2b0
    try clear c2b1
    try clear p2
    try clear c3
    try clear c3b0
    try clear c3b1
    obtain ⟨x3_1, x4_1, rfl, HA, HK1, HO_3, HB⟩ := hrel
    cases gk with
    | zero => exact absurd HA.out (by simp [laws_toIntSS.l0])
    | succ k1 =>
     have H := HA.out
     clear HA
     simp only [laws_toIntSS.l0] at H
     by_cases c6 : x4_1 < (l0.length : Int)
     ·
      rw [if_pos c6] at H
      have c6b0 : decide (x4_1 < (l0.length : Int)) = true := decide_eq_true c6
      clear c6
      by_cases c7 : 0 ≤ x4_1
      ·
       rw [if_pos c7] at H
       have c7b0 : decide (0 ≤ x4_1) = true := decide_eq_true c7
       clear c7
       replace H := Option.bind_eq_some_iff.mp H
       obtain ⟨t391, A80, H⟩ := H
       replace H : (if x4_1 < (x3_1.length : Int) then (laws_toIntSS.l0 k1 l0 (x3_1.set (x4_1 : Int).toNat t391) (wrap64 (x4_1 + 1))) else (none)) = some r := H
       have A8 := ak_ A80
       clear A80
       by_cases c9 : x4_1 < (x3_1.length : Int)
       ·
        rw [if_pos c9] at H
        have c9b0 : decide (x4_1 < (x3_1.length : Int)) = true := decide_eq_true c9
        clear c9
        obtain ⟨y394, hy394⟩ : ∃ y_ : List (List Int), y_ = (x3_1.set (x4_1 : Int).toNat t391) := ⟨_, rfl⟩
        replace H : (laws_toIntSS.l0 k1 l0 y394 (wrap64 (x4_1 + 1))) = some r := by first | (rw [hy394]; exact H) | exact H
        have Ny394 := ak_ hy394
        clear hy394
        have H' := ak_ H
        clear H
        have p390 : 0 ≤ (x4_1 : Int) := odt_ (by assumption)
        have q390 : x4_1 < (l0.length : Int) := odt_ (by assumption)
        obtain ⟨ad390, A390_0, c390_0, e390, hx390_0, hl390_0, hi390_0⟩ := at_L1 HR0.out x4_1 p390 q390
        cases e390
        try replace hx390_0 := (HB.out.cell (World.block_lt_of_cell? w _ hx390_0)).trans hx390_0
        have HR390_0 := ak_ hi390_0
        have HC390_0 := ak_ hl390_0
        clear hi390_0 hl390_0
        replace p390 := eq_true p390
        replace q390 := eq_true q390
        go_wp2_with (first | ((with_reducible refine gate_callee (f := 48) rfl ?_); refine goesL_ (some 20) rfl rfl Try.func48 (by kernel_rfl) rfl #[.slice A390_0 (rd_L1 l0 x4_1).length c390_0] rfl (by first | rfl | (simp only [map_toArray, map_cons, map_nil]; try rfl)) ?_; (with_reducible refine (laws_toIntS.calls k1 _ _ (rd_L1 l0 x4_1) t391 _ ?side1 ?side2 A8.out).mono ?_); (case side1 => repeat (first | exact (Kd.C_below HR390_0.out HB.out) | (with_reducible refine Kd.C_alloc ?_ _) | (with_reducible refine Kd.C_drewN ?_ _) | (with_reducible refine Kd.C_drew ?_))); (case side2 => exact HC390_0.out); rintro e w11 ⟨v392, rfl, ho0, hb⟩; refine ⟨_, rfl, ?_⟩; have n0_ := ak_ (Kd.S_elder' (Kd.pS HO_3.out) (Kd.R_base ho0) hb); have n1_ := ak_ (Kd.R_lower ho0 (bz_ (bb_ HB.out))); have n2_ := ak_ (bs_ (bb_ HB.out) hb); clear HO_3; clear HB; have HO_3 := n0_; have HO393 := n1_; have HB := n2_; clear n0_ n1_ n2_; (try clear hb); (try clear hb2); (try clear hk); (try clear hi); (try clear ho0); have p10 : 0 ≤ (x4_1 : Int) := odt_ (by assumption); have q10 : (x4_1 : Int) < ((x3_1.length : Int) : Int) := odt_ (by assumption); obtain ⟨go10, co10, eo10, gb10, gl10, cl10, HG10⟩ := Kd.S_form HO_3.out (by omega); (first | cases eo10 | (injection eo10 with ea_ en_ ec_; (first | subst ea_ | (injection ea_ with ea_; subst ea_)); subst ec_; clear en_)); have GB10 := ak_ gb10; have GG10 := ak_ HG10; clear gb10 gl10 HG10; obtain ⟨_, ce10, hcl10, hM10, hcc10, hfr10, _, _⟩ := Kd.S_elem HO_3.out [] (x4_1 : Int) p10 q10; obtain ⟨ve10_0, rfl, ge10_0⟩ := hM10; have hx10_0 := hcc10 0 _ rfl; have hf10_0 := hfr10 0; (try simp only [show ((Kd.slice 3 (Kd.int .i64))).sz = 1 from rfl, Nat.mul_one, Nat.add_zero] at hx10_0); (try simp only [show ((Kd.slice 3 (Kd.int .i64))).sz = 1 from rfl, Nat.mul_one, Nat.add_zero] at hf10_0); clear hcl10 hcc10 hfr10; (try clear hM10); replace p10 := eq_true p10; replace q10 := eq_true q10; have n_ := ak_ (Kd.S_mono (ok' := (fun k_ => some k_ ≠ (v392 : Value).ownBlock)) HO_3.out (fun k_ hk => hk.2)); clear HO_3; have HO_3 := n_; clear n_; have HX12 := ak_ (show Kd.S (Kd.slice 3 (Kd.int .i64)) 29 w11 w.heap.size (fun k_ => ((fun _ => True)) k_ ∧ ¬ ((fun k_ => some k_ = (v392 : Value).ownBlock)) k_) (.slice (some ⟨go10, 0, none⟩) x3_1.length co10) x3_1 from (by (with_reducible repeat (first | apply Kd.S_alloc | apply Kd.S_drewN | apply Kd.S_drew)); exact Kd.S_mono HO_3.out (fun k_ hk => ⟨trivial, fun e_ => hk e_⟩))); obtain ⟨oki12, ce12, hcl12, hM12, hcc12, hfr12, hoki12, hH12⟩ := Kd.S_elem HX12.out [] (x4_1 : Int) (odt_ (by assumption)) (by have h_ : (x4_1 : Int) < ((x3_1.length : Int) : Int) := odt_ (by assumption); first | exact h_ | (have e_ := (Kd.S_reads' HO_3.out).1; omega) | simpa using h_); obtain ⟨ve12_0, rfl, ge12_0⟩ := hM12; have HP12 := Kd.S_seg hH12 (odt_ (by assumption)) (by have h_ : (x4_1 : Int) < ((x3_1.length : Int) : Int) := odt_ (by assumption); first | exact h_ | (have e_ := (Kd.S_reads' HO_3.out).1; omega) | simpa using h_) (seg := [v392]) (j := 0) (show 1 ≤ 1 from by decide) (x' := t391) (Kd.M_row (Kd.R_mono (Kd.R_tight rfl (Kd.R_mono (ok' := fun k_ => ((fun _ => True)) k_ ∧ k_ ≠ go10) (Kd.R_apart' (HO393.out) (Kd.S_typed HO_3.out) (by decide)) (fun k_ hk => ⟨trivial, fun e_ => (hk.2) (by rw [e_]; rfl)⟩))) (fun _ h_ => Or.inr (h_)))) (fun _ hk => hk) (fun k_ hk_ => ((Kd.R_mono (ok' := fun k_ => ((fun _ => True)) k_ ∧ k_ ≠ go10) (Kd.R_apart' (HO393.out) (Kd.S_typed HO_3.out) (by decide)) (fun k_ hk => ⟨trivial, fun e_ => (hk.2) (by rw [e_]; rfl)⟩))).1 k_ hk_.symm); have hx12_0 := hcc12 0 _ rfl; (try simp only [show ((Kd.slice 3 (Kd.int .i64))).sz = 1 from rfl, Nat.mul_one, Nat.add_zero] at hx12_0); have hf12_0 := hfr12 0; (try simp only [show ((Kd.slice 3 (Kd.int .i64))).sz = 1 from rfl, Nat.mul_one, Nat.add_zero] at hf12_0); clear hcl12 hcc12 hfr12 hoki12 hH12; (try clear hM12); (try simp only [show ((Kd.slice 3 (Kd.int .i64))).sz = 1 from rfl, Nat.mul_one, Nat.add_zero] at HP12)) | ((with_reducible refine gate_store (t := 29) (p := 21) rfl ?_); refine store_event (t := 29) (p := 21) (v := ?vo_w13) (w1 := (w11.setCell ⟨go10, (x4_1 : Int).toNat, none⟩ (v392))) ?hg ?ho ?hn ?hr ?_; (case ho => rfl); (case hg => rfl); (case hn => rfl); (case hr => (first | (obtain ⟨Az_, cz_, ez_⟩ := Kd.R_slice HO393.out; subst ez_; go_simp; first | done | rfl) | (go_simp; done) | (go_simp; rfl))); intro w13 hw; have hg : w11.grownBy w13 (some go10) := (by rw [hw]; exact HP12.2); have hp_ : Kd.S (Kd.slice 3 (Kd.int .i64)) 29 w13 w.heap.size (fun _ => True) (.slice (some ⟨go10, 0, none⟩) x3_1.length co10) y394 := (by rw [hw, Ny394.out]; exact HP12.1); clear HP12; have n0_ := ak_ (hp_); have n1_ := ak_ ((by rw [hw]; exact below_set (HB.out) GB10.out : Below w.heap.size w w13)); clear HO_3; clear HB; clear HO393; have HO_3 := n0_; have HB := n1_; clear n0_ n1_; clear hg hw hp_))
        go_roundg k1
        case measure => have := HK1.out; omega
        case rel => exact ⟨(y394), (wrap64 (x4_1 + 1)), (ry_), H', ⟨by have := HK1.out; omega⟩, ⟨Kd.pS HO_3.out⟩, ⟨bb_ HB.out⟩⟩
       ·
        rw [if_neg c9] at H
        exact absurd H (by simp)
      ·
       rw [if_neg c7] at H
       exact absurd H (by simp)
     ·
      rw [if_neg c6] at H
      have c6b0 : decide (x4_1 < (l0.length : Int)) = false := decide_eq_false c6
      clear c6
      obtain rfl := Option.some.inj H
      go_wp2
      go_ret
      exact ⟨_, rx_, by (with_reducible repeat (first | apply Kd.S_alloc | apply Kd.S_drewN | apply Kd.S_drew)); exact HO_3.out, bb_ HB.out⟩
  ·
   rw [if_neg c3] at H
   exact absurd H (by simp)
 ·
  rw [if_neg c2] at H
  exact absurd H (by simp)
def laws_toKeep.f (k : Nat) (a0_0 : Int) (l0_1 : List (List Int)) (a0_2 : Int) : Option (Int × (List (List Int)) × Int) := (laws_toIntSS.f k l0_1).bind fun t398 => (some (a0_0, t398, a0_2))
theorem laws_toKeep.mono : ∀ a0 a1 a2 k, LeO (laws_toKeep.f k a0 a1 a2) (laws_toKeep.f (k + 1) a0 a1 a2) := by
 intro a0 a1 a2 k
 unfold laws_toKeep.f
 repeat' first
  | (with_reducible first | exact laws_toIntSS.mono _ _ | exact LeO.refl _ | exact LeO.none _ | refine LeO.ite ?_ ?_ | refine LeO.bind ?_ (fun _ => ?_))
  | exact laws_toIntSS.mono _ _
  | exact LeO.none _
  | refine LeO.ite ?_ ?_
  | refine LeO.bind ?_ (fun _ => ?_)
theorem laws_toKeep.calls (k : Nat) (a0_0 : Int) (A0_1 : Option Addr) (c0_1 : Nat) (l0_1 : List (List Int)) (a0_2 : Int) (r1 : Int) (r2 : List (List Int)) (r3 : Int) (w : World) (hr0_1 : Kd.C (Kd.slice 3 (Kd.int .i64)) w A0_1 l0_1.length l0_1) (hc0_1 : l0_1.length ≤ c0_1) (h : laws_toKeep.f k a0_0 l0_1 a0_2 = some (r1, r2, r3)) :
  Calls Try.prog 25 #[.agg #[.int .i64 a0_0, .slice A0_1 l0_1.length c0_1, .int .i64 a0_2]] w fun e w' => ∃ v1_ : Value, e = .returned (.agg #[.int .i64 r1, v1_, .int .i64 r3]) ∧ Kd.S (Kd.slice 3 (Kd.int .i64)) 29 w' w.heap.size (fun _ => True) v1_ r2 ∧ Below w.heap.size w w' := by
 have hu49 := Try.underlying49
 have hu52 := Try.underlying52
 have HR0_1 := ak_ hr0_1
 have HC0_1 := ak_ hc0_1
 clear hr0_1 hc0_1
 have HB := ak_ (Below.refl w.heap.size w)
 have H : ((laws_toIntSS.f k l0_1).bind fun t398 => (some (a0_0, t398, a0_2))) = some (r1, r2, r3) := h
 clear h
 replace H := Option.bind_eq_some_iff.mp H
 obtain ⟨t398, A20, H⟩ := H
 replace H : (some (a0_0, t398, a0_2)) = some (r1, r2, r3) := H
 have A2 := ak_ A20
 clear A20
 simp only [Option.some.injEq, Prod.mk.injEq] at H
 obtain ⟨rfl, rfl, rfl⟩ := H
 go_enter Try.func25, Try.ntmps25
 go_wp2_with (first | ((with_reducible refine gate_dst (N := 1) rfl ?_); refine bx_ 1 #[.int .i64 a0_0, .slice A0_1 l0_1.length c0_1, .int .i64 a0_2] 49 ?_; intro gb395 hg w3 hbox hb; have n0_ := ak_ (bs_ (bb_ HB.out) hb); have n1_ := ak_ (hbox); have n2_ := ak_ ((by rw [hg]; exact (bz_ (bb_ HB.out)) : w.heap.size ≤ gb395)); have n3_ := n2_; clear HB; have HB := n0_; have BK395 := n1_; have GW395 := n2_; have GE395 := n3_; clear n0_ n1_ n2_ n3_; clear hb hbox hg) | ((with_reducible refine gate_dst (N := 2) rfl ?_); refine bx_ 2 #[.int .i64 0, .slice none 0 0, .int .i64 0] 52 ?_; intro gb396 hg w4 hbox hb; have n0_ := ak_ (blk_below (pk BK395.out) hb); have n1_ := ak_ (bs_ bl_ hb); have n2_ := ak_ (hbox); have n3_ := ak_ ((by rw [hg]; exact (bz_ bl_) : w.heap.size ≤ gb396)); have n4_ := n3_; have n5_ := ak_ ((by rw [hg]; exact Nat.ne_of_lt (blk_lt (pk BK395.out)) : gb395 ≠ gb396)); have n6_ := ak_ n5_.out.symm; clear BK395; clear HB; have BK395 := n0_; have HB := n1_; have BK396 := n2_; have GW396 := n3_; have GE396 := n4_; have NB395_396 := n5_; have NB396_395 := n6_; clear n0_ n1_ n2_ n3_ n4_ n5_ n6_; clear hb hbox hg) | ((with_reducible refine gate_dst (N := 3) rfl ?_); refine bx_ 3 #[.int .i64 0, .slice none 0 0, .int .i64 0] 52 ?_; intro gb397 hg w5 hbox hb; have n0_ := ak_ (blk_below (pk BK395.out) hb); have n1_ := ak_ (blk_below (pk BK396.out) hb); have n2_ := ak_ (bs_ bl_ hb); have n3_ := ak_ (hbox); have n4_ := ak_ ((by rw [hg]; exact (bz_ bl_) : w.heap.size ≤ gb397)); have n5_ := n4_; have n6_ := ak_ ((by rw [hg]; exact Nat.ne_of_lt (blk_lt (pk BK395.out)) : gb395 ≠ gb397)); have n7_ := ak_ n6_.out.symm; have n8_ := ak_ ((by rw [hg]; exact Nat.ne_of_lt (blk_lt (pk BK396.out)) : gb396 ≠ gb397)); have n9_ := ak_ n8_.out.symm; clear BK395; clear BK396; clear HB; have BK395 := n0_; have BK396 := n1_; have HB := n2_; have BK397 := n3_; have GW397 := n4_; have GE397 := n5_; have NB395_397 := n6_; have NB397_395 := n7_; have NB396_397 := n8_; have NB397_396 := n9_; clear n0_ n1_ n2_ n3_ n4_ n5_ n6_ n7_ n8_ n9_; clear hb hbox hg; have hnb6 := NB395_396.out; have hnc6 := NB396_395.out; have hnb7 := NB395_397.out; have hnc7 := NB397_395.out; have hcz8_0 : w5.cell? ⟨gb395, 0, none⟩ = some (.int .i64 a0_0) := (blk_cell BK395.out 0).trans rfl; have hcz8_1 : w5.cell? ⟨gb395, 1, none⟩ = some (.slice A0_1 l0_1.length c0_1) := (blk_cell BK395.out 1).trans rfl; have hcz8_2 : w5.cell? ⟨gb395, 2, none⟩ = some (.int .i64 a0_2) := (blk_cell BK395.out 2).trans rfl; have hfz8_0 := blk_frozen BK395.out 0; have hfz8_1 := blk_frozen BK395.out 1; have hfz8_2 := blk_frozen BK395.out 2; have hnb9 := NB397_396.out; have hnc9 := NB396_397.out; have hcz10_0 : w5.cell? ⟨gb397, 0, none⟩ = some (.int .i64 0) := (blk_cell BK397.out 0).trans rfl; have hcz10_1 : w5.cell? ⟨gb397, 1, none⟩ = some (.slice none 0 0) := (blk_cell BK397.out 1).trans rfl; have hcz10_2 : w5.cell? ⟨gb397, 2, none⟩ = some (.int .i64 0) := (blk_cell BK397.out 2).trans rfl; have hfz10_0 := blk_frozen BK397.out 0; have hfz10_1 := blk_frozen BK397.out 1; have hfz10_2 := blk_frozen BK397.out 2) | ((with_reducible refine gate_callee (f := 65) rfl ?_); refine goesL_ (some 9) rfl rfl Try.func65 (by kernel_rfl) rfl #[.slice A0_1 l0_1.length c0_1] rfl (by first | rfl | (simp only [map_toArray, map_cons, map_nil]; try rfl)) ?_; (with_reducible refine (laws_toIntSS.calls k _ _ l0_1 t398 _ ?side1 ?side2 A2.out).mono ?_); (case side1 => exact Kd.C_below HR0_1.out bl_); (case side2 => exact HC0_1.out); rintro e w11 ⟨v399, rfl, ho0, hb⟩; refine ⟨_, rfl, ?_⟩; have n0_ := ak_ (Kd.S_lower ho0 (bz_ bl_)); have n1_ := ak_ (blk_below (g := gb395) (o := .cells #[.int .i64 a0_0, .slice A0_1 l0_1.length c0_1, .int .i64 a0_2] 49 (0, 0)) (by (with_reducible repeat (first | refine kN_ ?_ _ | refine k1_ ?_ | refine ka_ ?_ _)); refine blk_far ?_ NB395_397.out _; exact pk BK395.out) hb); have n2_ := ak_ (blk_below (g := gb396) (o := .cells #[.int .i64 0, .slice none 0 0, .int .i64 0] 52 (0, 0)) (by (with_reducible repeat (first | refine kN_ ?_ _ | refine k1_ ?_ | refine ka_ ?_ _)); refine blk_far ?_ NB396_397.out _; exact pk BK396.out) hb); have n3_ := ak_ (blk_below (g := gb397) (o := .cells #[.int .i64 a0_0, .slice none 0 0, .int .i64 0] 52 (0, 0)) (by (with_reducible repeat (first | refine kN_ ?_ _ | refine k1_ ?_ | refine ka_ ?_ _)); refine blk_put (cs := #[.int .i64 0, .slice none 0 0, .int .i64 0]) ?_ 0 _ rfl; exact pk BK397.out) hb); have n4_ := ak_ (bs_ bl_ hb); clear BK395; clear BK396; clear BK397; clear HB; have HO400 := n0_; have BK395 := n1_; have BK396 := n2_; have BK397 := n3_; have HB := n4_; clear n0_ n1_ n2_ n3_ n4_; (try clear hb); (try clear hb2); (try clear hk); (try clear hi); (try clear ho0); obtain ⟨Ao12, co12, eo12⟩ := Kd.S_slice HO400.out; subst eo12; have hcz13_0 : w11.cell? ⟨gb397, 0, none⟩ = some (.int .i64 a0_0) := (blk_cell BK397.out 0).trans rfl; have hcz13_1 : w11.cell? ⟨gb397, 1, none⟩ = some (.slice none 0 0) := (blk_cell BK397.out 1).trans rfl; have hcz13_2 : w11.cell? ⟨gb397, 2, none⟩ = some (.int .i64 0) := (blk_cell BK397.out 2).trans rfl; have hfz13_0 := blk_frozen BK397.out 0; have hfz13_1 := blk_frozen BK397.out 1; have hfz13_2 := blk_frozen BK397.out 2; have hcz14_0 : w11.cell? ⟨gb395, 0, none⟩ = some (.int .i64 a0_0) := (blk_cell BK395.out 0).trans rfl; have hcz14_1 : w11.cell? ⟨gb395, 1, none⟩ = some (.slice A0_1 l0_1.length c0_1) := (blk_cell BK395.out 1).trans rfl; have hcz14_2 : w11.cell? ⟨gb395, 2, none⟩ = some (.int .i64 a0_2) := (blk_cell BK395.out 2).trans rfl; have hfz14_0 := blk_frozen BK395.out 0; have hfz14_1 := blk_frozen BK395.out 1; have hfz14_2 := blk_frozen BK395.out 2; have hcz15_0 : w11.cell? ⟨gb396, 0, none⟩ = some (.int .i64 0) := (blk_cell BK396.out 0).trans rfl; have hcz15_1 : w11.cell? ⟨gb396, 1, none⟩ = some (.slice none 0 0) := (blk_cell BK396.out 1).trans rfl; have hcz15_2 : w11.cell? ⟨gb396, 2, none⟩ = some (.int .i64 0) := (blk_cell BK396.out 2).trans rfl; have hfz15_0 := blk_frozen BK396.out 0; have hfz15_1 := blk_frozen BK396.out 1; have hfz15_2 := blk_frozen BK396.out 2))
 refine bodyPost_ret (results_cell_row rfl _ _ gb396 52 #[.int .i64 a0_0, .slice Ao12 t398.length co12, .int .i64 a0_2] (0, 0) _ rfl (by (with_reducible repeat (first | refine kN_ ?_ _ | refine k1_ ?_ | refine ka_ ?_ _)); refine blk_put (cs := #[.int .i64 a0_0, .slice Ao12 t398.length co12, .int .i64 0]) ?_ 2 _ rfl; (with_reducible repeat (first | refine kN_ ?_ _ | refine k1_ ?_ | refine ka_ ?_ _)); refine blk_put (cs := #[.int .i64 a0_0, .slice none 0 0, .int .i64 0]) ?_ 1 _ rfl; (with_reducible repeat (first | refine kN_ ?_ _ | refine k1_ ?_ | refine ka_ ?_ _)); refine blk_put (cs := #[.int .i64 0, .slice none 0 0, .int .i64 0]) ?_ 0 _ rfl; (with_reducible repeat (first | refine kN_ ?_ _ | refine k1_ ?_ | refine ka_ ?_ _)); refine blk_far ?_ NB396_397.out _; (with_reducible repeat (first | refine kN_ ?_ _ | refine k1_ ?_ | refine ka_ ?_ _)); refine blk_far ?_ NB396_397.out _; exact pk BK396.out) Try.underlying52 rfl (by kernel_rfl)) rfl ?_
 exact ⟨_, rx_, by (with_reducible repeat (first | apply Kd.S_alloc | apply Kd.S_drewN | apply Kd.S_drew)); exact Kd.S_mono (Kd.S_far (p := ⟨gb396, 2, none⟩) (Kd.S_far (p := ⟨gb396, 1, none⟩) (Kd.S_far (p := ⟨gb396, 0, none⟩) (Kd.S_far (p := ⟨gb397, 2, none⟩) (Kd.S_far (p := ⟨gb397, 1, none⟩) (Kd.S_types (Kd.S_types HO400.out BK397.out (by decide)) BK396.out (by decide)) (fun _ hk => hk.1.2) (.slice Ao12 t398.length co12)) (fun _ hk => hk.1.2) (.int .i64 a0_2)) (fun _ hk => hk.2) (.int .i64 a0_0)) (fun _ hk => hk.2) (.slice Ao12 t398.length co12)) (fun _ hk => hk.2) (.int .i64 a0_2)) (fun _ hk => trivial), by repeat (first | exact HB.out | apply ba_ | apply bN_ | apply b1_ | refine below_set ?_ (Aside0.out (by assumption)))⟩
structure REdge where
 f0 : Int
 f1 : Int
 A : Option Addr
 n : Nat
 c : Nat
def REdge.enc (r : REdge) : List Value := [.int .i64 r.f0, .int .i64 r.f1, .slice r.A r.n r.c]
def zRE : REdge := ⟨0, 0, none, 0, 0⟩
def kre : Kd REdge := Kd.iso (Kd.raw 3) REdge.enc
theorem kre_M (W : World) (base : Nat) (ok : Nat → Prop) (r : REdge) : kre.M W base ok r [.int .i64 r.f0, .int .i64 r.f1, .slice r.A r.n r.c] := ⟨rfl, rfl, by
 intro u hu
 simp only [List.mem_cons, List.not_mem_nil, or_false] at hu
 rcases hu with rfl | rfl | rfl <;> rfl⟩
theorem kre_get {W : World} {base g n cap : Nat} {ok : Nat → Prop} {res : List REdge} (h : kre.R 110 W base ok (.slice (some ⟨g, 0, none⟩) n cap) res) (i : Nat) (hi : i < res.length) :
  W.cell? ⟨g, i * 3, none⟩ = some (.int .i64 res[i].f0) ∧ W.cell? ⟨g, i * 3 + 1, none⟩ = some (.int .i64 res[i].f1) ∧ W.cell? ⟨g, i * 3 + 2, none⟩ = some (.slice res[i].A res[i].n res[i].c) := by
 obtain ⟨ad, c, e, -, hK, hcell⟩ := Kd.C_get (Kd.R_reads' h).2.2 zRE (i : Int) (by omega) (by omega)
 obtain rfl := Option.some.inj e
 rw [Int.toNat_natCast, List.getD_eq_getElem?_getD, List.getElem?_eq_getElem hi] at hK
 obtain rfl := hK.1
 have hsz : kre.sz = 3 := rfl
 refine ⟨?_, ?_, ?_⟩
 ·have h_ := hcell 0 _ rfl
  rw [add_at, hsz, Nat.zero_add, Nat.add_zero, Int.toNat_natCast] at h_; exact h_
 ·have h_ := hcell 1 _ rfl
  rw [add_at, hsz, Nat.zero_add, Int.toNat_natCast] at h_; exact h_
 ·have h_ := hcell 2 _ rfl
  rw [add_at, hsz, Nat.zero_add, Int.toNat_natCast] at h_; exact h_
theorem kre_cc {W : World} {base g n cap : Nat} {ok : Nat → Prop} {res : List REdge} (h : kre.R 110 W base ok (.slice (some ⟨g, 0, none⟩) n cap) res) (i : Nat) (hi : i < res.length) :
  ∃ o : REdge, ∀ j u, ([.int .i64 o.f0, .int .i64 o.f1, .slice o.A o.n o.c] : List Value)[j]? = some u → W.cell? ⟨g, (i : Int).toNat * kre.sz + j, none⟩ = some u := by
 obtain ⟨h0, h1, h2⟩ := kre_get h i hi
 refine ⟨res[i], fun j u hu => ?_⟩
 have e : (i : Int).toNat * kre.sz = i * 3 := rfl
 rw [e]
 rcases j with _ | _ | _ | j
 ·obtain rfl := Option.some.inj hu; exact h0
 ·obtain rfl := Option.some.inj hu; exact h1
 ·obtain rfl := Option.some.inj hu; exact h2
 ·simp at hu
theorem gr_below {w W w' : World} {row : Option Nat} (h : w.grownBy W row) (hb : Below W.heap.size W w') : w.grownBy w' row :=
 ⟨hb.os.trans h.os, hb.tape.trans h.tape, hb.output.trans h.output, Nat.le_trans h.size hb.size, fun k hk hn => (hb.block k (Nat.lt_of_lt_of_le hk h.size)).trans (h.block k hk hn)⟩
theorem gr_gr {w W w' : World} {row : Option Nat} (h : w.grownBy W row) (hb : W.grownBy w' row) : w.grownBy w' row :=
 ⟨hb.os.trans h.os, hb.tape.trans h.tape, hb.output.trans h.output, Nat.le_trans h.size hb.size, fun k hk hn => (hb.block k (Nat.lt_of_lt_of_le hk h.size) hn).trans (h.block k hk hn)⟩
def ixFrom (P : Int → Int → Bool) (i : Int) : List REdge → Int
 | [] => -1
 | r :: rs => if P r.f0 r.f1 = true then i else ixFrom P (i + 1) rs
theorem ix_spec (P : Int → Int → Bool) : ∀ (rs : List REdge) (i : Nat), (ixFrom P (i : Int) rs = -1 ∧ rs.filter (fun r => !P r.f0 r.f1) = rs) ∨ ∃ k, k < rs.length ∧ ixFrom P (i : Int) rs = ((i + k : Nat) : Int) ∧ (rs.take k).filter (fun r => !P r.f0 r.f1) = rs.take k ∧ (rs.take (k + 1)).filter (fun r => !P r.f0 r.f1) = rs.take k
 | [], _ => .inl ⟨rfl, rfl⟩
 | r :: rs, i => by
  by_cases h : P r.f0 r.f1 = true
  ·exact .inr ⟨0, by simp, by simp [ixFrom, h], rfl, by simp [h]⟩
  ·have hf : P r.f0 r.f1 = false := by simpa using h
   rcases ix_spec P rs (i + 1) with ⟨e, ha⟩ | ⟨k, hk, e, ha, hb⟩
   ·refine .inl ⟨?_, by rw [List.filter_cons, hf, ha]; rfl⟩
    show (if P r.f0 r.f1 = true then (i : Int) else ixFrom P ((i : Int) + 1) rs) = -1
    rw [if_neg h]; exact e
   ·refine .inr ⟨k + 1, by simpa using hk, ?_, ?_, ?_⟩
    ·show (if P r.f0 r.f1 = true then (i : Int) else ixFrom P ((i : Int) + 1) rs) = _
     rw [if_neg h, show ((i : Int) + 1) = ((i + 1 : Nat) : Int) from rfl, e]; congr 1; omega
    ·rw [List.take_succ_cons, List.filter_cons, hf, ha]; rfl
    ·rw [List.take_succ_cons, List.filter_cons, hf, hb]; rfl
def REAsk (pn : Nat) (pb : Array Value) (P : Int → Int → Bool) (ok : REdge → Prop) (S : World → Prop) : Prop :=
 ∀ (W : World) (r : REdge), S W → ok r → Calls Try.prog pn (#[.agg #[.int .i64 r.f0, .int .i64 r.f1, .slice r.A r.n r.c]] ++ pb) W fun e w' => e = .returned (.bool (P r.f0 r.f1)) ∧ Below W.heap.size W w'
theorem impl_edge_int_169.calls_re (pn : Nat) (pb : Array Value) (P : Int → Int → Bool) (ok : REdge → Prop) (S : World → Prop) (ep : ∀ args w, (callFunc pn args).run Try.prog w = .ok (.enter pn args) w) (hp : REAsk pn pb P ok S) (w : World) (base : Nat) (okr : Nat → Prop) (v : Value) (res : List REdge)
  (hv : kre.R 110 w base okr v res) (hl : res.length < 1000000) (hok : ∀ r ∈ res, ok r) (hS : ∀ W, Below w.heap.size w W → S W) :
  Calls Try.prog 169 #[v, .func (.func pn) #[] pb] w fun e w' => e = .returned (.int .i64 (ixFrom P 0 res)) ∧ Below w.heap.size w w' := by
 have hu := Try.underlying110
 obtain ⟨A, c, rfl⟩ := Kd.R_slice hv
 have HR := ak_ hv
 have HL := ak_ hl
 have HOK := ak_ hok
 have HS := ak_ hS
 have HP := ak_ hp
 clear hv hl hok hS hp
 go_enter Try.func169, Try.ntmps169
 go_wp2
 go_loopg [5, 8] res.length (fun gg _ s8 wr => ∃ kk : Nat, kk ≤ res.length ∧ res.length - kk ≤ gg ∧ s8 = .int .i64 (kk : Int) ∧ Aside0 (ixFrom P (kk : Int) (res.drop kk) = ixFrom P 0 res) ∧ Aside0 (kre.R 110 wr base okr (.slice A res.length c) res) ∧ Aside0 (Below w.heap.size w wr))
 case atStart => exact ⟨0, Nat.zero_le _, by omega, rfl, ⟨by rw [List.drop_zero]; rfl⟩, ⟨Kd.R_below HR.out be_⟩, ⟨be_⟩⟩
 case round =>
  clear HR
  obtain ⟨kk, hkk, hg, rfl, H, HR, HB⟩ := hrel
  by_cases hlt : kk < res.length
  ·have q1 : decide ((kk : Int) < (res.length : Int)) = true := decide_eq_true (by omega)
   have q1n : decide (kk < res.length) = true := decide_eq_true hlt
   have q0 : ((0 : Int) ≤ (kk : Int)) = True := eq_true (by omega)
   have q1p : ((kk : Int) < (res.length : Int)) = True := eq_true (by omega)
   obtain ⟨g, cap, ev, -, -, -⟩ := Kd.R_form HR.out (by omega)
   injection ev with eA _ ec
   subst eA
   subst ec
   obtain ⟨hx0, hx1, hx2⟩ := kre_get HR.out kk hlt
   have h := H.out
   rw [List.drop_eq_getElem_cons hlt] at h
   obtain ⟨r, hr⟩ : ∃ r, r = res[kk] := ⟨_, rfl⟩
   rw [← hr] at hx0 hx1 hx2 h
   have HOKr := ak_ (HOK.out r (by rw [hr]; exact List.getElem_mem hlt))
   have hw : IntKind.i64.wrap ((kk : Int) + 1) = ((kk + 1 : Nat) : Int) := by have := HL.out; rw [IntWalk.i64_in _ ⟨by omega, by omega⟩]; omega
   have HG := ak_ (And.intro hg hlt)
   simp only [ixFrom] at h
   clear hr H hkk hg hlt
   cases hP : P r.f0 r.f1
   ·rw [hP] at h
    have H := ak_ h
    clear h
    go_wp2_with (go_at_fn pn; refine (HP.out _ r (HS.out _ (bb_ HB.out)) HOKr.out).mono ?_; rw [hP]; rintro e w16 ⟨rfl, hb⟩; have n0_ := ak_ (Kd.R_below (Kd.pR HR.out) hb); have n1_ := ak_ (bs_ (bb_ HB.out) hb); clear HR HB hb; have HR := n0_; have HB := n1_; clear n0_ n1_)
    go_roundg (res.length - (kk + 1))
    case measure => have := HG.out; omega
    case rel => exact ⟨kk + 1, by have := HG.out; omega, Nat.le_refl _, (by first | rfl | (simp; done)), ⟨by have h_ := H.out; rw [if_neg (by decide)] at h_; exact h_⟩, ⟨Kd.R_below HR.out be_⟩, ⟨(bb_ HB.out)⟩⟩
   ·rw [hP, if_pos rfl] at h
    have H := ak_ h
    clear h
    go_wp2_with (go_at_fn pn; refine (HP.out _ r (HS.out _ (bb_ HB.out)) HOKr.out).mono ?_; rw [hP]; rintro e w16 ⟨rfl, hb⟩; have n0_ := ak_ (Kd.R_below (Kd.pR HR.out) hb); have n1_ := ak_ (bs_ (bb_ HB.out) hb); clear HR HB hb; have HR := n0_; have HB := n1_; clear n0_ n1_)
    first | go_ret | go_ret2
    exact ⟨by rw [← H.out]; rfl, (bb_ HB.out)⟩
  ·have q1 : decide ((kk : Int) < (res.length : Int)) = false := decide_eq_false (by omega)
   have q1n : decide (kk < res.length) = false := decide_eq_false hlt
   have h := H.out
   rw [List.drop_of_length_le (by omega)] at h
   have H2 := ak_ h
   clear h H hkk hg hlt
   go_wp2
   first | go_ret | go_ret2
   exact ⟨by rw [← H2.out]; rfl, (bb_ HB.out)⟩
structure DelInv (keep : REdge → Bool) (res cur : List REdge) (i j : Nat) : Prop where
 lt : i < j
 le : j ≤ res.length
 len : cur.length = res.length
 low : cur.take i = (res.take j).filter keep
 high : cur.drop j = res.drop j
theorem DelInv.at_ {keep : REdge → Bool} {res cur : List REdge} {i j : Nat} (h : DelInv keep res cur i j) (hj : j < res.length) : cur[j]'(by have := h.len; omega) = res[j] := by
 have hc : j < cur.length := by have := h.len; omega
 have e := h.high
 rw [List.drop_eq_getElem_cons hc, List.drop_eq_getElem_cons hj] at e
 exact (List.cons.inj e).1
theorem DelInv.skip {keep : REdge → Bool} {res cur : List REdge} {i j : Nat} (h : DelInv keep res cur i j) (hj : j < res.length) (hk : keep res[j] = false) : DelInv keep res cur i (j + 1) where
 lt := Nat.lt_succ_of_lt h.lt
 le := hj
 len := h.len
 low := by rw [List.take_succ_eq_append_getElem hj, List.filter_append, h.low, List.filter_cons, hk]; simp
 high := by rw [← List.drop_drop, h.high, List.drop_drop]
theorem DelInv.keep_ {keep : REdge → Bool} {res cur : List REdge} {i j : Nat} (h : DelInv keep res cur i j) (hj : j < res.length) (hk : keep res[j] = true) : DelInv keep res (cur.set i res[j]) (i + 1) (j + 1) where
 lt := Nat.succ_lt_succ h.lt
 le := hj
 len := by rw [List.length_set]; exact h.len
 low := by
  have hi : i < cur.length := by have := h.len; have := h.lt; omega
  rw [List.take_succ_eq_append_getElem (by rw [List.length_set]; exact hi), List.getElem_set_self, List.take_set_of_le (Nat.le_refl i), h.low, List.take_succ_eq_append_getElem hj, List.filter_append, List.filter_cons, hk]
  rfl
 high := by rw [List.drop_set_of_lt (by have := h.lt; omega), ← List.drop_drop, h.high, List.drop_drop]
theorem impl_edge_int_146.calls (pn : Nat) (pb : Array Value) (P : Int → Int → Bool) (ok : REdge → Prop) (S : World → Prop) (ep : ∀ args w, (callFunc pn args).run Try.prog w = .ok (.enter pn args) w) (hp : REAsk pn pb P ok S) (w w0 : World) (okr : Nat → Prop) (v : Value) (res : List REdge)
  (hb0 : Below w.heap.size w w0) (hv : kre.R 110 w0 w.heap.size okr v res) (hl : res.length < 1000000) (hok : ∀ r ∈ res, ok r) (hS : ∀ W, Below w.heap.size w W → S W) :
  Calls Try.prog 146 #[v, .func (.func pn) #[] pb] w0 fun e w' => ∃ v' : Value, e = .returned v' ∧ kre.R 110 w' w.heap.size okr v' (res.filter fun r => !P r.f0 r.f1) ∧ v'.ownBlock = v.ownBlock ∧ w0.grownBy w' v.ownBlock ∧ Below w.heap.size w w' := by
 have hu := Try.underlying110
 have HIX := ak_ fun (W : World) (h1 : Below w0.heap.size w0 W) => impl_edge_int_169.calls_re pn pb P ok S ep hp W w.heap.size okr v res (Kd.R_below hv h1) hl hok (fun W' h2 => hS W' (below_then hb0 hb0.size (below_then h1 h1.size h2)))
 have HL := ak_ hl
 have HOK := ak_ hok
 have HS := ak_ hS
 have HP := ak_ hp
 have HB := ak_ hb0
 have HR := ak_ hv
 have HGR := ak_ (World.grownBy.refl w0 v.ownBlock)
 have HBX := ak_ (Below.refl w0.heap.size w0)
 rcases ix_spec P res 0 with ⟨e1, hall⟩ | ⟨k0, hk0, e1, ha, hb⟩
 ·have e2 : ixFrom P 0 res = -1 := e1
  have HF := ak_ hall
  rw [e2] at HIX
  clear e1 e2 hall hl hok hS hp hb0 hv
  go_enter Try.func146, Try.ntmps146
  go_wp2_with (go_at_call 169; refine (HIX.out _ be_).mono ?_; rintro e w10 ⟨rfl, hb⟩; have n0_ := ak_ (Kd.R_below (Kd.pR HR.out) hb); have n1_ := ak_ (bs_ (bb_ HB.out) hb); have n2_ := ak_ (gr_below HGR.out hb); clear HR HB HGR hb HIX; have HR := n0_; have HB := n1_; have HGR := n2_; clear n0_ n1_ n2_)
  first | go_ret | go_ret2
  exact ⟨v, rfl, by rw [HF.out]; exact Kd.R_below HR.out be_, rfl, HGR.out, (bb_ HB.out)⟩
 ·obtain ⟨g, cap, rfl, -, -, -⟩ := Kd.R_form hv (by omega)
  have e2 : ixFrom P 0 res = (k0 : Int) := by have e3 := e1; simp only [Nat.zero_add] at e3; exact e3
  rw [e2] at HIX
  have hne1 : ((k0 : Int) == -1) = false := beq_eq_false_iff_ne.2 (by omega)
  have HI := ak_ (show DelInv (fun r => !P r.f0 r.f1) res res k0 (k0 + 1) from ⟨Nat.lt_succ_self _, hk0, rfl, hb.symm, rfl⟩)
  have hw4 : IntKind.i64.wrap ((k0 : Int) + 1) = ((k0 + 1 : Nat) : Int) := by rw [IntWalk.i64_in _ ⟨by omega, by omega⟩]; omega
  clear e1 e2 ha hb hl hok hS hp hb0 hv hk0
  go_enter Try.func146, Try.ntmps146
  go_wp2_with (go_at_call 169; refine (HIX.out _ be_).mono ?_; rintro e w10 ⟨rfl, hb⟩; have n0_ := ak_ (Kd.R_below (Kd.pR HR.out) hb); have n1_ := ak_ (bs_ (bb_ HB.out) hb); have n2_ := ak_ (gr_below HGR.out hb); clear HR HB HGR hb HIX; have HR := n0_; have HB := n1_; have HGR := n2_; clear n0_ n1_ n2_)
  go_loopg [5, 6] res.length (fun gg v5 v6 wr => ∃ (i j : Nat) (cur : List REdge), v5 = .int .i64 (i : Int) ∧ v6 = .int .i64 (j : Int) ∧ res.length - j ≤ gg ∧ Aside0 (DelInv (fun r => !P r.f0 r.f1) res cur i j) ∧ Aside0 (kre.R 110 wr w.heap.size okr (.slice (some ⟨g, 0, none⟩) res.length cap) cur) ∧ Aside0 (w0.grownBy wr (some g)) ∧ Aside0 (Below w.heap.size w wr))
  case atStart => exact ⟨k0, k0 + 1, res, rfl, (by first | rfl | (simp; done)), by omega, HI, ⟨Kd.R_below HR.out be_⟩, ⟨HGR.out⟩, ⟨(bb_ HB.out)⟩⟩
  case round =>
   clear HI HR HGR HB HBX hw4 hne1
   obtain ⟨i, j, cur, rfl, rfl, hg, HI, HR, HGR, HB⟩ := hrel
   have i0 : ((0 : Int) ≤ (i : Int)) = True := eq_true (by omega)
   have j0 : ((0 : Int) ≤ (j : Int)) = True := eq_true (by omega)
   have i1 : ((i : Int) < (res.length : Int)) = True := eq_true (by have := HI.out.lt; have := HI.out.le; omega)
   have hwi : IntKind.i64.wrap ((i : Int) + 1) = ((i + 1 : Nat) : Int) := by have := HI.out.lt; have := HI.out.le; have := HL.out; rw [IntWalk.i64_in _ ⟨by omega, by omega⟩]; omega
   have hwj : IntKind.i64.wrap ((j : Int) + 1) = ((j + 1 : Nat) : Int) := by have := HI.out.lt; have := HI.out.le; have := HL.out; rw [IntWalk.i64_in _ ⟨by omega, by omega⟩]; omega
   by_cases hlt : j < res.length
   ·have j1 : decide ((j : Int) < (res.length : Int)) = true := decide_eq_true (by omega)
    have j1n : decide (j < res.length) = true := decide_eq_true hlt
    have j1p : ((j : Int) < (res.length : Int)) = True := eq_true (by omega)
    obtain ⟨hx0, hx1, hx2⟩ := kre_get HR.out j (by have := HI.out.len; omega)
    obtain ⟨r, hr⟩ : ∃ r, r = res[j] := ⟨_, rfl⟩
    rw [HI.out.at_ hlt, ← hr] at hx0 hx1 hx2
    have HOKr := ak_ (HOK.out r (by rw [hr]; exact List.getElem_mem hlt))
    have HG := ak_ (And.intro hg hlt)
    have HIN := ak_ (And.intro (fun (h : P r.f0 r.f1 = true) => HI.out.skip hlt (by rw [← hr]; simp [h])) (fun (h : P r.f0 r.f1 = false) => (by have h_ := HI.out.keep_ hlt (by rw [← hr]; simp [h]); rw [← hr] at h_; exact h_ : DelInv (fun r => !P r.f0 r.f1) res (cur.set i r) (i + 1) (j + 1))))
    clear hg hlt hr
    go_upto_region 8 with (fail)
    obtain ⟨w7, hw7⟩ : ∃ W, W = wr.alloc (.cells #[.int .i64 r.f0, .int .i64 r.f1, .slice r.A r.n r.c] 110) := ⟨_, rfl⟩
    have hb : Below wr.heap.size wr w7 := (by rw [hw7]; exact ba_ (Below.refl _ _) _)
    have hbk : w7.heap[wr.heap.size]? = some (.cells #[.int .i64 r.f0, .int .i64 r.f1, .slice r.A r.n r.c] 110 (0, 0)) := (by rw [hw7]; exact blk_new wr _)
    rw [← hw7]
    clear hw7 hx0 hx1 hx2
    have n0_ := ak_ (Kd.R_below HR.out hb); have n1_ := ak_ (bs_ HB.out hb); have n2_ := ak_ (gr_below HGR.out hb); clear HR HB HGR hb; have HR := n0_; have HB := n1_; have HGR := n2_; clear n0_ n1_ n2_
    obtain ⟨gb7, hg7⟩ : ∃ g, g = wr.heap.size := ⟨_, rfl⟩
    rw [← hg7] at hbk ⊢
    have BK7 := ak_ hbk
    clear hbk hg7
    have hz0 := (blk_cell BK7.out 0)
    have hz1 := (blk_cell BK7.out 1)
    have hz2 := (blk_cell BK7.out 2)
    simp at hz0
    simp at hz1
    simp at hz2
    cases hP : P r.f0 r.f1
    ·have HI2 := ak_ (HIN.out.2 hP)
     have HII := ak_ (And.intro HI.out.lt HI.out.le)
     clear HIN
     go_wp2_with (first | (go_at_fn pn; refine (HP.out _ r (HS.out _ (bb_ HB.out)) HOKr.out).mono ?_; rw [hP]; rintro e w28 ⟨rfl, hb⟩; have n0_ := ak_ (Kd.R_below HR.out hb); have n1_ := ak_ (bs_ HB.out hb); have n2_ := ak_ (gr_below HGR.out hb); have n3_ := ak_ (blk_below BK7.out hb); clear HR HB HGR BK7 hb; have HR := n0_; have HB := n1_; have HGR := n2_; have BK7 := n3_; clear n0_ n1_ n2_ n3_; have hz0 := (blk_cell BK7.out 0); have hz1 := (blk_cell BK7.out 1); have hz2 := (blk_cell BK7.out 2); simp at hz0; simp at hz1; simp at hz2) | ((with_reducible refine gate_store (t := 110) (p := 33) rfl ?_); go_loud (obtain ⟨o, hcc⟩ := kre_cc HR.out i (by have := HI.out.len; have := HII.out; omega); refine Kd.R_store kre (w0 := w) (g := g) (n := res.length) (cap := cap) (o' := i * 3) w.heap.size rfl rfl 110 (.tmp 33) (.tmp 32) rfl 110 (i : Int) 0 cur r (.agg #[.int .i64 r.f0, .int .i64 r.f1, .slice r.A r.n r.c]) [.int .i64 r.f0, .int .i64 r.f1, .slice r.A r.n r.c] [.int .i64 o.f0, .int .i64 o.f1, .slice o.A o.n o.c] okr (fun _ => False) ?sa ?so ?sx ?su ?st ?s1 HR.out ?s0 ?si rfl hcc ?sj ?sm (fun _ hk => hk.elim) HB.out ?_; (case sa => rfl); (case so => rfl); (case sx => rfl); (case su => rfl); (case st => kernel_rfl); (case s1 => exact (kre_M wr w.heap.size (fun _ => True) r).2.2); (case s0 => omega); (case si => have := HII.out; omega); (case sj => exact Nat.le_refl 3); (case sm => exact kre_M _ _ _ r); intro w33 hr hb hg; have n0_ := ak_ hr; have n1_ := ak_ hb; have n2_ := ak_ (gr_gr HGR.out hg); clear HR HB HGR hr hb hg hcc; have HR := n0_; have HB := n1_; have HGR := n2_; clear n0_ n1_ n2_)))
     go_roundg (res.length - (j + 1))
     case measure => have := HG.out; omega
     case rel => exact ⟨i + 1, j + 1, cur.set i r, (by first | rfl | (simp; done)), (by first | rfl | (simp; done)), Nat.le_refl _, HI2, ⟨Kd.R_below HR.out be_⟩, ⟨HGR.out⟩, ⟨(bb_ HB.out)⟩⟩
    ·have HI2 := ak_ (HIN.out.1 hP)
     clear HIN
     go_wp2_with (go_at_fn pn; refine (HP.out _ r (HS.out _ (bb_ HB.out)) HOKr.out).mono ?_; rw [hP]; rintro e w28 ⟨rfl, hb⟩; have n0_ := ak_ (Kd.R_below HR.out hb); have n1_ := ak_ (bs_ HB.out hb); have n2_ := ak_ (gr_below HGR.out hb); have n3_ := ak_ (blk_below BK7.out hb); clear HR HB HGR BK7 hb; have HR := n0_; have HB := n1_; have HGR := n2_; have BK7 := n3_; clear n0_ n1_ n2_ n3_; have hz0 := (blk_cell BK7.out 0); have hz1 := (blk_cell BK7.out 1); have hz2 := (blk_cell BK7.out 2); simp at hz0; simp at hz1; simp at hz2)
     go_roundg (res.length - (j + 1))
     case measure => have := HG.out; omega
     case rel => exact ⟨i, j + 1, cur, (by first | rfl | (simp; done)), (by first | rfl | (simp; done)), Nat.le_refl _, HI2, ⟨Kd.R_below HR.out be_⟩, ⟨HGR.out⟩, ⟨(bb_ HB.out)⟩⟩
   ·have j1 : decide ((j : Int) < (res.length : Int)) = false := decide_eq_false (by omega)
    have j1n : decide (j < res.length) = false := decide_eq_false hlt
    have hlow := HI.out.low
    have hje : j = res.length := by have := HI.out.le; omega
    rw [hje, List.take_length] at hlow
    have HLOW := ak_ hlow
    have HT := ak_ (Kd.R_take HR.out (m := i) (by have := HI.out.len; have := HI.out.lt; have := HI.out.le; omega))
    obtain ⟨hn1, hn2, -⟩ := Kd.R_reads' HR.out
    have hq1 : i ≤ res.length := by have := HI.out.lt; have := HI.out.le; omega
    have hq2 : (cap = i) = False := by have := HI.out.lt; have := HI.out.le; simp; omega
    have hq3 : res.length ≤ cap := hn2
    have HII := ak_ (And.intro HI.out.lt (And.intro HI.out.le hn2))
    clear hlow hje hn1 hn2 hlt hg HR HI
    go_wp2_with (((with_reducible refine gate_builtin (b := .clear) (xs := #[.tmp 38]) rfl ?_); refine Kd.R_clear kre (w0 := w) w.heap.size ?hgd (.tmp 38) 130 110 ?ho Try.underlying130 (.agg #[(.int .i64 0), (.int .i64 0), (.slice none 0 0)]) ?hz rfl ?hz1 ?hd (g := g) (n := i) (m := res.length - i) (c2 := ?c2) (off := i * 3) ?hs rfl HT.out ?hm ?hm0 HB.out ?hbase ?_; (case hgd => rfl); (case ho => rfl); (case hz => rfl); (case hz1 => decide); (case hd => decide); (case hs => rfl); (case hm => (have hx_ := HII.out); omega); (case hm0 => (have hx_ := HII.out); omega); (case hbase => exact HB.out.size); intro w38 ho2 hb2 hg2; have n0_ := ak_ ho2; have n1_ := ak_ hb2; have n2_ := ak_ (gr_gr HGR.out hg2); clear HT HB HGR ho2 hb2 hg2; have HT := n0_; have HB := n1_; have HGR := n2_; clear n0_ n1_ n2_))
    first | go_ret | go_ret2
    exact ⟨_, rfl, by rw [← HLOW.out]; exact Kd.R_below HT.out be_, rfl, HGR.out, (bb_ HB.out)⟩
end Go.Proofs.Ythkchdfkeieabaa.QGr
