/- Contracts of functions of the given program, walked: each call returns what its Lean function says. Conditions: those that stand at each theorem. (Written by a program of this session.) -/
import Derived.Test.YthkchdfkeieabaaQGrx0
import Derived.Test.YthkchdfkeieabaaQGrx1
import Derived.Test.YthkchdfkeieabaaQGrx7
import Derived.Test.YthkchdfkeieabaaQGrx9
namespace Go.Proofs.Ythkchdfkeieabaa.QGr
open Go.RowKit Go.Proofs.YthkchdfkeieabaaW.PrintWords Go.Proofs.YthkchdfkeieabaaW.PrintLast Go.Proofs.YthkchdfkeieabaaW.PrintMore
open List (setIfInBounds_toArray set_cons_zero set_cons_succ map_toArray map_cons map_nil)
attribute [local go_sem] max2_int min2_int max_two min_two max_three min_three max_four min_four
set_option linter.unusedVariables false
set_option maxHeartbeats 8000000
set_option maxRecDepth 100000
set_option linter.unusedSimpArgs false
def spec_CountBest.f (k : Nat) (l0_0 : List Int) (a0_1 : Int) : Option (Int × Bool) := (spec_paGood.f k l0_0 a0_1).bind fun t456 => (if t456 = true then ((spec_seLeast.f k l0_0 a0_1).bind fun t457 => (if t457 < 0 then (some (0, true)) else ((spec_seCount.f k l0_0 a0_1).bind fun bt458 => (some (bt458.1, true))))) else (some (0, false)))
theorem spec_CountBest.mono : ∀ a0 a1 k, LeO (spec_CountBest.f k a0 a1) (spec_CountBest.f (k + 1) a0 a1) := by
 intro a0 a1 k
 unfold spec_CountBest.f
 repeat' first
  | (with_reducible first | exact spec_paGood.mono _ _ _ | exact spec_seCount.mono _ _ _ | exact spec_seLeast.mono _ _ _ | exact LeO.refl _ | exact LeO.none _ | refine LeO.ite ?_ ?_ | refine LeO.bind ?_ (fun _ => ?_))
  | exact spec_paGood.mono _ _ _
  | exact spec_seCount.mono _ _ _
  | exact spec_seLeast.mono _ _ _
  | exact LeO.none _
  | refine LeO.ite ?_ ?_
  | refine LeO.bind ?_ (fun _ => ?_)
theorem spec_CountBest.calls (k : Nat) (A0_0 : Option Addr) (c0_0 : Nat) (l0_0 : List Int) (a0_1 : Int) (r1 : Int) (r2 : Bool) (w : World) (hr0_0 : Kd.C (Kd.int .i64) w A0_0 l0_0.length l0_0) (hc0_0 : l0_0.length ≤ c0_0) (h : spec_CountBest.f k l0_0 a0_1 = some (r1, r2)) :
  Calls Try.prog 14 #[.agg #[.slice A0_0 l0_0.length c0_0, .int .i64 a0_1]] w fun e w' => e = .returned (.tuple #[.int .i64 r1, .bool r2]) ∧ Below w.heap.size w w' := by
 have hu34 := Try.underlying34
 have HR0_0 := ak_ hr0_0
 have HC0_0 := ak_ hc0_0
 clear hr0_0 hc0_0
 have HB := ak_ (Below.refl w.heap.size w)
 have H : ((spec_paGood.f k l0_0 a0_1).bind fun t456 => (if t456 = true then ((spec_seLeast.f k l0_0 a0_1).bind fun t457 => (if t457 < 0 then (some (0, true)) else ((spec_seCount.f k l0_0 a0_1).bind fun bt458 => (some (bt458.1, true))))) else (some (0, false)))) = some (r1, r2) := h
 clear h
 replace H := Option.bind_eq_some_iff.mp H
 obtain ⟨t456, A20, H⟩ := H
 replace H : (if t456 = true then ((spec_seLeast.f k l0_0 a0_1).bind fun t457 => (if t457 < 0 then (some (0, true)) else ((spec_seCount.f k l0_0 a0_1).bind fun bt458 => (some (bt458.1, true))))) else (some (0, false))) = some (r1, r2) := H
 have A2 := ak_ A20
 clear A20
 by_cases c3 : t456 = true
 ·
  subst c3
  have H1 : ((spec_seLeast.f k l0_0 a0_1).bind fun t457 => (if t457 < 0 then (some (0, true)) else ((spec_seCount.f k l0_0 a0_1).bind fun bt458 => (some (bt458.1, true))))) = some (r1, r2) := by rw [if_pos rfl] at H; exact H
  clear H
  have H := H1
  clear H1
  replace H := Option.bind_eq_some_iff.mp H
  obtain ⟨t457, A40, H⟩ := H
  replace H : (if t457 < 0 then (some (0, true)) else ((spec_seCount.f k l0_0 a0_1).bind fun bt458 => (some (bt458.1, true)))) = some (r1, r2) := H
  have A4 := ak_ A40
  clear A40
  by_cases c5 : t457 < 0
  ·
   rw [if_pos c5] at H
   have c5b0 : decide (t457 < 0) = true := decide_eq_true c5
   clear c5
   simp only [Option.some.injEq, Prod.mk.injEq] at H
   obtain ⟨rfl, rfl⟩ := H
   go_enter Try.func14, Try.ntmps14
   go_wp2_with (first | ((with_reducible refine gate_dst (N := 1) rfl ?_); refine box_event ?hg (N := 1) ?hd (cs := #[.slice A0_0 l0_0.length c0_0, .int .i64 a0_1]) (t := 34) ?hr ?_; (case hd => rfl); (case hg => rfl); (case hr => go_simp <;> rfl); intro gb455 hg w6 hbox hb; have n0_ := ak_ (bs_ (bb_ HB.out) hb); have n1_ := ak_ (hbox); have n2_ := ak_ ((by rw [hg]; exact (bz_ (bb_ HB.out)) : w.heap.size ≤ gb455)); have n3_ := n2_; clear HB; have HB := n0_; have BK455 := n1_; have GW455 := n2_; have GE455 := n3_; clear n0_ n1_ n2_ n3_; clear hb hbox hg; have hcz7_0 : w6.cell? ⟨gb455, 0, none⟩ = some (.slice A0_0 l0_0.length c0_0) := (blk_cell BK455.out 0).trans rfl; have hcz7_1 : w6.cell? ⟨gb455, 1, none⟩ = some (.int .i64 a0_1) := (blk_cell BK455.out 1).trans rfl; have hfz7_0 := blk_frozen BK455.out 0; have hfz7_1 := blk_frozen BK455.out 1) | ((with_reducible refine gate_callee (f := 45) rfl ?_); refine goesL_ (some 7) rfl rfl Try.func45 (by kernel_rfl) rfl #[.agg #[.slice A0_0 l0_0.length c0_0, .int .i64 a0_1]] rfl (by first | rfl | (simp only [map_toArray, map_cons, map_nil]; try rfl)) ?_; (with_reducible refine (spec_paGood.calls k _ _ l0_0 a0_1 true _ ?side1 ?side2 A2.out).mono ?_); (case side1 => repeat (first | exact (Kd.C_below HR0_0.out HB.out) | (with_reducible refine Kd.C_alloc ?_ _) | (with_reducible refine Kd.C_drewN ?_ _) | (with_reducible refine Kd.C_drew ?_))); (case side2 => exact HC0_0.out); rintro e w8 ⟨rfl, hb⟩; refine ⟨_, rfl, ?_⟩; have n0_ := ak_ (blk_below (pk BK455.out) hb); have n1_ := ak_ (bs_ (by repeat (first | exact HB.out | apply ba_ | apply bN_ | apply b1_ | refine below_set ?_ GE455.out)) hb); clear BK455; clear HB; have BK455 := n0_; have HB := n1_; clear n0_ n1_; (try clear hb); (try clear hb2); (try clear hk); (try clear hi); have hcz9_0 : w8.cell? ⟨gb455, 0, none⟩ = some (.slice A0_0 l0_0.length c0_0) := (blk_cell BK455.out 0).trans rfl; have hcz9_1 : w8.cell? ⟨gb455, 1, none⟩ = some (.int .i64 a0_1) := (blk_cell BK455.out 1).trans rfl; have hfz9_0 := blk_frozen BK455.out 0; have hfz9_1 := blk_frozen BK455.out 1) | ((with_reducible refine gate_callee (f := 46) rfl ?_); refine goesL_ (some 10) rfl rfl Try.func46 (by kernel_rfl) rfl #[.agg #[.slice A0_0 l0_0.length c0_0, .int .i64 a0_1]] rfl (by first | rfl | (simp only [map_toArray, map_cons, map_nil]; try rfl)) ?_; (with_reducible refine (spec_seLeast.calls k _ _ l0_0 a0_1 t457 _ ?side1 ?side2 A4.out).mono ?_); (case side1 => repeat (first | exact (Kd.C_below HR0_0.out HB.out) | (with_reducible refine Kd.C_alloc ?_ _) | (with_reducible refine Kd.C_drewN ?_ _) | (with_reducible refine Kd.C_drew ?_))); (case side2 => exact HC0_0.out); rintro e w10 ⟨rfl, hb⟩; refine ⟨_, rfl, ?_⟩; have n0_ := ak_ (blk_below (pk BK455.out) hb); have n1_ := ak_ (bs_ (by repeat (first | exact HB.out | apply ba_ | apply bN_ | apply b1_ | refine below_set ?_ GE455.out)) hb); clear BK455; clear HB; have BK455 := n0_; have HB := n1_; clear n0_ n1_; (try clear hb); (try clear hb2); (try clear hk); (try clear hi)))
   go_ret2
   exact ⟨by first | rfl | (simp [errW_none, errW_some] <;> rfl) | (simp [*, errW_none, errW_some] <;> rfl), by repeat (first | exact HB.out | apply ba_ | apply bN_ | apply b1_ | refine below_set ?_ GE455.out)⟩
  ·
   rw [if_neg c5] at H
   have c5b0 : decide (t457 < 0) = false := decide_eq_false c5
   clear c5
   replace H := Option.bind_eq_some_iff.mp H
   obtain ⟨⟨t458, t459⟩, A110, H⟩ := H
   replace H : (some (t458, true)) = some (r1, r2) := H
   have A11 := ak_ A110
   clear A110
   simp only [Option.some.injEq, Prod.mk.injEq] at H
   obtain ⟨rfl, rfl⟩ := H
   go_enter Try.func14, Try.ntmps14
   go_wp2_with (first | ((with_reducible refine gate_dst (N := 1) rfl ?_); refine box_event ?hg (N := 1) ?hd (cs := #[.slice A0_0 l0_0.length c0_0, .int .i64 a0_1]) (t := 34) ?hr ?_; (case hd => rfl); (case hg => rfl); (case hr => go_simp <;> rfl); intro gb455 hg w12 hbox hb; have n0_ := ak_ (bs_ (bb_ HB.out) hb); have n1_ := ak_ (hbox); have n2_ := ak_ ((by rw [hg]; exact (bz_ (bb_ HB.out)) : w.heap.size ≤ gb455)); have n3_ := n2_; clear HB; have HB := n0_; have BK455 := n1_; have GW455 := n2_; have GE455 := n3_; clear n0_ n1_ n2_ n3_; clear hb hbox hg; have hcz13_0 : w12.cell? ⟨gb455, 0, none⟩ = some (.slice A0_0 l0_0.length c0_0) := (blk_cell BK455.out 0).trans rfl; have hcz13_1 : w12.cell? ⟨gb455, 1, none⟩ = some (.int .i64 a0_1) := (blk_cell BK455.out 1).trans rfl; have hfz13_0 := blk_frozen BK455.out 0; have hfz13_1 := blk_frozen BK455.out 1) | ((with_reducible refine gate_callee (f := 45) rfl ?_); refine goesL_ (some 7) rfl rfl Try.func45 (by kernel_rfl) rfl #[.agg #[.slice A0_0 l0_0.length c0_0, .int .i64 a0_1]] rfl (by first | rfl | (simp only [map_toArray, map_cons, map_nil]; try rfl)) ?_; (with_reducible refine (spec_paGood.calls k _ _ l0_0 a0_1 true _ ?side1 ?side2 A2.out).mono ?_); (case side1 => repeat (first | exact (Kd.C_below HR0_0.out HB.out) | (with_reducible refine Kd.C_alloc ?_ _) | (with_reducible refine Kd.C_drewN ?_ _) | (with_reducible refine Kd.C_drew ?_))); (case side2 => exact HC0_0.out); rintro e w14 ⟨rfl, hb⟩; refine ⟨_, rfl, ?_⟩; have n0_ := ak_ (blk_below (pk BK455.out) hb); have n1_ := ak_ (bs_ (by repeat (first | exact HB.out | apply ba_ | apply bN_ | apply b1_ | refine below_set ?_ GE455.out)) hb); clear BK455; clear HB; have BK455 := n0_; have HB := n1_; clear n0_ n1_; (try clear hb); (try clear hb2); (try clear hk); (try clear hi); have hcz15_0 : w14.cell? ⟨gb455, 0, none⟩ = some (.slice A0_0 l0_0.length c0_0) := (blk_cell BK455.out 0).trans rfl; have hcz15_1 : w14.cell? ⟨gb455, 1, none⟩ = some (.int .i64 a0_1) := (blk_cell BK455.out 1).trans rfl; have hfz15_0 := blk_frozen BK455.out 0; have hfz15_1 := blk_frozen BK455.out 1) | ((with_reducible refine gate_callee (f := 46) rfl ?_); refine goesL_ (some 10) rfl rfl Try.func46 (by kernel_rfl) rfl #[.agg #[.slice A0_0 l0_0.length c0_0, .int .i64 a0_1]] rfl (by first | rfl | (simp only [map_toArray, map_cons, map_nil]; try rfl)) ?_; (with_reducible refine (spec_seLeast.calls k _ _ l0_0 a0_1 t457 _ ?side1 ?side2 A4.out).mono ?_); (case side1 => repeat (first | exact (Kd.C_below HR0_0.out HB.out) | (with_reducible refine Kd.C_alloc ?_ _) | (with_reducible refine Kd.C_drewN ?_ _) | (with_reducible refine Kd.C_drew ?_))); (case side2 => exact HC0_0.out); rintro e w16 ⟨rfl, hb⟩; refine ⟨_, rfl, ?_⟩; have n0_ := ak_ (blk_below (pk BK455.out) hb); have n1_ := ak_ (bs_ (by repeat (first | exact HB.out | apply ba_ | apply bN_ | apply b1_ | refine below_set ?_ GE455.out)) hb); clear BK455; clear HB; have BK455 := n0_; have HB := n1_; clear n0_ n1_; (try clear hb); (try clear hb2); (try clear hk); (try clear hi); have hcz17_0 : w16.cell? ⟨gb455, 0, none⟩ = some (.slice A0_0 l0_0.length c0_0) := (blk_cell BK455.out 0).trans rfl; have hcz17_1 : w16.cell? ⟨gb455, 1, none⟩ = some (.int .i64 a0_1) := (blk_cell BK455.out 1).trans rfl; have hfz17_0 := blk_frozen BK455.out 0; have hfz17_1 := blk_frozen BK455.out 1) | ((with_reducible refine gate_callee (f := 47) rfl ?_); refine goesL_ (some 14) rfl rfl Try.func47 (by kernel_rfl) rfl #[.agg #[.slice A0_0 l0_0.length c0_0, .int .i64 a0_1]] rfl (by first | rfl | (simp only [map_toArray, map_cons, map_nil]; try rfl)) ?_; (with_reducible refine (spec_seCount.calls k _ _ l0_0 a0_1 t458 t459 _ ?side1 ?side2 A11.out).mono ?_); (case side1 => repeat (first | exact (Kd.C_below HR0_0.out HB.out) | (with_reducible refine Kd.C_alloc ?_ _) | (with_reducible refine Kd.C_drewN ?_ _) | (with_reducible refine Kd.C_drew ?_))); (case side2 => exact HC0_0.out); rintro e w18 ⟨rfl, hb⟩; refine ⟨_, rfl, ?_⟩; have n0_ := ak_ (blk_below (pk BK455.out) hb); have n1_ := ak_ (bs_ (by repeat (first | exact HB.out | apply ba_ | apply bN_ | apply b1_ | refine below_set ?_ GE455.out)) hb); clear BK455; clear HB; have BK455 := n0_; have HB := n1_; clear n0_ n1_; (try clear hb); (try clear hb2); (try clear hk); (try clear hi)))
   go_ret2
   exact ⟨by first | rfl | (simp [errW_none, errW_some] <;> rfl) | (simp [*, errW_none, errW_some] <;> rfl), by repeat (first | exact HB.out | apply ba_ | apply bN_ | apply b1_ | refine below_set ?_ GE455.out)⟩
 ·
  replace c3 := Bool.eq_false_iff.mpr c3
  subst c3
  have H1 : (some (0, false)) = some (r1, r2) := by rw [if_neg (show ¬ (false = true) by decide)] at H; exact H
  clear H
  have H := H1
  clear H1
  simp only [Option.some.injEq, Prod.mk.injEq] at H
  obtain ⟨rfl, rfl⟩ := H
  go_enter Try.func14, Try.ntmps14
  go_wp2_with (first | ((with_reducible refine gate_dst (N := 1) rfl ?_); refine box_event ?hg (N := 1) ?hd (cs := #[.slice A0_0 l0_0.length c0_0, .int .i64 a0_1]) (t := 34) ?hr ?_; (case hd => rfl); (case hg => rfl); (case hr => go_simp <;> rfl); intro gb455 hg w19 hbox hb; have n0_ := ak_ (bs_ (bb_ HB.out) hb); have n1_ := ak_ (hbox); have n2_ := ak_ ((by rw [hg]; exact (bz_ (bb_ HB.out)) : w.heap.size ≤ gb455)); have n3_ := n2_; clear HB; have HB := n0_; have BK455 := n1_; have GW455 := n2_; have GE455 := n3_; clear n0_ n1_ n2_ n3_; clear hb hbox hg; have hcz20_0 : w19.cell? ⟨gb455, 0, none⟩ = some (.slice A0_0 l0_0.length c0_0) := (blk_cell BK455.out 0).trans rfl; have hcz20_1 : w19.cell? ⟨gb455, 1, none⟩ = some (.int .i64 a0_1) := (blk_cell BK455.out 1).trans rfl; have hfz20_0 := blk_frozen BK455.out 0; have hfz20_1 := blk_frozen BK455.out 1) | ((with_reducible refine gate_callee (f := 45) rfl ?_); refine goesL_ (some 7) rfl rfl Try.func45 (by kernel_rfl) rfl #[.agg #[.slice A0_0 l0_0.length c0_0, .int .i64 a0_1]] rfl (by first | rfl | (simp only [map_toArray, map_cons, map_nil]; try rfl)) ?_; (with_reducible refine (spec_paGood.calls k _ _ l0_0 a0_1 false _ ?side1 ?side2 A2.out).mono ?_); (case side1 => repeat (first | exact (Kd.C_below HR0_0.out HB.out) | (with_reducible refine Kd.C_alloc ?_ _) | (with_reducible refine Kd.C_drewN ?_ _) | (with_reducible refine Kd.C_drew ?_))); (case side2 => exact HC0_0.out); rintro e w21 ⟨rfl, hb⟩; refine ⟨_, rfl, ?_⟩; have n0_ := ak_ (blk_below (pk BK455.out) hb); have n1_ := ak_ (bs_ (by repeat (first | exact HB.out | apply ba_ | apply bN_ | apply b1_ | refine below_set ?_ GE455.out)) hb); clear BK455; clear HB; have BK455 := n0_; have HB := n1_; clear n0_ n1_; (try clear hb); (try clear hb2); (try clear hk); (try clear hi)))
  go_ret2
  exact ⟨by first | rfl | (simp [errW_none, errW_some] <;> rfl) | (simp [*, errW_none, errW_some] <;> rfl), by repeat (first | exact HB.out | apply ba_ | apply bN_ | apply b1_ | refine below_set ?_ GE455.out)⟩
def laws_toIntS.l0 : Nat → List Int → List Int → Int → Option (List Int)
 | 0, _, _, _ => none
 | k + 1, x0, x3, x4 => if x4 < (x0.length : Int) then (if 0 ≤ x4 then (if x4 < (x3.length : Int) then (laws_toIntS.l0 k x0 (x3.set (x4 : Int).toNat (rd x0 x4)) (wrap64 (x4 + 1))) else (none)) else (none)) else (some x3)
def laws_toIntS.f (k : Nat) (l0 : List Int) : Option (List Int) := if 0 ≤ (l0.length : Int) then (if ((l0.length : Int) : Int).toNat ≤ 35184372088832 then (laws_toIntS.l0 k l0 (List.replicate ((l0.length : Int) : Int).toNat 0) 0) else (none)) else (none)
theorem laws_toIntS.mono_l : ∀ k, (∀ y0 y1 y2, LeO (laws_toIntS.l0 k y0 y1 y2) (laws_toIntS.l0 (k + 1) y0 y1 y2))
 | 0 => fun _ _ _ r h => by simp [laws_toIntS.l0] at h
 | k + 1 => by
  have ih0 := laws_toIntS.mono_l k
  ·intro y0 y1 y2
   unfold laws_toIntS.l0
   repeat' first
   | (with_reducible first | exact ih0 _ _ _ | exact LeO.refl _ | exact LeO.none _ | refine LeO.ite ?_ ?_ | refine LeO.bind ?_ (fun _ => ?_))
   | exact ih0 _ _ _
   | exact LeO.none _
   | refine LeO.ite ?_ ?_
   | refine LeO.bind ?_ (fun _ => ?_)
theorem laws_toIntS.mono : ∀ a0 k, LeO (laws_toIntS.f k a0) (laws_toIntS.f (k + 1) a0) := by
 intro a0 k
 have ih0 := laws_toIntS.mono_l k
 unfold laws_toIntS.f
 repeat' first
  | (with_reducible first | exact ih0 _ _ _ | exact LeO.refl _ | exact LeO.none _ | refine LeO.ite ?_ ?_ | refine LeO.bind ?_ (fun _ => ?_))
  | exact ih0 _ _ _
  | exact LeO.none _
  | refine LeO.ite ?_ ?_
  | refine LeO.bind ?_ (fun _ => ?_)
theorem laws_toIntS.calls (k : Nat) (A0 : Option Addr) (c0 : Nat) (l0 : List Int) (r : List Int) (w : World) (hr0 : Kd.C (Kd.int .i64) w A0 l0.length l0) (hc0 : l0.length ≤ c0) (h : laws_toIntS.f k l0 = some r) :
  Calls Try.prog 48 #[.slice A0 l0.length c0] w fun e w' => ∃ v0_ : Value, e = .returned (v0_) ∧ Kd.R (Kd.int .i64) 3 w' w.heap.size (fun _ => True) v0_ r ∧ Below w.heap.size w w' := by
 have HR0 := ak_ hr0
 have HC0 := ak_ hc0
 clear hr0 hc0
 have HB := ak_ (Below.refl w.heap.size w)
 have H : (if 0 ≤ (l0.length : Int) then (if ((l0.length : Int) : Int).toNat ≤ 35184372088832 then (laws_toIntS.l0 k l0 (List.replicate ((l0.length : Int) : Int).toNat 0) 0) else (none)) else (none)) = some r := h
 clear h
 by_cases c2 : 0 ≤ (l0.length : Int)
 ·
  rw [if_pos c2] at H
  have c2b0 := eq_true c2
  have c2b1 : decide (0 ≤ (l0.length : Int)) = true := decide_eq_true c2
  clear c2
  by_cases c3 : ((l0.length : Int) : Int).toNat ≤ 35184372088832
  ·
   rw [if_pos c3] at H
   have c3b0 := eq_true c3
   have c3b1 : decide (((l0.length : Int) : Int).toNat ≤ 35184372088832) = true := decide_eq_true c3
   clear c3
   obtain ⟨y460, hy460⟩ : ∃ y_ : List Int, y_ = (List.replicate ((l0.length : Int) : Int).toNat 0) := ⟨_, rfl⟩
   replace H : (laws_toIntS.l0 k l0 y460 0) = some r := by first | (rw [hy460]; exact H) | exact H
   have Ny460 := ak_ hy460
   clear hy460
   have H' := ak_ H
   clear H
   go_enter Try.func48, Try.ntmps48
   go_wp2_with (first | ((with_reducible refine gate_dst (N := 7) rfl ?_); refine Kd.R_make (Kd.int .i64) _ 3 rfl (N := 7) rfl 29 _ _ rfl (l0.length : Int) rfl rfl Try.underlying29 (.int .i64 0) 8 info3 rfl (by decide) (by omega) 0 (ok := fun _ => True) (okp := fun _ => True) rfl (fun _ hk => hk) trivial (odt_ (by assumption)) (Nat.le_trans (Nat.mul_le_mul_right _ (odt_ (by assumption) : (l0.length : Int).toNat ≤ 35184372088832)) (by omega)) (Below.refl _ _) (Nat.le_refl _) ?_; intro v461 w4 ho5 hb hg_ hnew_; clear hg_ hnew_; (first | rw [← Ny460.out] at ho5 | (simp only [Int.reduceToNat] at ho5; rw [← Ny460.out] at ho5)); have n0_ := ak_ (Kd.R_lower ho5 (bz_ (bb_ HB.out))); have n1_ := ak_ (bs_ (bb_ HB.out) hb); clear HB; have HO462 := n0_; have HB := n1_; clear n0_ n1_; clear hb ho5))
   go_loopg [4] k (fun kq v4 w' => ∃ (x3_1 : List Int) (x4_1 : Int), v4 = .int .i64 x4_1 ∧ Aside0 (laws_toIntS.l0 kq l0 x3_1 x4_1 = some r) ∧ Aside0 (kq ≤ k) ∧ Aside0 (Kd.R (Kd.int .i64) 3 w' w.heap.size (fun _ => True) v461 x3_1) ∧ Aside0 (Below w.heap.size w w'))
   case atStart => exact ⟨(y460), (0), (by first | rfl | (simp; done) | (simp [*]; done)), H', ⟨Nat.le_refl _⟩, ⟨Kd.pR HO462.out⟩, ⟨bb_ HB.out⟩⟩
   case round =>
    clear H'
    try clear c2
    try clear c2b0
    try clear c2b1
    try clear p2
    try clear c3
    try clear c3b0
    try clear c3b1
    try clear c4
    obtain ⟨x3_1, x4_1, rfl, HA, HK1, HO_3, HB⟩ := hrel
    cases gk with
    | zero => exact absurd HA.out (by simp [laws_toIntS.l0])
    | succ k1 =>
     have H := HA.out
     clear HA
     simp only [laws_toIntS.l0] at H
     by_cases c6 : x4_1 < (l0.length : Int)
     ·
      rw [if_pos c6] at H
      have c6b0 : decide (x4_1 < (l0.length : Int)) = true := decide_eq_true c6
      clear c6
      by_cases c7 : 0 ≤ x4_1
      ·
       rw [if_pos c7] at H
       have c7b0 : decide (0 ≤ x4_1) = true := decide_eq_true c7
       clear c7
       by_cases c8 : x4_1 < (x3_1.length : Int)
       ·
        rw [if_pos c8] at H
        have c8b0 : decide (x4_1 < (x3_1.length : Int)) = true := decide_eq_true c8
        clear c8
        obtain ⟨y464, hy464⟩ : ∃ y_ : List Int, y_ = (x3_1.set (x4_1 : Int).toNat (rd l0 x4_1)) := ⟨_, rfl⟩
        replace H : (laws_toIntS.l0 k1 l0 y464 (wrap64 (x4_1 + 1))) = some r := by first | (rw [hy464]; exact H) | exact H
        have Ny464 := ak_ hy464
        clear hy464
        have H' := ak_ H
        clear H
        have p463 : 0 ≤ (x4_1 : Int) := odt_ (by assumption)
        have q463 : x4_1 < (l0.length : Int) := odt_ (by assumption)
        obtain ⟨ad463, e463, hx463_0⟩ := Kd.at_int HR0.out x4_1 p463 q463
        cases e463
        try replace hx463_0 := (HB.out.cell (World.block_lt_of_cell? w _ hx463_0)).trans hx463_0
        replace p463 := eq_true p463
        replace q463 := eq_true q463
        have p9 : 0 ≤ (x4_1 : Int) := odt_ (by assumption)
        have q9 : (x4_1 : Int) < ((x3_1.length : Int) : Int) := odt_ (by assumption)
        obtain ⟨go9, co9, eo9, gb9, gl9, cl9, HG9⟩ := Kd.R_form HO_3.out (by omega)
        (first | cases eo9 | (injection eo9 with ea_ en_ ec_; (first | subst ea_ | (injection ea_ with ea_; subst ea_)); subst ec_; clear en_))
        have GB9 := ak_ gb9
        have GG9 := ak_ HG9
        clear gb9 gl9 HG9
        obtain ⟨hx9_0, hf9_0⟩ := Kd.R_celln 0 HO_3.out (x4_1 : Int) p9 q9
        replace p9 := eq_true p9
        replace q9 := eq_true q9
        have HP10 := Kd.R_putg HO_3.out (x4_1 : Int) (rd l0 x4_1)
        go_wp2_with (first | ((with_reducible refine gate_store (t := 3) (p := 20) rfl ?_); refine store_event (t := 3) (p := 20) (v := ?vo_w11) (w1 := (wr.setCell ⟨go9, (x4_1 : Int).toNat, none⟩ (.int .i64 (rd l0 x4_1)))) ?hg ?ho ?hn ?hr ?_; (case ho => rfl); (case hg => rfl); (case hn => rfl); (case hr => go_simp <;> rfl); intro w11 hw; have hg : wr.grownBy w11 (some go9) := (by rw [hw]; exact HP10.2); have hp_ : Kd.R (Kd.int .i64) 3 w11 w.heap.size (fun _ => True) (.slice (some ⟨go9, 0, none⟩) x3_1.length co9) y464 := (by rw [hw, Ny464.out]; exact HP10.1); clear HP10; have n0_ := ak_ (hp_); have n1_ := ak_ ((by rw [hw]; exact below_set (HB.out) GB9.out : Below w.heap.size w w11)); clear HO_3; clear HB; have HO_3 := n0_; have HB := n1_; clear n0_ n1_; clear hg hw hp_))
        go_roundg k1
        case measure => have := HK1.out; omega
        case rel => exact ⟨(y464), (wrap64 (x4_1 + 1)), (by first | rfl | (simp; done) | (simp [*]; done)), H', ⟨by have := HK1.out; omega⟩, ⟨Kd.pR HO_3.out⟩, ⟨bb_ HB.out⟩⟩
       ·
        rw [if_neg c8] at H
        exact absurd H (by simp)
      ·
       rw [if_neg c7] at H
       exact absurd H (by simp)
     ·
      rw [if_neg c6] at H
      have c6b0 : decide (x4_1 < (l0.length : Int)) = false := decide_eq_false c6
      clear c6
      obtain rfl := Option.some.inj H
      go_wp2
      go_ret
      exact ⟨_, by first | rfl | (simp [errW_none, errW_some] <;> rfl) | (simp [*, errW_none, errW_some] <;> rfl), by (with_reducible repeat (first | apply Kd.R_alloc | apply Kd.R_drewN | apply Kd.R_drew)); exact HO_3.out, bb_ HB.out⟩
  ·
   rw [if_neg c3] at H
   exact absurd H (by simp)
 ·
  rw [if_neg c2] at H
  exact absurd H (by simp)
def laws_toParty.f (k : Nat) (l0_0 : List Int) (a0_1 : Int) : Option (List Int × Int) := (laws_toIntS.f k l0_0).bind fun t468 => (some (t468, a0_1))
theorem laws_toParty.mono : ∀ a0 a1 k, LeO (laws_toParty.f k a0 a1) (laws_toParty.f (k + 1) a0 a1) := by
 intro a0 a1 k
 unfold laws_toParty.f
 repeat' first
  | (with_reducible first | exact laws_toIntS.mono _ _ | exact LeO.refl _ | exact LeO.none _ | refine LeO.ite ?_ ?_ | refine LeO.bind ?_ (fun _ => ?_))
  | exact laws_toIntS.mono _ _
  | exact LeO.none _
  | refine LeO.ite ?_ ?_
  | refine LeO.bind ?_ (fun _ => ?_)
theorem laws_toParty.calls (k : Nat) (A0_0 : Option Addr) (c0_0 : Nat) (l0_0 : List Int) (a0_1 : Int) (r1 : List Int) (r2 : Int) (w : World) (hr0_0 : Kd.C (Kd.int .i64) w A0_0 l0_0.length l0_0) (hc0_0 : l0_0.length ≤ c0_0) (h : laws_toParty.f k l0_0 a0_1 = some (r1, r2)) :
  Calls Try.prog 15 #[.agg #[.slice A0_0 l0_0.length c0_0, .int .i64 a0_1]] w fun e w' => ∃ v0_ : Value, e = .returned (.agg #[v0_, .int .i64 r2]) ∧ Kd.R (Kd.int .i64) 3 w' w.heap.size (fun _ => True) v0_ r1 ∧ Below w.heap.size w w' := by
 have hu31 := Try.underlying31
 have hu34 := Try.underlying34
 have HR0_0 := ak_ hr0_0
 have HC0_0 := ak_ hc0_0
 clear hr0_0 hc0_0
 have HB := ak_ (Below.refl w.heap.size w)
 have H : ((laws_toIntS.f k l0_0).bind fun t468 => (some (t468, a0_1))) = some (r1, r2) := h
 clear h
 replace H := Option.bind_eq_some_iff.mp H
 obtain ⟨t468, A20, H⟩ := H
 replace H : (some (t468, a0_1)) = some (r1, r2) := H
 have A2 := ak_ A20
 clear A20
 simp only [Option.some.injEq, Prod.mk.injEq] at H
 obtain ⟨rfl, rfl⟩ := H
 go_enter Try.func15, Try.ntmps15
 go_wp2_with (first | ((with_reducible refine gate_dst (N := 1) rfl ?_); refine box_event ?hg (N := 1) ?hd (cs := #[.slice A0_0 l0_0.length c0_0, .int .i64 a0_1]) (t := 31) ?hr ?_; (case hd => rfl); (case hg => rfl); (case hr => go_simp <;> rfl); intro gb465 hg w3 hbox hb; have n0_ := ak_ (bs_ (bb_ HB.out) hb); have n1_ := ak_ (hbox); have n2_ := ak_ ((by rw [hg]; exact (bz_ (bb_ HB.out)) : w.heap.size ≤ gb465)); have n3_ := n2_; clear HB; have HB := n0_; have BK465 := n1_; have GW465 := n2_; have GE465 := n3_; clear n0_ n1_ n2_ n3_; clear hb hbox hg) | ((with_reducible refine gate_dst (N := 2) rfl ?_); refine box_event ?hg (N := 2) ?hd (cs := #[.slice none 0 0, .int .i64 0]) (t := 34) ?hr ?_; (case hd => rfl); (case hg => rfl); (case hr => go_simp <;> rfl); intro gb466 hg w4 hbox hb; have n0_ := ak_ (blk_below (pk BK465.out) hb); have n1_ := ak_ (bs_ (by repeat (first | exact HB.out | apply ba_ | apply bN_ | apply b1_ | refine below_set ?_ GE465.out)) hb); have n2_ := ak_ (hbox); have n3_ := ak_ ((by rw [hg]; exact (bz_ (by repeat (first | exact HB.out | apply ba_ | apply bN_ | apply b1_ | refine below_set ?_ GE465.out))) : w.heap.size ≤ gb466)); have n4_ := n3_; have n5_ := ak_ ((by rw [hg]; exact Nat.ne_of_lt (blk_lt (pk BK465.out)) : gb465 ≠ gb466)); have n6_ := ak_ n5_.out.symm; clear BK465; clear HB; have BK465 := n0_; have HB := n1_; have BK466 := n2_; have GW466 := n3_; have GE466 := n4_; have NB465_466 := n5_; have NB466_465 := n6_; clear n0_ n1_ n2_ n3_ n4_ n5_ n6_; clear hb hbox hg) | ((with_reducible refine gate_dst (N := 3) rfl ?_); refine box_event ?hg (N := 3) ?hd (cs := #[.slice none 0 0, .int .i64 0]) (t := 34) ?hr ?_; (case hd => rfl); (case hg => rfl); (case hr => go_simp <;> rfl); intro gb467 hg w5 hbox hb; have n0_ := ak_ (blk_below (pk BK465.out) hb); have n1_ := ak_ (blk_below (pk BK466.out) hb); have n2_ := ak_ (bs_ (by repeat (first | exact HB.out | apply ba_ | apply bN_ | apply b1_ | refine below_set ?_ (Aside0.out (by assumption)))) hb); have n3_ := ak_ (hbox); have n4_ := ak_ ((by rw [hg]; exact (bz_ (by repeat (first | exact HB.out | apply ba_ | apply bN_ | apply b1_ | refine below_set ?_ (Aside0.out (by assumption))))) : w.heap.size ≤ gb467)); have n5_ := n4_; have n6_ := ak_ ((by rw [hg]; exact Nat.ne_of_lt (blk_lt (pk BK465.out)) : gb465 ≠ gb467)); have n7_ := ak_ n6_.out.symm; have n8_ := ak_ ((by rw [hg]; exact Nat.ne_of_lt (blk_lt (pk BK466.out)) : gb466 ≠ gb467)); have n9_ := ak_ n8_.out.symm; clear BK465; clear BK466; clear HB; have BK465 := n0_; have BK466 := n1_; have HB := n2_; have BK467 := n3_; have GW467 := n4_; have GE467 := n5_; have NB465_467 := n6_; have NB467_465 := n7_; have NB466_467 := n8_; have NB467_466 := n9_; clear n0_ n1_ n2_ n3_ n4_ n5_ n6_ n7_ n8_ n9_; clear hb hbox hg; have hnb6 := NB465_466.out; have hnc6 := NB466_465.out; have hnb7 := NB465_467.out; have hnc7 := NB467_465.out; have hcz8_0 : w5.cell? ⟨gb465, 0, none⟩ = some (.slice A0_0 l0_0.length c0_0) := (blk_cell BK465.out 0).trans rfl; have hcz8_1 : w5.cell? ⟨gb465, 1, none⟩ = some (.int .i64 a0_1) := (blk_cell BK465.out 1).trans rfl; have hfz8_0 := blk_frozen BK465.out 0; have hfz8_1 := blk_frozen BK465.out 1) | ((with_reducible refine gate_callee (f := 48) rfl ?_); refine goesL_ (some 6) rfl rfl Try.func48 (by kernel_rfl) rfl #[.slice A0_0 l0_0.length c0_0] rfl (by first | rfl | (simp only [map_toArray, map_cons, map_nil]; try rfl)) ?_; (with_reducible refine (laws_toIntS.calls k _ _ l0_0 t468 _ ?side1 ?side2 A2.out).mono ?_); (case side1 => repeat (first | exact (Kd.C_below HR0_0.out HB.out) | (with_reducible refine Kd.C_alloc ?_ _) | (with_reducible refine Kd.C_drewN ?_ _) | (with_reducible refine Kd.C_drew ?_))); (case side2 => exact HC0_0.out); rintro e w9 ⟨v469, rfl, ho0, hb⟩; refine ⟨_, rfl, ?_⟩; have n0_ := ak_ (Kd.R_lower ho0 (bz_ (by repeat (first | exact HB.out | apply ba_ | apply bN_ | apply b1_ | refine below_set ?_ (Aside0.out (by assumption)))))); have n1_ := ak_ (blk_below (pk BK465.out) hb); have n2_ := ak_ (blk_below (pk BK466.out) hb); have n3_ := ak_ (blk_below (pk BK467.out) hb); have n4_ := ak_ (bs_ (by repeat (first | exact HB.out | apply ba_ | apply bN_ | apply b1_ | refine below_set ?_ (Aside0.out (by assumption)))) hb); clear BK465; clear BK466; clear BK467; clear HB; have HO470 := n0_; have BK465 := n1_; have BK466 := n2_; have BK467 := n3_; have HB := n4_; clear n0_ n1_ n2_ n3_ n4_; (try clear hb); (try clear hb2); (try clear hk); (try clear hi); (try clear ho0); obtain ⟨Ao10, co10, eo10⟩ := Kd.R_slice HO470.out; subst eo10; have hnb11 := NB467_466.out; have hnc11 := NB466_467.out; have hcz12_0 : w9.cell? ⟨gb467, 0, none⟩ = some (.slice none 0 0) := (blk_cell BK467.out 0).trans rfl; have hcz12_1 : w9.cell? ⟨gb467, 1, none⟩ = some (.int .i64 0) := (blk_cell BK467.out 1).trans rfl; have hfz12_0 := blk_frozen BK467.out 0; have hfz12_1 := blk_frozen BK467.out 1; have hcz13_0 : w9.cell? ⟨gb465, 0, none⟩ = some (.slice A0_0 l0_0.length c0_0) := (blk_cell BK465.out 0).trans rfl; have hcz13_1 : w9.cell? ⟨gb465, 1, none⟩ = some (.int .i64 a0_1) := (blk_cell BK465.out 1).trans rfl; have hfz13_0 := blk_frozen BK465.out 0; have hfz13_1 := blk_frozen BK465.out 1; have hcz14_0 : w9.cell? ⟨gb466, 0, none⟩ = some (.slice none 0 0) := (blk_cell BK466.out 0).trans rfl; have hcz14_1 : w9.cell? ⟨gb466, 1, none⟩ = some (.int .i64 0) := (blk_cell BK466.out 1).trans rfl; have hfz14_0 := blk_frozen BK466.out 0; have hfz14_1 := blk_frozen BK466.out 1))
 refine bodyPost_ret (results_cell_row rfl _ _ gb466 34 #[.slice Ao10 t468.length co10, .int .i64 a0_1] (0, 0) _ rfl (by (with_reducible repeat (first | refine kN_ ?_ _ | refine k1_ ?_ | refine ka_ ?_ _)); refine blk_put (cs := #[.slice Ao10 t468.length co10, .int .i64 0]) ?_ 1 _ rfl; (with_reducible repeat (first | refine kN_ ?_ _ | refine k1_ ?_ | refine ka_ ?_ _)); refine blk_put (cs := #[.slice none 0 0, .int .i64 0]) ?_ 0 _ rfl; (with_reducible repeat (first | refine kN_ ?_ _ | refine k1_ ?_ | refine ka_ ?_ _)); refine blk_far ?_ NB466_467.out _; (with_reducible repeat (first | refine kN_ ?_ _ | refine k1_ ?_ | refine ka_ ?_ _)); refine blk_far ?_ NB466_467.out _; exact pk BK466.out) Try.underlying34 rfl (by kernel_rfl)) rfl ?_
 exact ⟨_, by first | rfl | (simp [errW_none, errW_some] <;> rfl) | (simp [*, errW_none, errW_some] <;> rfl), by (with_reducible repeat (first | apply Kd.R_alloc | apply Kd.R_drewN | apply Kd.R_drew)); exact Kd.R_mono (Kd.R_far (p := ⟨gb466, 1, none⟩) (Kd.R_far (p := ⟨gb466, 0, none⟩) (Kd.R_far (p := ⟨gb467, 1, none⟩) (Kd.R_far (p := ⟨gb467, 0, none⟩) (Kd.R_types (Kd.R_types HO470.out BK467.out (by decide)) BK466.out (by decide)) (fun _ hk => hk.1.2) (.slice Ao10 t468.length co10)) (fun _ hk => hk.1.2) (.int .i64 a0_1)) (fun _ hk => hk.2) (.slice Ao10 t468.length co10)) (fun _ hk => hk.2) (.int .i64 a0_1)) (fun _ hk => trivial), by repeat (first | exact HB.out | apply ba_ | apply bN_ | apply b1_ | refine below_set ?_ (Aside0.out (by assumption)))⟩
structure REdge where
 f0 : Int
 f1 : Int
 A : Option Addr
 n : Nat
 c : Nat
def REdge.enc (r : REdge) : List Value := [.int .i64 r.f0, .int .i64 r.f1, .slice r.A r.n r.c]
def zRE : REdge := ⟨0, 0, none, 0, 0⟩
def kre : Kd REdge := Kd.iso (Kd.raw 3) REdge.enc
theorem kre_M (W : World) (base : Nat) (ok : Nat → Prop) (r : REdge) : kre.M W base ok r [.int .i64 r.f0, .int .i64 r.f1, .slice r.A r.n r.c] := ⟨rfl, rfl, by
 intro u hu
 simp only [List.mem_cons, List.not_mem_nil, or_false] at hu
 rcases hu with rfl | rfl | rfl <;> rfl⟩
theorem kre_get {W : World} {base g n cap : Nat} {ok : Nat → Prop} {res : List REdge} (h : kre.R 110 W base ok (.slice (some ⟨g, 0, none⟩) n cap) res) (i : Nat) (hi : i < res.length) :
  W.cell? ⟨g, i * 3, none⟩ = some (.int .i64 res[i].f0) ∧ W.cell? ⟨g, i * 3 + 1, none⟩ = some (.int .i64 res[i].f1) ∧ W.cell? ⟨g, i * 3 + 2, none⟩ = some (.slice res[i].A res[i].n res[i].c) := by
 obtain ⟨ad, c, e, -, hK, hcell⟩ := Kd.C_get (Kd.R_reads' h).2.2 zRE (i : Int) (by omega) (by omega)
 obtain rfl := Option.some.inj e
 rw [Int.toNat_natCast, List.getD_eq_getElem?_getD, List.getElem?_eq_getElem hi] at hK
 obtain rfl := hK.1
 have hsz : kre.sz = 3 := rfl
 refine ⟨?_, ?_, ?_⟩
 ·have h_ := hcell 0 _ rfl
  rw [add_at, hsz, Nat.zero_add, Nat.add_zero, Int.toNat_natCast] at h_; exact h_
 ·have h_ := hcell 1 _ rfl
  rw [add_at, hsz, Nat.zero_add, Int.toNat_natCast] at h_; exact h_
 ·have h_ := hcell 2 _ rfl
  rw [add_at, hsz, Nat.zero_add, Int.toNat_natCast] at h_; exact h_
theorem kre_cc {W : World} {base g n cap : Nat} {ok : Nat → Prop} {res : List REdge} (h : kre.R 110 W base ok (.slice (some ⟨g, 0, none⟩) n cap) res) (i : Nat) (hi : i < res.length) :
  ∃ o : REdge, ∀ j u, ([.int .i64 o.f0, .int .i64 o.f1, .slice o.A o.n o.c] : List Value)[j]? = some u → W.cell? ⟨g, (i : Int).toNat * kre.sz + j, none⟩ = some u := by
 obtain ⟨h0, h1, h2⟩ := kre_get h i hi
 refine ⟨res[i], fun j u hu => ?_⟩
 have e : (i : Int).toNat * kre.sz = i * 3 := rfl
 rw [e]
 rcases j with _ | _ | _ | j
 ·obtain rfl := Option.some.inj hu; exact h0
 ·obtain rfl := Option.some.inj hu; exact h1
 ·obtain rfl := Option.some.inj hu; exact h2
 ·simp at hu
theorem gr_below {w W w' : World} {row : Option Nat} (h : w.grownBy W row) (hb : Below W.heap.size W w') : w.grownBy w' row :=
 ⟨hb.os.trans h.os, hb.tape.trans h.tape, hb.output.trans h.output, Nat.le_trans h.size hb.size, fun k hk hn => (hb.block k (Nat.lt_of_lt_of_le hk h.size)).trans (h.block k hk hn)⟩
theorem gr_gr {w W w' : World} {row : Option Nat} (h : w.grownBy W row) (hb : W.grownBy w' row) : w.grownBy w' row :=
 ⟨hb.os.trans h.os, hb.tape.trans h.tape, hb.output.trans h.output, Nat.le_trans h.size hb.size, fun k hk hn => (hb.block k (Nat.lt_of_lt_of_le hk h.size) hn).trans (h.block k hk hn)⟩
def ixFrom (P : Int → Int → Bool) (i : Int) : List REdge → Int
 | [] => -1
 | r :: rs => if P r.f0 r.f1 = true then i else ixFrom P (i + 1) rs
theorem ix_spec (P : Int → Int → Bool) : ∀ (rs : List REdge) (i : Nat), (ixFrom P (i : Int) rs = -1 ∧ rs.filter (fun r => !P r.f0 r.f1) = rs) ∨ ∃ k, k < rs.length ∧ ixFrom P (i : Int) rs = ((i + k : Nat) : Int) ∧ (rs.take k).filter (fun r => !P r.f0 r.f1) = rs.take k ∧ (rs.take (k + 1)).filter (fun r => !P r.f0 r.f1) = rs.take k
 | [], _ => .inl ⟨rfl, rfl⟩
 | r :: rs, i => by
  by_cases h : P r.f0 r.f1 = true
  ·exact .inr ⟨0, by simp, by simp [ixFrom, h], rfl, by simp [h]⟩
  ·have hf : P r.f0 r.f1 = false := by simpa using h
   rcases ix_spec P rs (i + 1) with ⟨e, ha⟩ | ⟨k, hk, e, ha, hb⟩
   ·refine .inl ⟨?_, by rw [List.filter_cons, hf, ha]; rfl⟩
    show (if P r.f0 r.f1 = true then (i : Int) else ixFrom P ((i : Int) + 1) rs) = -1
    rw [if_neg h]; exact e
   ·refine .inr ⟨k + 1, by simpa using hk, ?_, ?_, ?_⟩
    ·show (if P r.f0 r.f1 = true then (i : Int) else ixFrom P ((i : Int) + 1) rs) = _
     rw [if_neg h, show ((i : Int) + 1) = ((i + 1 : Nat) : Int) from rfl, e]; congr 1; omega
    ·rw [List.take_succ_cons, List.filter_cons, hf, ha]; rfl
    ·rw [List.take_succ_cons, List.filter_cons, hf, hb]; rfl
def REAsk (pn : Nat) (pb : Array Value) (P : Int → Int → Bool) (ok : REdge → Prop) (S : World → Prop) : Prop :=
 ∀ (W : World) (r : REdge), S W → ok r → Calls Try.prog pn (#[.agg #[.int .i64 r.f0, .int .i64 r.f1, .slice r.A r.n r.c]] ++ pb) W fun e w' => e = .returned (.bool (P r.f0 r.f1)) ∧ Below W.heap.size W w'
theorem impl_edge_int_169.calls_re (pn : Nat) (pb : Array Value) (P : Int → Int → Bool) (ok : REdge → Prop) (S : World → Prop) (ep : ∀ args w, (callFunc pn args).run Try.prog w = .ok (.enter pn args) w) (hp : REAsk pn pb P ok S) (w : World) (base : Nat) (okr : Nat → Prop) (v : Value) (res : List REdge)
  (hv : kre.R 110 w base okr v res) (hl : res.length < 1000000) (hok : ∀ r ∈ res, ok r) (hS : ∀ W, Below w.heap.size w W → S W) :
  Calls Try.prog 169 #[v, .func (.func pn) #[] pb] w fun e w' => e = .returned (.int .i64 (ixFrom P 0 res)) ∧ Below w.heap.size w w' := by
 have hu := Try.underlying110
 obtain ⟨A, c, rfl⟩ := Kd.R_slice hv
 have HR := ak_ hv
 have HL := ak_ hl
 have HOK := ak_ hok
 have HS := ak_ hS
 have HP := ak_ hp
 clear hv hl hok hS hp
 go_enter Try.func169, Try.ntmps169
 go_wp2
 go_loopg [5, 8] res.length (fun gg _ s8 wr => ∃ kk : Nat, kk ≤ res.length ∧ res.length - kk ≤ gg ∧ s8 = .int .i64 (kk : Int) ∧ Aside0 (ixFrom P (kk : Int) (res.drop kk) = ixFrom P 0 res) ∧ Aside0 (kre.R 110 wr base okr (.slice A res.length c) res) ∧ Aside0 (Below w.heap.size w wr))
 case atStart => exact ⟨0, Nat.zero_le _, by omega, rfl, ⟨by rw [List.drop_zero]; rfl⟩, ⟨Kd.R_below HR.out (by repeat (first | exact Below.refl _ _ | apply bN_ | apply b1_ | apply ba_))⟩, ⟨(by repeat (first | exact Below.refl _ _ | apply bN_ | apply b1_ | apply ba_))⟩⟩
 case round =>
  clear HR
  obtain ⟨kk, hkk, hg, rfl, H, HR, HB⟩ := hrel
  by_cases hlt : kk < res.length
  ·have q1 : decide ((kk : Int) < (res.length : Int)) = true := decide_eq_true (by omega)
   have q1n : decide (kk < res.length) = true := decide_eq_true hlt
   have q0 : ((0 : Int) ≤ (kk : Int)) = True := eq_true (by omega)
   have q1p : ((kk : Int) < (res.length : Int)) = True := eq_true (by omega)
   obtain ⟨g, cap, ev, -, -, -⟩ := Kd.R_form HR.out (by omega)
   injection ev with eA _ ec
   subst eA
   subst ec
   obtain ⟨hx0, hx1, hx2⟩ := kre_get HR.out kk hlt
   have h := H.out
   rw [List.drop_eq_getElem_cons hlt] at h
   obtain ⟨r, hr⟩ : ∃ r, r = res[kk] := ⟨_, rfl⟩
   rw [← hr] at hx0 hx1 hx2 h
   have HOKr := ak_ (HOK.out r (by rw [hr]; exact List.getElem_mem hlt))
   have hw : IntKind.i64.wrap ((kk : Int) + 1) = ((kk + 1 : Nat) : Int) := by have := HL.out; rw [IntWalk.i64_in _ ⟨by omega, by omega⟩]; omega
   have HG := ak_ (And.intro hg hlt)
   simp only [ixFrom] at h
   clear hr H hkk hg hlt
   cases hP : P r.f0 r.f1
   ·rw [hP] at h
    have H := ak_ h
    clear h
    go_wp2_with (go_at_fn pn; refine (HP.out _ r (HS.out _ (bb_ HB.out)) HOKr.out).mono ?_; rw [hP]; rintro e w16 ⟨rfl, hb⟩; have n0_ := ak_ (Kd.R_below (Kd.pR HR.out) hb); have n1_ := ak_ (bs_ (bb_ HB.out) hb); clear HR HB hb; have HR := n0_; have HB := n1_; clear n0_ n1_)
    go_roundg (res.length - (kk + 1))
    case measure => have := HG.out; omega
    case rel => exact ⟨kk + 1, by have := HG.out; omega, Nat.le_refl _, (by first | rfl | (simp; done)), ⟨by have h_ := H.out; rw [if_neg (by decide)] at h_; exact h_⟩, ⟨Kd.R_below HR.out (by repeat (first | exact Below.refl _ _ | apply bN_ | apply b1_ | apply ba_))⟩, ⟨(bb_ HB.out)⟩⟩
   ·rw [hP, if_pos rfl] at h
    have H := ak_ h
    clear h
    go_wp2_with (go_at_fn pn; refine (HP.out _ r (HS.out _ (bb_ HB.out)) HOKr.out).mono ?_; rw [hP]; rintro e w16 ⟨rfl, hb⟩; have n0_ := ak_ (Kd.R_below (Kd.pR HR.out) hb); have n1_ := ak_ (bs_ (bb_ HB.out) hb); clear HR HB hb; have HR := n0_; have HB := n1_; clear n0_ n1_)
    first | go_ret | go_ret2
    exact ⟨by rw [← H.out]; rfl, (bb_ HB.out)⟩
  ·have q1 : decide ((kk : Int) < (res.length : Int)) = false := decide_eq_false (by omega)
   have q1n : decide (kk < res.length) = false := decide_eq_false hlt
   have h := H.out
   rw [List.drop_of_length_le (by omega)] at h
   have H2 := ak_ h
   clear h H hkk hg hlt
   go_wp2
   first | go_ret | go_ret2
   exact ⟨by rw [← H2.out]; rfl, (bb_ HB.out)⟩
structure DelInv (keep : REdge → Bool) (res cur : List REdge) (i j : Nat) : Prop where
 lt : i < j
 le : j ≤ res.length
 len : cur.length = res.length
 low : cur.take i = (res.take j).filter keep
 high : cur.drop j = res.drop j
theorem DelInv.at_ {keep : REdge → Bool} {res cur : List REdge} {i j : Nat} (h : DelInv keep res cur i j) (hj : j < res.length) : cur[j]'(by have := h.len; omega) = res[j] := by
 have hc : j < cur.length := by have := h.len; omega
 have e := h.high
 rw [List.drop_eq_getElem_cons hc, List.drop_eq_getElem_cons hj] at e
 exact (List.cons.inj e).1
theorem DelInv.skip {keep : REdge → Bool} {res cur : List REdge} {i j : Nat} (h : DelInv keep res cur i j) (hj : j < res.length) (hk : keep res[j] = false) : DelInv keep res cur i (j + 1) where
 lt := Nat.lt_succ_of_lt h.lt
 le := hj
 len := h.len
 low := by rw [List.take_succ_eq_append_getElem hj, List.filter_append, h.low, List.filter_cons, hk]; simp
 high := by rw [← List.drop_drop, h.high, List.drop_drop]
theorem DelInv.keep_ {keep : REdge → Bool} {res cur : List REdge} {i j : Nat} (h : DelInv keep res cur i j) (hj : j < res.length) (hk : keep res[j] = true) : DelInv keep res (cur.set i res[j]) (i + 1) (j + 1) where
 lt := Nat.succ_lt_succ h.lt
 le := hj
 len := by rw [List.length_set]; exact h.len
 low := by
  have hi : i < cur.length := by have := h.len; have := h.lt; omega
  rw [List.take_succ_eq_append_getElem (by rw [List.length_set]; exact hi), List.getElem_set_self, List.take_set_of_le (Nat.le_refl i), h.low, List.take_succ_eq_append_getElem hj, List.filter_append, List.filter_cons, hk]
  rfl
 high := by rw [List.drop_set_of_lt (by have := h.lt; omega), ← List.drop_drop, h.high, List.drop_drop]
theorem impl_edge_int_146.calls (pn : Nat) (pb : Array Value) (P : Int → Int → Bool) (ok : REdge → Prop) (S : World → Prop) (ep : ∀ args w, (callFunc pn args).run Try.prog w = .ok (.enter pn args) w) (hp : REAsk pn pb P ok S) (w w0 : World) (okr : Nat → Prop) (v : Value) (res : List REdge)
  (hb0 : Below w.heap.size w w0) (hv : kre.R 110 w0 w.heap.size okr v res) (hl : res.length < 1000000) (hok : ∀ r ∈ res, ok r) (hS : ∀ W, Below w.heap.size w W → S W) :
  Calls Try.prog 146 #[v, .func (.func pn) #[] pb] w0 fun e w' => ∃ v' : Value, e = .returned v' ∧ kre.R 110 w' w.heap.size okr v' (res.filter fun r => !P r.f0 r.f1) ∧ v'.ownBlock = v.ownBlock ∧ w0.grownBy w' v.ownBlock ∧ Below w.heap.size w w' := by
 have hu := Try.underlying110
 have HIX := ak_ fun (W : World) (h1 : Below w0.heap.size w0 W) => impl_edge_int_169.calls_re pn pb P ok S ep hp W w.heap.size okr v res (Kd.R_below hv h1) hl hok (fun W' h2 => hS W' (below_then hb0 hb0.size (below_then h1 h1.size h2)))
 have HL := ak_ hl
 have HOK := ak_ hok
 have HS := ak_ hS
 have HP := ak_ hp
 have HB := ak_ hb0
 have HR := ak_ hv
 have HGR := ak_ (World.grownBy.refl w0 v.ownBlock)
 have HBX := ak_ (Below.refl w0.heap.size w0)
 rcases ix_spec P res 0 with ⟨e1, hall⟩ | ⟨k0, hk0, e1, ha, hb⟩
 ·have e2 : ixFrom P 0 res = -1 := e1
  have HF := ak_ hall
  rw [e2] at HIX
  clear e1 e2 hall hl hok hS hp hb0 hv
  go_enter Try.func146, Try.ntmps146
  go_wp2_with (go_at_call 169; refine (HIX.out _ (by repeat (first | exact Below.refl _ _ | apply bN_ | apply b1_ | apply ba_))).mono ?_; rintro e w10 ⟨rfl, hb⟩; have n0_ := ak_ (Kd.R_below (Kd.pR HR.out) hb); have n1_ := ak_ (bs_ (bb_ HB.out) hb); have n2_ := ak_ (gr_below HGR.out hb); clear HR HB HGR hb HIX; have HR := n0_; have HB := n1_; have HGR := n2_; clear n0_ n1_ n2_)
  first | go_ret | go_ret2
  exact ⟨v, rfl, by rw [HF.out]; exact Kd.R_below HR.out (by repeat (first | exact Below.refl _ _ | apply bN_ | apply b1_ | apply ba_)), rfl, HGR.out, (bb_ HB.out)⟩
 ·obtain ⟨g, cap, rfl, -, -, -⟩ := Kd.R_form hv (by omega)
  have e2 : ixFrom P 0 res = (k0 : Int) := by have e3 := e1; simp only [Nat.zero_add] at e3; exact e3
  rw [e2] at HIX
  have hne1 : ((k0 : Int) == -1) = false := beq_eq_false_iff_ne.2 (by omega)
  have HI := ak_ (show DelInv (fun r => !P r.f0 r.f1) res res k0 (k0 + 1) from ⟨Nat.lt_succ_self _, hk0, rfl, hb.symm, rfl⟩)
  have hw4 : IntKind.i64.wrap ((k0 : Int) + 1) = ((k0 + 1 : Nat) : Int) := by rw [IntWalk.i64_in _ ⟨by omega, by omega⟩]; omega
  clear e1 e2 ha hb hl hok hS hp hb0 hv hk0
  go_enter Try.func146, Try.ntmps146
  go_wp2_with (go_at_call 169; refine (HIX.out _ (by repeat (first | exact Below.refl _ _ | apply bN_ | apply b1_ | apply ba_))).mono ?_; rintro e w10 ⟨rfl, hb⟩; have n0_ := ak_ (Kd.R_below (Kd.pR HR.out) hb); have n1_ := ak_ (bs_ (bb_ HB.out) hb); have n2_ := ak_ (gr_below HGR.out hb); clear HR HB HGR hb HIX; have HR := n0_; have HB := n1_; have HGR := n2_; clear n0_ n1_ n2_)
  go_loopg [5, 6] res.length (fun gg v5 v6 wr => ∃ (i j : Nat) (cur : List REdge), v5 = .int .i64 (i : Int) ∧ v6 = .int .i64 (j : Int) ∧ res.length - j ≤ gg ∧ Aside0 (DelInv (fun r => !P r.f0 r.f1) res cur i j) ∧ Aside0 (kre.R 110 wr w.heap.size okr (.slice (some ⟨g, 0, none⟩) res.length cap) cur) ∧ Aside0 (w0.grownBy wr (some g)) ∧ Aside0 (Below w.heap.size w wr))
  case atStart => exact ⟨k0, k0 + 1, res, rfl, (by first | rfl | (simp; done)), by omega, HI, ⟨Kd.R_below HR.out (by repeat (first | exact Below.refl _ _ | apply bN_ | apply b1_ | apply ba_))⟩, ⟨HGR.out⟩, ⟨(bb_ HB.out)⟩⟩
  case round =>
   clear HI HR HGR HB HBX hw4 hne1
   obtain ⟨i, j, cur, rfl, rfl, hg, HI, HR, HGR, HB⟩ := hrel
   have i0 : ((0 : Int) ≤ (i : Int)) = True := eq_true (by omega)
   have j0 : ((0 : Int) ≤ (j : Int)) = True := eq_true (by omega)
   have i1 : ((i : Int) < (res.length : Int)) = True := eq_true (by have := HI.out.lt; have := HI.out.le; omega)
   have hwi : IntKind.i64.wrap ((i : Int) + 1) = ((i + 1 : Nat) : Int) := by have := HI.out.lt; have := HI.out.le; have := HL.out; rw [IntWalk.i64_in _ ⟨by omega, by omega⟩]; omega
   have hwj : IntKind.i64.wrap ((j : Int) + 1) = ((j + 1 : Nat) : Int) := by have := HI.out.lt; have := HI.out.le; have := HL.out; rw [IntWalk.i64_in _ ⟨by omega, by omega⟩]; omega
   by_cases hlt : j < res.length
   ·have j1 : decide ((j : Int) < (res.length : Int)) = true := decide_eq_true (by omega)
    have j1n : decide (j < res.length) = true := decide_eq_true hlt
    have j1p : ((j : Int) < (res.length : Int)) = True := eq_true (by omega)
    obtain ⟨hx0, hx1, hx2⟩ := kre_get HR.out j (by have := HI.out.len; omega)
    obtain ⟨r, hr⟩ : ∃ r, r = res[j] := ⟨_, rfl⟩
    rw [HI.out.at_ hlt, ← hr] at hx0 hx1 hx2
    have HOKr := ak_ (HOK.out r (by rw [hr]; exact List.getElem_mem hlt))
    have HG := ak_ (And.intro hg hlt)
    have HIN := ak_ (And.intro (fun (h : P r.f0 r.f1 = true) => HI.out.skip hlt (by rw [← hr]; simp [h])) (fun (h : P r.f0 r.f1 = false) => (by have h_ := HI.out.keep_ hlt (by rw [← hr]; simp [h]); rw [← hr] at h_; exact h_ : DelInv (fun r => !P r.f0 r.f1) res (cur.set i r) (i + 1) (j + 1))))
    clear hg hlt hr
    go_upto_region 8 with (fail)
    obtain ⟨w7, hw7⟩ : ∃ W, W = wr.alloc (.cells #[.int .i64 r.f0, .int .i64 r.f1, .slice r.A r.n r.c] 110) := ⟨_, rfl⟩
    have hb : Below wr.heap.size wr w7 := (by rw [hw7]; exact ba_ (Below.refl _ _) _)
    have hbk : w7.heap[wr.heap.size]? = some (.cells #[.int .i64 r.f0, .int .i64 r.f1, .slice r.A r.n r.c] 110 (0, 0)) := (by rw [hw7]; exact blk_new wr _)
    rw [← hw7]
    clear hw7 hx0 hx1 hx2
    have n0_ := ak_ (Kd.R_below HR.out hb); have n1_ := ak_ (bs_ HB.out hb); have n2_ := ak_ (gr_below HGR.out hb); clear HR HB HGR hb; have HR := n0_; have HB := n1_; have HGR := n2_; clear n0_ n1_ n2_
    obtain ⟨gb7, hg7⟩ : ∃ g, g = wr.heap.size := ⟨_, rfl⟩
    rw [← hg7] at hbk ⊢
    have BK7 := ak_ hbk
    clear hbk hg7
    have hz0 := (blk_cell BK7.out 0)
    have hz1 := (blk_cell BK7.out 1)
    have hz2 := (blk_cell BK7.out 2)
    simp at hz0
    simp at hz1
    simp at hz2
    cases hP : P r.f0 r.f1
    ·have HI2 := ak_ (HIN.out.2 hP)
     have HII := ak_ (And.intro HI.out.lt HI.out.le)
     clear HIN
     go_wp2_with (first | (go_at_fn pn; refine (HP.out _ r (HS.out _ (bb_ HB.out)) HOKr.out).mono ?_; rw [hP]; rintro e w28 ⟨rfl, hb⟩; have n0_ := ak_ (Kd.R_below HR.out hb); have n1_ := ak_ (bs_ HB.out hb); have n2_ := ak_ (gr_below HGR.out hb); have n3_ := ak_ (blk_below BK7.out hb); clear HR HB HGR BK7 hb; have HR := n0_; have HB := n1_; have HGR := n2_; have BK7 := n3_; clear n0_ n1_ n2_ n3_; have hz0 := (blk_cell BK7.out 0); have hz1 := (blk_cell BK7.out 1); have hz2 := (blk_cell BK7.out 2); simp at hz0; simp at hz1; simp at hz2) | ((with_reducible refine gate_store (t := 110) (p := 33) rfl ?_); go_loud (obtain ⟨o, hcc⟩ := kre_cc HR.out i (by have := HI.out.len; have := HII.out; omega); refine Kd.R_store kre (w0 := w) (g := g) (n := res.length) (cap := cap) (o' := i * 3) w.heap.size rfl rfl 110 (.tmp 33) (.tmp 32) rfl 110 (i : Int) 0 cur r (.agg #[.int .i64 r.f0, .int .i64 r.f1, .slice r.A r.n r.c]) [.int .i64 r.f0, .int .i64 r.f1, .slice r.A r.n r.c] [.int .i64 o.f0, .int .i64 o.f1, .slice o.A o.n o.c] okr (fun _ => False) ?sa ?so ?sx ?su ?st ?s1 HR.out ?s0 ?si rfl hcc ?sj ?sm (fun _ hk => hk.elim) HB.out ?_; (case sa => rfl); (case so => rfl); (case sx => rfl); (case su => rfl); (case st => kernel_rfl); (case s1 => exact (kre_M wr w.heap.size (fun _ => True) r).2.2); (case s0 => omega); (case si => have := HII.out; omega); (case sj => exact Nat.le_refl 3); (case sm => exact kre_M _ _ _ r); intro w33 hr hb hg; have n0_ := ak_ hr; have n1_ := ak_ hb; have n2_ := ak_ (gr_gr HGR.out hg); clear HR HB HGR hr hb hg hcc; have HR := n0_; have HB := n1_; have HGR := n2_; clear n0_ n1_ n2_)))
     go_roundg (res.length - (j + 1))
     case measure => have := HG.out; omega
     case rel => exact ⟨i + 1, j + 1, cur.set i r, (by first | rfl | (simp; done)), (by first | rfl | (simp; done)), Nat.le_refl _, HI2, ⟨Kd.R_below HR.out (by repeat (first | exact Below.refl _ _ | apply bN_ | apply b1_ | apply ba_))⟩, ⟨HGR.out⟩, ⟨(bb_ HB.out)⟩⟩
    ·have HI2 := ak_ (HIN.out.1 hP)
     clear HIN
     go_wp2_with (go_at_fn pn; refine (HP.out _ r (HS.out _ (bb_ HB.out)) HOKr.out).mono ?_; rw [hP]; rintro e w28 ⟨rfl, hb⟩; have n0_ := ak_ (Kd.R_below HR.out hb); have n1_ := ak_ (bs_ HB.out hb); have n2_ := ak_ (gr_below HGR.out hb); have n3_ := ak_ (blk_below BK7.out hb); clear HR HB HGR BK7 hb; have HR := n0_; have HB := n1_; have HGR := n2_; have BK7 := n3_; clear n0_ n1_ n2_ n3_; have hz0 := (blk_cell BK7.out 0); have hz1 := (blk_cell BK7.out 1); have hz2 := (blk_cell BK7.out 2); simp at hz0; simp at hz1; simp at hz2)
     go_roundg (res.length - (j + 1))
     case measure => have := HG.out; omega
     case rel => exact ⟨i, j + 1, cur, (by first | rfl | (simp; done)), (by first | rfl | (simp; done)), Nat.le_refl _, HI2, ⟨Kd.R_below HR.out (by repeat (first | exact Below.refl _ _ | apply bN_ | apply b1_ | apply ba_))⟩, ⟨HGR.out⟩, ⟨(bb_ HB.out)⟩⟩
   ·have j1 : decide ((j : Int) < (res.length : Int)) = false := decide_eq_false (by omega)
    have j1n : decide (j < res.length) = false := decide_eq_false hlt
    have hlow := HI.out.low
    have hje : j = res.length := by have := HI.out.le; omega
    rw [hje, List.take_length] at hlow
    have HLOW := ak_ hlow
    have HT := ak_ (Kd.R_take HR.out (m := i) (by have := HI.out.len; have := HI.out.lt; have := HI.out.le; omega))
    obtain ⟨hn1, hn2, -⟩ := Kd.R_reads' HR.out
    have hq1 : i ≤ res.length := by have := HI.out.lt; have := HI.out.le; omega
    have hq2 : (cap = i) = False := by have := HI.out.lt; have := HI.out.le; simp; omega
    have hq3 : res.length ≤ cap := hn2
    have HII := ak_ (And.intro HI.out.lt (And.intro HI.out.le hn2))
    clear hlow hje hn1 hn2 hlt hg HR HI
    go_wp2_with (((with_reducible refine gate_builtin (b := .clear) (xs := #[.tmp 38]) rfl ?_); refine Kd.R_clear kre (w0 := w) w.heap.size ?hgd (.tmp 38) 130 110 ?ho Try.underlying130 (.agg #[(.int .i64 0), (.int .i64 0), (.slice none 0 0)]) ?hz rfl ?hz1 ?hd (g := g) (n := i) (m := res.length - i) (c2 := ?c2) (off := i * 3) ?hs rfl HT.out ?hm ?hm0 HB.out ?hbase ?_; (case hgd => rfl); (case ho => rfl); (case hz => rfl); (case hz1 => decide); (case hd => decide); (case hs => rfl); (case hm => (have hx_ := HII.out); omega); (case hm0 => (have hx_ := HII.out); omega); (case hbase => exact HB.out.size); intro w38 ho2 hb2 hg2; have n0_ := ak_ ho2; have n1_ := ak_ hb2; have n2_ := ak_ (gr_gr HGR.out hg2); clear HT HB HGR ho2 hb2 hg2; have HT := n0_; have HB := n1_; have HGR := n2_; clear n0_ n1_ n2_))
    first | go_ret | go_ret2
    exact ⟨_, rfl, by rw [← HLOW.out]; exact Kd.R_below HT.out (by repeat (first | exact Below.refl _ _ | apply bN_ | apply b1_ | apply ba_)), rfl, HGR.out, (bb_ HB.out)⟩
def slices_Repeat_int_int.f (l0 : List Int) (a1 : Int) : Option (List Int) := if l0.length = 1 then (if 0 ≤ a1 then (if a1 ≤ 1000000 then some (List.replicate a1.toNat (l0.headD 0)) else none) else none) else none
def slices_Repeat_int_int.row (N m : Nat) (x : Int) : List Int := List.replicate m x ++ List.replicate (N - m) 0
theorem slices_Repeat_int_int.row_len {N m : Nat} {x : Int} (h : m ≤ N) : (slices_Repeat_int_int.row N m x).length = N := by
 unfold slices_Repeat_int_int.row
 rw [List.length_append, List.length_replicate, List.length_replicate]
 omega
theorem slices_Repeat_int_int.row_set {N m : Nat} {x : Int} (h : m < N) : (slices_Repeat_int_int.row N m x).set m x = slices_Repeat_int_int.row N (m + 1) x := by
 unfold slices_Repeat_int_int.row
 obtain ⟨r, hr⟩ : ∃ r, N - m = r + 1 := ⟨N - m - 1, by omega⟩
 rw [hr, show N - (m + 1) = r by omega, List.set_append_right _ _ (by simp), List.length_replicate, Nat.sub_self, List.replicate_succ, List.set_cons_zero, List.replicate_succ', List.append_assoc]
 rfl
theorem slices_Repeat_int_int.row_get {N m j : Nat} {x : Int} (h : j < m) : rdOf 0 (slices_Repeat_int_int.row N m x) (j : Int) = x := by
 unfold slices_Repeat_int_int.row rdOf
 rw [Int.toNat_natCast, List.getD_eq_getElem?_getD, List.getElem?_append_left (by simpa using h)]
 simp [h]
theorem slices_Repeat_int_int.puts {w : World} {base g N c : Nat} {x : Int} (hg : w.heap.size ≤ g) : ∀ (q m : Nat) (W : World), m + q ≤ N → (Kd.int .i64).R 3 W base (fun _ => True) (.slice (some ⟨g, 0, none⟩) N c) (slices_Repeat_int_int.row N m x) → Below w.heap.size w W →
  (Kd.int .i64).R 3 (W.setCells g m (List.replicate q (Value.int .i64 x))) base (fun _ => True) (.slice (some ⟨g, 0, none⟩) N c) (slices_Repeat_int_int.row N (m + q) x) ∧ Below w.heap.size w (W.setCells g m (List.replicate q (Value.int .i64 x)))
 | 0, m, W, _, h, hb => ⟨h, hb⟩
 | q + 1, m, W, hl, h, hb => by
  have h1 := (Kd.R_putg h (m : Int) x).1
  rw [Int.toNat_natCast, slices_Repeat_int_int.row_set (by omega)] at h1
  have h2 := slices_Repeat_int_int.puts hg q (m + 1) _ (by omega) h1 (below_set (j := m) (v := Value.int .i64 x) hb hg)
  rw [show m + (q + 1) = m + 1 + q by omega, List.replicate_succ]
  exact h2
theorem slices_Repeat_int_int.calls (A0 : Option Addr) (c0 : Nat) (l0 : List Int) (a1 : Int) (r : List Int) (w : World) (hr0 : Kd.C (Kd.int .i64) w A0 l0.length l0) (hc0 : l0.length ≤ c0) (h : slices_Repeat_int_int.f l0 a1 = some r) :
  Calls Try.prog 127 #[.slice A0 l0.length c0, .int .i64 a1] w fun e w' => ∃ v0_ : Value, e = .returned (v0_) ∧ (Kd.int .i64).R 3 w' w.heap.size (fun _ => True) v0_ r ∧ Below w.heap.size w w' := by
 unfold slices_Repeat_int_int.f at h
 by_cases hl : l0.length = 1
 rotate_left
 ·rw [if_neg hl] at h; exact absurd h (by simp)
 rw [if_pos hl] at h
 by_cases h0 : 0 ≤ a1
 rotate_left
 ·rw [if_neg h0] at h; exact absurd h (by simp)
 rw [if_pos h0] at h
 by_cases h1 : a1 ≤ 1000000
 rotate_left
 ·rw [if_neg h1] at h; exact absurd h (by simp)
 rw [if_pos h1] at h
 obtain ⟨x, rfl⟩ := List.length_eq_one_iff.mp hl
 obtain ⟨N, rfl⟩ : ∃ N : Nat, a1 = (N : Int) := ⟨a1.toNat, by omega⟩
 rw [Int.toNat_natCast] at h
 obtain rfl := Option.some.inj h
 obtain ⟨ad, rfl, hx⟩ := Kd.at_int hr0 0 (by decide) (by simp)
 have hx1 : w.cell? (ad.add 0) = some (Value.int .i64 x) := hx
 have HX := ak_ hx1
 have HN := ak_ h1
 have HB := ak_ (Below.refl w.heap.size w)
 have HM0 := fun (W : World) => Try.bits_Mul 1 N (by decide) (by omega) W
 rw [show (1 * N / 18446744073709551616 : Nat) = 0 by omega, show (1 * N % 18446744073709551616 : Nat) = N by omega] at HM0
 have HM := ak_ HM0
 have k0 : decide ((N : Int) < 0) = false := decide_eq_false (by omega)
 have k0n : ((N : Int) < 0) = False := eq_false (by omega)
 have k1 : IntKind.u64.wrap (N : Int) = (N : Int) := IntWalk.u64_in _ ⟨by omega, by omega⟩
 have k2 : IntKind.i64.wrap (N : Int) = (N : Int) := IntWalk.i64_in _ ⟨by omega, by omega⟩
 have k3 : decide ((9223372036854775807 : Int) < (N : Int)) = false := decide_eq_false (by omega)
 have k3n : ((9223372036854775807 : Int) < (N : Int)) = False := eq_false (by omega)
 have HH := ak_ (show List.replicate N x = List.replicate N (List.headD [x] 0) from rfl)
 clear h hl h0 h1 hr0 hc0 hx hx1 HM0
 go_enter Try.func127, Try.ntmps127
 go_upto_region 6 with (go_at_call 161; refine (HM.out _).mono ?_; rintro e w' ⟨rfl, hw_⟩; rw [hw_]; clear hw_ w')
 go_upto_region 7 with ((with_reducible refine gate_dst (N := 30) rfl ?_); refine Kd.R_make (Kd.int .i64) _ 3 rfl (N := 30) rfl 29 _ _ rfl (N : Int) rfl rfl Try.underlying29 (Value.int .i64 0) 8 info3 rfl (by decide) (by omega) 0 (ok := fun _ => True) (okp := fun _ => True) rfl (fun _ hk => hk) trivial (by omega) (by have := HN.out; omega) (Below.refl _ _) (Nat.le_refl _) ?_; intro v30 w30 ho hb hg hnew; have HO := ak_ (Kd.R_lower ho (bz_ (bb_ HB.out))); have n0_ := ak_ (bs_ (bb_ HB.out) hb); clear HB hb hg hnew ho; have HB := n0_; clear n0_)
 have h30 := HO.out
 rw [Int.toNat_natCast] at h30
 clear HO
 have hsz : (Try.prog.info? 3).map (·.size) = some 1 := by kernel_rfl
 by_cases hz : N = 0
 ·obtain ⟨A3, c3, e3⟩ := Kd.R_slice h30
  rw [List.length_replicate] at e3
  subst e3
  have HO := ak_ h30
  have hcp : ∀ W, (Builtin.copy_ #[29, 29] 3 #[.slice A3 N c3, .slice (some ad) 1 c0]).run Try.prog W = .ok (goInt 0) W := fun W => run_copy_none W 29 29 3 3 A3 (some ad) N c3 1 c0 Try.underlying29 hsz (by rw [hz]; rfl)
  have k4 : decide ((0 : Int) < (N : Int)) = false := decide_eq_false (by omega)
  have k4n : decide (0 < N) = false := decide_eq_false (by omega)
  have k4p : (0 < N) = False := eq_false (by omega)
  have HZ := ak_ hz
  clear h30 hz
  go_upto_region 8 with (fail)
  go_loopg [8] 0 (fun gg v8 wr => v8 = .int .i64 0 ∧ Aside0 ((Kd.int .i64).R 3 wr w.heap.size (fun _ => True) (.slice A3 N c3) (List.replicate N 0)) ∧ Aside0 (Below w.heap.size w wr))
  case atStart => exact ⟨rfl, ⟨Kd.R_below HO.out (by repeat (first | exact Below.refl _ _ | apply bN_ | apply b1_ | apply ba_))⟩, ⟨(bb_ HB.out)⟩⟩
  case round =>
   clear HO HB
   obtain ⟨rfl, HO, HB⟩ := hrel
   go_wp2
   go_ret
   exact ⟨_, rfl, by have h_ := HO.out; rw [HZ.out] at h_ ⊢; exact Kd.R_below h_ (by repeat (first | exact Below.refl _ _ | apply bN_ | apply b1_ | apply ba_)), (bb_ HB.out)⟩
 obtain ⟨g, cap, e3, hge, -, -⟩ := Kd.R_form h30 (by rw [List.length_replicate]; omega)
 rw [List.length_replicate] at e3
 subst e3
 have HO := ak_ (show (Kd.int .i64).R 3 w30 w.heap.size (fun _ => True) (.slice (some ⟨g, 0, none⟩) N cap) (slices_Repeat_int_int.row N 0 x) from h30)
 have HG := ak_ hge
 have HZ := ak_ hz
 have hc00 := Kd.R_celln 0 h30 (0 : Int) (by decide) (by omega)
 have hcp : (Builtin.copy_ #[29, 29] 3 #[.slice (some ⟨g, 0, none⟩) N cap, .slice (some ad) 1 c0]).run Try.prog w30 = .ok (goInt 1) (w30.setCells g 0 [Value.int .i64 x]) :=
  run_copy_cells w30 29 29 3 3 g 0 N cap ad 1 c0 [Value.int .i64 x] Try.underlying29 hsz (by simp [Nat.min_def]; omega)
   (fun j v hj => by
    rcases j with _ | j
    ·obtain rfl := Option.some.inj hj
     exact (HB.out.cell (World.block_lt_of_cell? w _ HX.out)).trans HX.out
    ·simp at hj)
   (fun j hj => by
    obtain rfl : j = 0 := by simpa using hj
    have := hc00.1
    simp at this ⊢
    rw [this]; rfl)
   (fun j hj => by
    obtain rfl : j = 0 := by simpa using hj
    have := hc00.2
    simpa using this) (by intro v hv; obtain rfl := List.mem_singleton.mp hv; rfl)
 clear h30 hge hz hc00
 go_upto_region 8 with (fail)
 have hp1 := slices_Repeat_int_int.puts (w := w) HG.out 1 0 w30 (by have := HZ.out; omega) HO.out HB.out
 have n0_ := ak_ hp1.1
 have n1_ := ak_ hp1.2
 clear HO HB hp1 hcp
 have HO := n0_; have HB := n1_
 clear n0_ n1_
 change Aside0 ((Kd.int .i64).R 3 (w30.setCells g 0 [Value.int .i64 x]) w.heap.size (fun _ => True) (.slice (some ⟨g, 0, none⟩) N cap) (slices_Repeat_int_int.row N 1 x)) at HO
 change Aside0 (Below w.heap.size w (w30.setCells g 0 [Value.int .i64 x])) at HB
 generalize hW8 : w30.setCells g 0 [Value.int .i64 x] = W8 at HO HB ⊢
 clear hW8
 go_loopg [8] N (fun gg v8 wr => ∃ m : Nat, v8 = .int .i64 (m : Int) ∧ 1 ≤ m ∧ m ≤ N ∧ N - m ≤ gg ∧ Aside0 ((Kd.int .i64).R 3 wr w.heap.size (fun _ => True) (.slice (some ⟨g, 0, none⟩) N cap) (slices_Repeat_int_int.row N m x)) ∧ Aside0 (Below w.heap.size w wr))
 case atStart => exact ⟨1, rfl, Nat.le_refl _, by have := HZ.out; omega, by omega, ⟨Kd.R_below HO.out (by repeat (first | exact Below.refl _ _ | apply bN_ | apply b1_ | apply ba_))⟩, ⟨(bb_ HB.out)⟩⟩
 case round =>
  clear HO HB
  obtain ⟨m, rfl, hm1, hmN, hg, HO, HB⟩ := hrel
  by_cases hlt : m < N
  ·have q1 : decide ((m : Int) < (N : Int)) = true := decide_eq_true (by omega)
   have q1n : decide (m < N) = true := decide_eq_true hlt
   have q1p : (m < N) = True := eq_true hlt
   have hcap := (Kd.R_reads' HO.out).2.1
   have h00 := fun j (hj : j < N) => Kd.R_celln 0 HO.out (j : Int) (by omega) (by omega)
   have b0 : (0 : Int) ≤ (m : Int) := by omega
   have b1 : (m : Int) ≤ (N : Int) := by omega
   have b2 : (m : Int) ≤ (cap : Int) := by omega
   have b3 : (N : Int) ≤ (cap : Int) := by omega
   have b1n : m ≤ N := by omega
   have b2n : m ≤ cap := by omega
   have b3n : N ≤ cap := by omega
   have b4 : (cap = m) = False := eq_false (by omega)
   have b5 : ((cap : Int) = (m : Int)) = False := eq_false (by omega)
   obtain ⟨q, hq⟩ : ∃ q, q = Nat.min m (N - m) := ⟨_, rfl⟩
   have hq1 : q ≤ m := by rw [hq]; exact Nat.min_le_left _ _
   have hq2' : q ≤ N - m := by rw [hq]; exact Nat.min_le_right _ _
   have hq2 : m + q ≤ N := by omega
   clear hq2'
   have hq3 : 1 ≤ q := by rw [hq]; exact Nat.le_min.2 ⟨hm1, by omega⟩
   have hw : IntKind.i64.wrap ((m : Int) + (q : Int)) = ((m + q : Nat) : Int) := by rw [IntWalk.i64_in _ ⟨by omega, by have := HN.out; omega⟩]; omega
   have hp1 := slices_Repeat_int_int.puts (w := w) HG.out q m wr.drew hq2 (Kd.R_drew HO.out) (b1_ HB.out)
   have hcp : (Builtin.copy_ #[29, 29] 3 #[.slice (some ⟨g, m, none⟩) (N - m) (cap - m), .slice (some ⟨g, 0, none⟩) m cap]).run Try.prog wr.drew = .ok (goInt (q : Int)) (wr.drew.setCells g m (List.replicate q (Value.int .i64 x))) := by
    have h_ := run_copy_cells (P := Try.prog) wr.drew 29 29 3 3 g m (N - m) (cap - m) ⟨g, 0, none⟩ m cap (List.replicate q (Value.int .i64 x)) Try.underlying29 hsz (by rw [List.length_replicate]; exact hq)
     (fun j v hj => by
      rw [List.getElem?_replicate] at hj
      by_cases hjq : j < q
      ·rw [if_pos hjq] at hj
       obtain rfl := Option.some.inj hj
       have e := (h00 j (by omega)).1
       rw [slices_Repeat_int_int.row_get (by omega), Int.toNat_natCast] at e
       rw [add_plain]
       simpa using e
      ·rw [if_neg hjq] at hj; exact absurd hj (by simp))
     (fun j hj => by
      rw [List.length_replicate] at hj
      have e := (h00 (m + j) (by omega)).1
      rw [Int.toNat_natCast] at e
      simp only [World.cell?_drew]
      rw [e]; rfl)
     (fun j hj => by
      rw [List.length_replicate] at hj
      have e := (h00 (m + j) (by omega)).2
      rw [Int.toNat_natCast] at e
      simpa using e) (by intro v hv; obtain rfl := List.eq_of_mem_replicate hv; rfl)
    rw [List.length_replicate] at h_
    exact h_
   have HQ := ak_ (And.intro hq3 (And.intro hg hlt))
   have HP1 := ak_ hp1
   clear hq hq1 hq3 h00 hp1 hcap hm1 hmN hg hlt
   try go_wp2
   refine start_ (n := 10) (S := fun _ => True) (ds := [9]) (mb_ 10 0) (by kernel_rfl) rfl rfl trivial (fun hHeld => ?_)
   refine pure_ (i := 0) (N := some 38) (v := ?_) (a' := ?_) (mb_ 10 1) rfl rfl (by kernel_rfl) (fun _ _ _ h => h) (Or.inl ⟨by rfl, ?_⟩) ?_ ?_
   rotate_left
   ·intro w'
    go_simp
    with_reducible rfl
   rotate_left
   ·simp only [Act.put, setIfInBounds_toArray, set_cons_zero, set_cons_succ, i64_w, i32_w]
    rfl
   refine pure_ (i := 1) (N := some 39) (v := ?_) (a' := ?_) (mb_ 10 3) rfl rfl (by kernel_rfl) (fun _ _ _ h => h) (Or.inl ⟨by rfl, ?_⟩) ?_ ?_
   rotate_left
   ·intro w'
    go_simp
    with_reducible rfl
   rotate_left
   ·simp only [Act.put, setIfInBounds_toArray, set_cons_zero, set_cons_succ, i64_w, i32_w]
    rfl
   refine pure_ (i := 2) (N := some 40) (v := ?_) (a' := ?_) (mb_ 10 7) rfl rfl (by kernel_rfl) (fun _ _ _ h => h) (Or.inl ⟨by rfl, ?_⟩) ?_ ?_
   rotate_left
   ·intro w'
    go_simp
    with_reducible rfl
   rotate_left
   ·simp only [Act.put, setIfInBounds_toArray, set_cons_zero, set_cons_succ, i64_w, i32_w]
    rfl
   refine pure_ (i := 3) (N := some 41) (v := ?_) (a' := ?_) (mb_ 10 15) rfl rfl (by kernel_rfl) (fun _ _ _ h => h) (Or.inl ⟨by rfl, ?_⟩) ?_ ?_
   rotate_left
   ·intro w'
    go_simp
    with_reducible rfl
   rotate_left
   ·simp only [Act.put, setIfInBounds_toArray, set_cons_zero, set_cons_succ, i64_w, i32_w]
    rfl
   refine pure_ (i := 4) (N := some 42) (v := ?_) (a' := ?_) (mb_ 10 31) rfl rfl (by kernel_rfl) (fun _ _ _ h => h) (Or.inl ⟨by rfl, ?_⟩) ?_ ?_
   rotate_left
   ·intro w'
    go_simp
    with_reducible rfl
   rotate_left
   ·simp only [Act.put, setIfInBounds_toArray, set_cons_zero, set_cons_succ, i64_w, i32_w]
    rfl
   refine pure_ (i := 5) (N := some 43) (v := ?_) (a' := ?_) (mb_ 10 63) rfl rfl (by kernel_rfl) (fun _ _ _ h => h) (Or.inl ⟨by rfl, ?_⟩) ?_ ?_
   rotate_left
   ·intro w'
    go_simp
    with_reducible rfl
   rotate_left
   ·simp only [Act.put, setIfInBounds_toArray, set_cons_zero, set_cons_succ, i64_w, i32_w]
    rfl
   refine pure_ (i := 6) (N := some 44) (v := ?_) (a' := ?_) (mb_ 10 127) rfl rfl (by kernel_rfl) (fun _ _ _ h => h) (Or.inl ⟨by rfl, ?_⟩) ?_ ?_
   rotate_left
   ·intro w'
    go_simp
    with_reducible rfl
   rotate_left
   ·simp only [Act.put, setIfInBounds_toArray, set_cons_zero, set_cons_succ, i64_w, i32_w]
    rfl
   refine one_ (i := 7) (N := some 45) (mb_ 10 255) rfl rfl (by kernel_rfl) (by decide) (fun K hK => ?_)
   refine value_ (w1 := ?_) (v := ?_) (by rfl) rfl ?_ ?_
   rotate_left 2
   ·go_simp
    constructor
    ·rfl
    ·rfl
   refine hK.out _ _ trivial (fun hHeld => ?_)
   clear hK K
   refine norm_ (a' := ?_) ?_ ?_
   rotate_left
   ·show Act.put _ (some 45) _ = _
    simp only [Act.put, setIfInBounds_toArray, set_cons_zero, set_cons_succ, i64_w, i32_w]
    rfl
   refine pure_ (i := 8) (N := some 46) (v := ?_) (a' := ?_) (mb_ 10 511) rfl rfl (by kernel_rfl) (fun _ _ _ h => h) (Or.inl ⟨by rfl, ?_⟩) ?_ ?_
   rotate_left
   ·intro w'
    go_simp
    with_reducible rfl
   rotate_left
   ·simp only [Act.put, setIfInBounds_toArray, set_cons_zero, set_cons_succ, i64_w, i32_w]
    rfl
   refine pure_ (i := 9) (N := some 8) (v := ?_) (a' := ?_) (mb_ 10 1023) rfl rfl (by kernel_rfl) (fun _ _ _ h => h) (Or.inl ⟨by rfl, ?_⟩) ?_ ?_
   rotate_left
   ·intro w'
    go_simp
    with_reducible rfl
   rotate_left
   ·simp only [Act.put, setIfInBounds_toArray, set_cons_zero, set_cons_succ, i64_w, i32_w]
    rfl
   refine done_ (by kernel_rfl) ?_
   clear HO HB hcp
   have HO := ak_ HP1.out.1
   have HB := ak_ HP1.out.2
   clear HP1
   generalize wr.drew.setCells g m (List.replicate q (Value.int .i64 x)) = W9 at HO HB ⊢
   try go_wp2
   go_roundg (N - (m + q))
   case measure => have := HQ.out; omega
   case rel => exact ⟨m + q, (by first | rfl | (simp; done) | (simp [*]; done)), by have := HQ.out; omega, hq2, Nat.le_refl _, ⟨Kd.R_below HO.out (by repeat (first | exact Below.refl _ _ | apply bN_ | apply b1_ | apply ba_))⟩, ⟨(bb_ HB.out)⟩⟩
  ·have q1 : decide ((m : Int) < (N : Int)) = false := decide_eq_false (by omega)
   have q1n : decide (m < N) = false := decide_eq_false hlt
   have q1p : (m < N) = False := eq_false hlt
   obtain rfl : m = N := by omega
   clear hlt hg hmN hm1
   go_wp2
   go_ret
   have e : slices_Repeat_int_int.row m m x = List.replicate m (List.headD [x] 0) := by unfold slices_Repeat_int_int.row; rw [Nat.sub_self]; simp
   exact ⟨_, rfl, by have h_ := HO.out; rw [e] at h_; exact Kd.R_below h_ (by repeat (first | exact Below.refl _ _ | apply bN_ | apply b1_ | apply ba_)), (bb_ HB.out)⟩
end Go.Proofs.Ythkchdfkeieabaa.QGr
