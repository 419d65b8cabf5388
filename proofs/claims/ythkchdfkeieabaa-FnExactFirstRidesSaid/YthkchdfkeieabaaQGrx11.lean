/- Contracts of functions of the given program, walked. Conditions: those at each theorem. -/
import Derived.Test.YthkchdfkeieabaaQGrx0
import Derived.Test.YthkchdfkeieabaaQGrx1
import Derived.Test.YthkchdfkeieabaaQGrx4
import Derived.Test.YthkchdfkeieabaaQGrx8
import Derived.Test.YthkchdfkeieabaaQGrx10
namespace Go.Proofs.Ythkchdfkeieabaa.QGr
open Go.RowKit Go.Proofs.YthkchdfkeieabaaW.PrintWords Go.Proofs.YthkchdfkeieabaaW.PrintLast Go.Proofs.YthkchdfkeieabaaW.PrintMore
open List (setIfInBounds_toArray set_cons_zero set_cons_succ map_toArray map_cons map_nil)
attribute [local go_sem] max2_int min2_int max_two min_two max_three min_three max_four min_four
set_option linter.unusedVariables false
set_option maxHeartbeats 8000000
set_option maxRecDepth 100000
set_option linter.unusedSimpArgs false
def spec_keStart.f (a0_0 : Int) (l0_1 : List (List Int)) (a0_2 : Int) : Option (List Bool × Bool) := if 0 ≤ a0_0 then (if (a0_0 : Int).toNat ≤ 281474976710656 then (some ((List.replicate (a0_0 : Int).toNat false), false)) else (none)) else (none)
theorem spec_keStart.calls (a0_0 : Int) (A0_1 : Option Addr) (c0_1 : Nat) (l0_1 : List (List Int)) (a0_2 : Int) (r1 : List Bool) (r2 : Bool) (w : World) (hr0_1 : Kd.C (Kd.slice 3 (Kd.int .i64)) w A0_1 l0_1.length l0_1) (hc0_1 : l0_1.length ≤ c0_1) (h : spec_keStart.f a0_0 l0_1 a0_2 = some (r1, r2)) :
  Calls Try.prog 64 #[.agg #[.int .i64 a0_0, .slice A0_1 l0_1.length c0_1, .int .i64 a0_2]] w fun e w' => ∃ v0_ : Value, e = .returned (.agg #[v0_, .bool r2]) ∧ Kd.R Kd.bool 4 w' w.heap.size (fun _ => True) v0_ r1 ∧ Below w.heap.size w w' := by
 have hu52 := Try.underlying52
 have hu90 := Try.underlying90
 have HR0_1 := ak_ hr0_1
 have HC0_1 := ak_ hc0_1
 clear hr0_1 hc0_1
 have HB := ak_ (Below.refl w.heap.size w)
 have H : (if 0 ≤ a0_0 then (if (a0_0 : Int).toNat ≤ 281474976710656 then (some ((List.replicate (a0_0 : Int).toNat false), false)) else (none)) else (none)) = some (r1, r2) := h
 clear h
 by_cases c2 : 0 ≤ a0_0
 ·
  rw [if_pos c2] at H
  have c2b0 := eq_true c2
  have c2b1 : decide (0 ≤ a0_0) = true := decide_eq_true c2
  clear c2
  by_cases c3 : (a0_0 : Int).toNat ≤ 281474976710656
  ·
   rw [if_pos c3] at H
   have c3b0 := eq_true c3
   have c3b1 : decide ((a0_0 : Int).toNat ≤ 281474976710656) = true := decide_eq_true c3
   clear c3
   obtain ⟨y396, hy396⟩ : ∃ y_ : List Bool, y_ = (List.replicate (a0_0 : Int).toNat false) := ⟨_, rfl⟩
   replace H : (some (y396, false)) = some (r1, r2) := by first | (rw [hy396]; exact H) | exact H
   have Ny396 := ak_ hy396
   clear hy396
   simp only [Option.some.injEq, Prod.mk.injEq] at H
   obtain ⟨rfl, rfl⟩ := H
   go_enter Try.func64, Try.ntmps64
   go_wp2_with (first | ((with_reducible refine gate_dst (N := 1) rfl ?_); refine bx_ 1 #[.int .i64 a0_0, .slice A0_1 l0_1.length c0_1, .int .i64 a0_2] 52 ?_; intro gb394 hg w4 hbox hb; have n0_ := ak_ (bs_ (bb_ HB.out) hb); have n1_ := ak_ (hbox); have n2_ := ak_ ((by rw [hg]; exact (bz_ (bb_ HB.out)) : w.heap.size ≤ gb394)); have n3_ := n2_; clear HB; have HB := n0_; have BK394 := n1_; have GW394 := n2_; have GE394 := n3_; clear n0_ n1_ n2_ n3_; clear hb hbox hg) | ((with_reducible refine gate_dst (N := 2) rfl ?_); refine bx_ 2 #[.slice none 0 0, .bool false] 90 ?_; intro gb395 hg w5 hbox hb; have n0_ := ak_ (blk_below (pk BK394.out) hb); have n1_ := ak_ (bs_ bl_ hb); have n2_ := ak_ (hbox); have n3_ := ak_ ((by rw [hg]; exact (bz_ bl_) : w.heap.size ≤ gb395)); have n4_ := n3_; have n5_ := ak_ ((by rw [hg]; exact Nat.ne_of_lt (blk_lt (pk BK394.out)) : gb394 ≠ gb395)); have n6_ := ak_ n5_.out.symm; clear BK394; clear HB; have BK394 := n0_; have HB := n1_; have BK395 := n2_; have GW395 := n3_; have GE395 := n4_; have NB394_395 := n5_; have NB395_394 := n6_; clear n0_ n1_ n2_ n3_ n4_ n5_ n6_; clear hb hbox hg; have hnb6 := NB394_395.out; have hnc6 := NB395_394.out; obtain ⟨hcz7_0, hcz7_1, hcz7_2, hfz7_0, hfz7_1, hfz7_2⟩ := c3_ BK394.out) | ((with_reducible refine gate_dst (N := 5) rfl ?_); refine Kd.R_make Kd.bool _ 4 rfl (N := 5) rfl 38 _ _ rfl a0_0 rfl rfl Try.underlying38 (.bool false) 1 info4 rfl (by decide) (by omega) false (ok := fun _ => True) (okp := fun _ => True) rfl (fun _ hk => hk) trivial (odt_ (by assumption)) (Nat.le_trans (Nat.mul_le_mul_right _ (odt_ (by assumption) : a0_0.toNat ≤ 281474976710656)) (by omega)) (Below.refl _ _) (Nat.le_refl _) ?_; intro v397 w8 ho9 hb hg_ hnew_; clear hg_ hnew_; (first | rw [← Ny396.out] at ho9 | (simp only [Int.reduceToNat] at ho9; rw [← Ny396.out] at ho9)); have n0_ := ak_ (Kd.R_lower ho9 (bz_ bl_)); have n1_ := ak_ (blk_below (pk BK394.out) hb); have n2_ := ak_ (blk_below (pk BK395.out) hb); have n3_ := ak_ (bs_ bl_ hb); clear BK394; clear BK395; clear HB; have HO398 := n0_; have BK394 := n1_; have BK395 := n2_; have HB := n3_; clear n0_ n1_ n2_ n3_; clear hb ho9; obtain ⟨Ao10, co10, eo10⟩ := Kd.R_slice HO398.out; subst eo10; obtain ⟨hcz11_0, hcz11_1, hfz11_0, hfz11_1⟩ := c2_ BK395.out))
   refine bodyPost_ret (results_cell_row rfl _ _ gb395 90 #[.slice Ao10 y396.length co10, .bool false] (0, 0) _ rfl (by (with_reducible repeat (first | refine kN_ ?_ _ | refine k1_ ?_ | refine ka_ ?_ _)); refine blk_put (cs := #[.slice Ao10 y396.length co10, .bool false]) ?_ 1 _ rfl; (with_reducible repeat (first | refine kN_ ?_ _ | refine k1_ ?_ | refine ka_ ?_ _)); refine blk_put (cs := #[.slice none 0 0, .bool false]) ?_ 0 _ rfl; exact pk BK395.out) Try.underlying90 rfl (by kernel_rfl)) rfl ?_
   exact ⟨_, rx_, by (with_reducible repeat (first | apply Kd.R_alloc | apply Kd.R_drewN | apply Kd.R_drew)); exact Kd.R_mono (Kd.R_far (p := ⟨gb395, 1, none⟩) (Kd.R_far (p := ⟨gb395, 0, none⟩) (Kd.R_types HO398.out BK395.out (by decide)) (fun _ hk => hk.2) (.slice Ao10 y396.length co10)) (fun _ hk => hk.2) (.bool false)) (fun _ hk => trivial), by repeat (first | exact HB.out | apply ba_ | apply bN_ | apply b1_ | refine below_set ?_ (Aside0.out (by assumption)))⟩
  ·
   rw [if_neg c3] at H
   exact absurd H (by simp)
 ·
  rw [if_neg c2] at H
  exact absurd H (by simp)
mutual
def spec_FirstRides.l0 : Nat → List Int → Int → List (List Int) → Int → List (List Int) → Int → List Bool → Bool → Option ((List (List Int)) × Bool)
 | 0, _, _, _, _, _, _, _, _ => none
 | k + 1, x4, x7, x8, x429000, x429001, x429002, x441000, x441001 => if x7 > 0 then ((spec_keRides.f k x429000 x429001 x429002 x441000 x441001).bind fun t443 => (spec_FirstRides.l1 k x4 x7 x8 t443 (t443.length : Int) 0 x429000 x429001 x429002 x441000 x441001)) else (some (x8, true))
def spec_FirstRides.l1 : Nat → List Int → Int → List (List Int) → List (List Int) → Int → Int → Int → List (List Int) → Int → List Bool → Bool → Option ((List (List Int)) × Bool)
 | 0, _, _, _, _, _, _, _, _, _, _, _ => none
 | k + 1, x4, x7, x8, x35, x36, x37, x429000, x429001, x429002, x441000, x441001 => if x37 < x36 then (if 0 ≤ x37 then (if x37 < (x35.length : Int) then ((spec_keRide.f k x441000 x441001 (rd_L1 x35 x37)).bind fun bt447 => ((spec_keIndex.f k bt447.1 bt447.2).bind fun t452 => (if 0 ≤ t452 then (if t452 < (x4.length : Int) then (if (rd x4 t452) = (wrap64 (x7 - 1)) then (if x8.length < 5864062014805 then (spec_FirstRides.l0 k x4 (wrap64 (x7 - 1)) (x8 ++ [rd_L1 x35 x37]) x429000 x429001 x429002 bt447.1 bt447.2) else (none)) else (spec_FirstRides.l1 k x4 x7 x8 x35 x36 (wrap64 (x37 + 1)) x429000 x429001 x429002 x441000 x441001)) else (none)) else (none)))) else (none)) else (none)) else (spec_FirstRides.l0 k x4 (wrap64 (x7 - 1)) x8 x429000 x429001 x429002 x441000 x441001)
end
def spec_FirstRides.f (k : Nat) (a0_0 : Int) (l0_1 : List (List Int)) (a0_2 : Int) : Option ((List (List Int)) × Bool) := (spec_keGood.f k a0_0 l0_1 a0_2).bind fun t429 => (if t429 = true then ((spec_keFar.f k a0_0 l0_1 a0_2).bind fun bt430 => ((spec_keStart.f a0_0 l0_1 a0_2).bind fun bt436 => ((spec_keIndex.f k bt436.1 bt436.2).bind fun t441 => (if 0 ≤ t441 then (if t441 < (bt430.1.length : Int) then (if (rd bt430.1 t441) < 0 then (some (([] : List (List Int)), false)) else (spec_FirstRides.l0 k bt430.1 (rd bt430.1 t441) ([] : List (List Int)) a0_0 l0_1 a0_2 bt436.1 bt436.2)) else (none)) else (none))))) else (some (([] : List (List Int)), false)))
theorem spec_FirstRides.mono_l : ∀ k, (∀ y0 y1 y2 y3 y4 y5 y6 y7, LeO (spec_FirstRides.l0 k y0 y1 y2 y3 y4 y5 y6 y7) (spec_FirstRides.l0 (k + 1) y0 y1 y2 y3 y4 y5 y6 y7)) ∧ (∀ y0 y1 y2 y3 y4 y5 y6 y7 y8 y9 y10, LeO (spec_FirstRides.l1 k y0 y1 y2 y3 y4 y5 y6 y7 y8 y9 y10) (spec_FirstRides.l1 (k + 1) y0 y1 y2 y3 y4 y5 y6 y7 y8 y9 y10))
 | 0 => ⟨fun _ _ _ _ _ _ _ _ r h => by simp [spec_FirstRides.l0] at h, fun _ _ _ _ _ _ _ _ _ _ _ r h => by simp [spec_FirstRides.l1] at h⟩
 | k + 1 => by
  obtain ⟨ih0, ih1⟩ := spec_FirstRides.mono_l k
  refine ⟨?_, ?_⟩
  ·intro y0 y1 y2 y3 y4 y5 y6 y7
   unfold spec_FirstRides.l0
   repeat' first
   | (with_reducible first | exact ih0 _ _ _ _ _ _ _ _ | exact ih1 _ _ _ _ _ _ _ _ _ _ _ | exact spec_keFar.mono _ _ _ _ | exact spec_keGood.mono _ _ _ _ | exact spec_keIndex.mono _ _ _ | exact spec_keRide.mono _ _ _ _ | exact spec_keRides.mono _ _ _ _ _ _ | exact LeO.refl _ | exact LeO.none _ | refine LeO.ite ?_ ?_ | refine LeO.bind ?_ (fun _ => ?_))
  ·intro y0 y1 y2 y3 y4 y5 y6 y7 y8 y9 y10
   unfold spec_FirstRides.l1
   repeat' first
   | (with_reducible first | exact ih0 _ _ _ _ _ _ _ _ | exact ih1 _ _ _ _ _ _ _ _ _ _ _ | exact spec_keFar.mono _ _ _ _ | exact spec_keGood.mono _ _ _ _ | exact spec_keIndex.mono _ _ _ | exact spec_keRide.mono _ _ _ _ | exact spec_keRides.mono _ _ _ _ _ _ | exact LeO.refl _ | exact LeO.none _ | refine LeO.ite ?_ ?_ | refine LeO.bind ?_ (fun _ => ?_))
theorem spec_FirstRides.calls (k : Nat) (a0_0 : Int) (A0_1 : Option Addr) (c0_1 : Nat) (l0_1 : List (List Int)) (a0_2 : Int) (r1 : List (List Int)) (r2 : Bool) (w : World) (hr0_1 : Kd.C (Kd.slice 3 (Kd.int .i64)) w A0_1 l0_1.length l0_1) (hc0_1 : l0_1.length ≤ c0_1) (h : spec_FirstRides.f k a0_0 l0_1 a0_2 = some (r1, r2)) :
  Calls Try.prog 34 #[.agg #[.int .i64 a0_0, .slice A0_1 l0_1.length c0_1, .int .i64 a0_2]] w fun e w' => ∃ v0_ : Value, e = .returned (.tuple #[v0_, .bool r2]) ∧ Kd.N (Kd.slice 3 (Kd.int .i64)) 29 w' w.heap.size (fun k_ => (w.heap.size ≤ k_)) v0_ r1 ∧ Below w.heap.size w w' := by
 have hu52 := Try.underlying52
 have hu90 := Try.underlying90
 have HR0_1 := ak_ hr0_1
 have HC0_1 := ak_ hc0_1
 clear hr0_1 hc0_1
 have HB := ak_ (Below.refl w.heap.size w)
 have H : ((spec_keGood.f k a0_0 l0_1 a0_2).bind fun t429 => (if t429 = true then ((spec_keFar.f k a0_0 l0_1 a0_2).bind fun bt430 => ((spec_keStart.f a0_0 l0_1 a0_2).bind fun bt436 => ((spec_keIndex.f k bt436.1 bt436.2).bind fun t441 => (if 0 ≤ t441 then (if t441 < (bt430.1.length : Int) then (if (rd bt430.1 t441) < 0 then (some (([] : List (List Int)), false)) else (spec_FirstRides.l0 k bt430.1 (rd bt430.1 t441) ([] : List (List Int)) a0_0 l0_1 a0_2 bt436.1 bt436.2)) else (none)) else (none))))) else (some (([] : List (List Int)), false)))) = some (r1, r2) := h
 clear h
 replace H := Option.bind_eq_some_iff.mp H
 obtain ⟨t429, A20, H⟩ := H
 replace H : (if t429 = true then ((spec_keFar.f k a0_0 l0_1 a0_2).bind fun bt430 => ((spec_keStart.f a0_0 l0_1 a0_2).bind fun bt436 => ((spec_keIndex.f k bt436.1 bt436.2).bind fun t441 => (if 0 ≤ t441 then (if t441 < (bt430.1.length : Int) then (if (rd bt430.1 t441) < 0 then (some (([] : List (List Int)), false)) else (spec_FirstRides.l0 k bt430.1 (rd bt430.1 t441) ([] : List (List Int)) a0_0 l0_1 a0_2 bt436.1 bt436.2)) else (none)) else (none))))) else (some (([] : List (List Int)), false))) = some (r1, r2) := H
 have A2 := ak_ A20
 clear A20
 have HC3 := ak_ H
 clear H
 go_enter Try.func34, Try.ntmps34
 go_upto_if 14 with (first | ((with_reducible refine gate_dst (N := 1) rfl ?_); refine bx_ 1 #[.int .i64 a0_0, .slice A0_1 l0_1.length c0_1, .int .i64 a0_2] 52 ?_; intro gb428 hg w4 hbox hb; have n0_ := ak_ (bs_ (bb_ HB.out) hb); have n1_ := ak_ (hbox); have n2_ := ak_ ((by rw [hg]; exact (bz_ (bb_ HB.out)) : w.heap.size ≤ gb428)); have n3_ := n2_; clear HB; have HB := n0_; have BK428 := n1_; have GW428 := n2_; have GE428 := n3_; clear n0_ n1_ n2_ n3_; clear hb hbox hg; obtain ⟨hcz5_0, hcz5_1, hcz5_2, hfz5_0, hfz5_1, hfz5_2⟩ := c3_ BK428.out) | ((with_reducible refine gate_callee (f := 61) rfl ?_); refine goesL_ (some 13) rfl rfl Try.func61 (by kernel_rfl) rfl #[.agg #[.int .i64 a0_0, .slice A0_1 l0_1.length c0_1, .int .i64 a0_2]] rfl (by first | rfl | (simp only [map_toArray, map_cons, map_nil]; try rfl)) ?_; (with_reducible refine (spec_keGood.calls k a0_0 _ _ l0_1 a0_2 t429 _ ?side1 ?side2 A2.out).mono ?_); (case side1 => exact cs_ (Kd.C_below HR0_1.out HB.out)); (case side2 => exact HC0_1.out); rintro e w6 ⟨rfl, hb⟩; refine ⟨_, rfl, ?_⟩; have n0_ := ak_ (blk_below (pk BK428.out) hb); have n1_ := ak_ (bs_ bl_ hb); clear BK428; clear HB; have BK428 := n0_; have HB := n1_; clear n0_ n1_; (try clear hb); (try clear hb2); (try clear hk); (try clear hi)))
 (try simp only [Act.put, setIfInBounds_toArray, set_cons_zero, set_cons_succ])
 have H := HC3.out
 clear HC3
 by_cases c7 : t429 = true
 ·
  subst c7
  have H1 : ((spec_keFar.f k a0_0 l0_1 a0_2).bind fun bt430 => ((spec_keStart.f a0_0 l0_1 a0_2).bind fun bt436 => ((spec_keIndex.f k bt436.1 bt436.2).bind fun t441 => (if 0 ≤ t441 then (if t441 < (bt430.1.length : Int) then (if (rd bt430.1 t441) < 0 then (some (([] : List (List Int)), false)) else (spec_FirstRides.l0 k bt430.1 (rd bt430.1 t441) ([] : List (List Int)) a0_0 l0_1 a0_2 bt436.1 bt436.2)) else (none)) else (none))))) = some (r1, r2) := by rw [if_pos rfl] at H; exact H
  clear H
  have H := H1
  clear H1
  replace H := Option.bind_eq_some_iff.mp H
  obtain ⟨⟨t430, t433⟩, A80, H⟩ := H
  replace H : ((spec_keStart.f a0_0 l0_1 a0_2).bind fun bt436 => ((spec_keIndex.f k bt436.1 bt436.2).bind fun t441 => (if 0 ≤ t441 then (if t441 < (t430.length : Int) then (if (rd t430 t441) < 0 then (some (([] : List (List Int)), false)) else (spec_FirstRides.l0 k t430 (rd t430 t441) ([] : List (List Int)) a0_0 l0_1 a0_2 bt436.1 bt436.2)) else (none)) else (none)))) = some (r1, r2) := H
  have A8 := ak_ A80
  clear A80
  replace H := Option.bind_eq_some_iff.mp H
  obtain ⟨⟨t436, t439⟩, A90, H⟩ := H
  replace H : ((spec_keIndex.f k t436 t439).bind fun t441 => (if 0 ≤ t441 then (if t441 < (t430.length : Int) then (if (rd t430 t441) < 0 then (some (([] : List (List Int)), false)) else (spec_FirstRides.l0 k t430 (rd t430 t441) ([] : List (List Int)) a0_0 l0_1 a0_2 t436 t439)) else (none)) else (none))) = some (r1, r2) := H
  have A9 := ak_ A90
  clear A90
  replace H := Option.bind_eq_some_iff.mp H
  obtain ⟨t441, A100, H⟩ := H
  replace H : (if 0 ≤ t441 then (if t441 < (t430.length : Int) then (if (rd t430 t441) < 0 then (some (([] : List (List Int)), false)) else (spec_FirstRides.l0 k t430 (rd t430 t441) ([] : List (List Int)) a0_0 l0_1 a0_2 t436 t439)) else (none)) else (none)) = some (r1, r2) := H
  have A10 := ak_ A100
  clear A100
  by_cases c11 : 0 ≤ t441
  ·
   rw [if_pos c11] at H
   have c11b0 : decide (0 ≤ t441) = true := decide_eq_true c11
   clear c11
   (first | rw [c11b0] | (simp only [i64_w, i32_w]; rw [c11b0]) | rw [c11b1] | skip)
   by_cases c12 : t441 < (t430.length : Int)
   ·
    rw [if_pos c12] at H
    have c12b0 : decide (t441 < (t430.length : Int)) = true := decide_eq_true c12
    clear c12
    have HC13 := ak_ H
    clear H
    obtain ⟨hcz14_0, hcz14_1, hcz14_2, hfz14_0, hfz14_1, hfz14_2⟩ := c3_ BK428.out
    go_upto_if 28 with (first | ((with_reducible refine gate_callee (f := 62) rfl ?_); refine goesL_ (some 17) rfl rfl Try.func62 (by kernel_rfl) rfl #[.agg #[.int .i64 a0_0, .slice A0_1 l0_1.length c0_1, .int .i64 a0_2]] rfl (by first | rfl | (simp only [map_toArray, map_cons, map_nil]; try rfl)) ?_; (with_reducible refine (spec_keFar.calls k a0_0 _ _ l0_1 a0_2 t430 t433 _ ?side1 ?side2 A8.out).mono ?_); (case side1 => exact cs_ (Kd.C_below HR0_1.out HB.out)); (case side2 => exact HC0_1.out); rintro e w15 ⟨v431, v434, rfl, ho0, ho1, hb⟩; refine ⟨_, rfl, ?_⟩; have n0_ := ak_ (Kd.R_lower (Kd.R_newM (M := fun k_ => (w.heap.size ≤ k_)) ho0 (bz_ bl_) (fun k_ h_ => h_)) (bz_ bl_)); have n1_ := ak_ (Kd.R_lower (Kd.R_newM (M := fun k_ => (w.heap.size ≤ k_)) ho1 (bz_ bl_) (fun k_ h_ => h_)) (bz_ bl_)); have n2_ := ak_ (blk_below (pk BK428.out) hb); have n3_ := ak_ (bs_ bl_ hb); clear BK428; clear HB; have HO432 := n0_; have HO435 := n1_; have BK428 := n2_; have HB := n3_; clear n0_ n1_ n2_ n3_; (try clear hb); (try clear hb2); (try clear hk); (try clear hi); (try clear ho0); (try clear ho1); obtain ⟨hcz16_0, hcz16_1, hcz16_2, hfz16_0, hfz16_1, hfz16_2⟩ := c3_ BK428.out) | ((with_reducible refine gate_callee (f := 64) rfl ?_); refine goesL_ (some 21) rfl rfl Try.func64 (by kernel_rfl) rfl #[.agg #[.int .i64 a0_0, .slice A0_1 l0_1.length c0_1, .int .i64 a0_2]] rfl (by first | rfl | (simp only [map_toArray, map_cons, map_nil]; try rfl)) ?_; (with_reducible refine (spec_keStart.calls a0_0 _ _ l0_1 a0_2 t436 t439 _ ?side1 ?side2 A9.out).mono ?_); (case side1 => exact cs_ (Kd.C_below HR0_1.out HB.out)); (case side2 => exact HC0_1.out); rintro e w17 ⟨v437, rfl, ho0, hb⟩; refine ⟨_, rfl, ?_⟩; have n0_ := ak_ (Kd.R_below (Kd.pR HO432.out) hb); have n1_ := ak_ (Kd.R_below (Kd.pR HO435.out) hb); have n2_ := ak_ (Kd.R_lower (Kd.R_newM (M := fun k_ => (w.heap.size ≤ k_)) ho0 (bz_ bl_) (fun k_ h_ => h_)) (bz_ bl_)); have n3_ := ak_ (blk_below (pk BK428.out) hb); have n4_ := ak_ (bs_ bl_ hb); clear HO432; clear HO435; clear BK428; clear HB; have HO432 := n0_; have HO435 := n1_; have HO438 := n2_; have BK428 := n3_; have HB := n4_; clear n0_ n1_ n2_ n3_ n4_; (try clear hb); (try clear hb2); (try clear hk); (try clear hi); (try clear ho0)) | ((with_reducible refine gate_dst (N := 6) rfl ?_); refine bx_ 6 #[.slice none 0 0, .bool false] 90 ?_; intro gb440 hg w18 hbox hb; have n0_ := ak_ (Kd.R_below (Kd.pR HO432.out) hb); have n1_ := ak_ (Kd.R_below (Kd.pR HO435.out) hb); have n2_ := ak_ (Kd.R_below (Kd.pR HO438.out) hb); have n3_ := ak_ (blk_below (pk BK428.out) hb); have n4_ := ak_ (bs_ bl_ hb); have n5_ := ak_ (hbox); have n6_ := ak_ ((by rw [hg]; exact (bz_ bl_) : w.heap.size ≤ gb440)); have n7_ := n6_; have n8_ := ak_ ((by rw [hg]; exact Nat.ne_of_lt (blk_lt (pk BK428.out)) : gb428 ≠ gb440)); have n9_ := ak_ n8_.out.symm; clear HO432; clear HO435; clear HO438; clear BK428; clear HB; have HO432 := n0_; have HO435 := n1_; have HO438 := n2_; have BK428 := n3_; have HB := n4_; have BK440 := n5_; have GW440 := n6_; have GE440 := n7_; have NB428_440 := n8_; have NB440_428 := n9_; clear n0_ n1_ n2_ n3_ n4_ n5_ n6_ n7_ n8_ n9_; clear hb hbox hg; obtain ⟨Ao19, co19, eo19⟩ := Kd.R_slice HO438.out; subst eo19; have hnb20 := NB440_428.out; have hnc20 := NB428_440.out; obtain ⟨hcz21_0, hcz21_1, hfz21_0, hfz21_1⟩ := c2_ BK440.out) | ((with_reducible refine gate_callee (f := 63) rfl ?_); refine goesL_ (some 24) rfl rfl Try.func63 (by kernel_rfl) rfl #[.agg #[.slice Ao19 t436.length co19, .bool t439]] rfl (by first | rfl | (simp only [map_toArray, map_cons, map_nil]; try rfl)) ?_; (with_reducible refine (spec_keIndex.calls k _ _ t436 t439 t441 _ ?side1 ?side2 A10.out).mono ?_); (case side1 => refine (Kd.R_reads' (e := 4) (base := w.heap.size) (ok := fun k_ => ((w.heap.size ≤ k_) ∧ True)) (n := t436.length) (c := co19) ?_).2.2; exact (by (with_reducible repeat (first | apply Kd.R_alloc | apply Kd.R_drewN | apply Kd.R_drew)); exact (Kd.R_mono (Kd.R_far (p := ⟨gb440, 1, none⟩) (Kd.R_far (p := ⟨gb440, 0, none⟩) (Kd.R_types HO438.out BK440.out (by decide)) (fun _ hk => hk.2) (.slice Ao19 t436.length co19)) (fun _ hk => hk.2) (.bool t439)) (fun _ h_ => h_.1)))); (case side2 => exact (Kd.R_reads' HO438.out).2.1); rintro e w22 ⟨rfl, hb⟩; refine ⟨_, rfl, ?_⟩; have n0_ := ak_ (Kd.R_below (by (with_reducible repeat (first | apply Kd.R_alloc | apply Kd.R_drewN | apply Kd.R_drew)); exact (Kd.R_mono (Kd.R_far (p := ⟨gb440, 1, none⟩) (Kd.R_far (p := ⟨gb440, 0, none⟩) (Kd.R_types HO432.out BK440.out (by decide)) (fun _ hk => hk.2) (.slice Ao19 t436.length co19)) (fun _ hk => hk.2) (.bool t439)) (fun _ h_ => h_.1))) hb); have n1_ := ak_ (Kd.R_below (by (with_reducible repeat (first | apply Kd.R_alloc | apply Kd.R_drewN | apply Kd.R_drew)); exact (Kd.R_mono (Kd.R_far (p := ⟨gb440, 1, none⟩) (Kd.R_far (p := ⟨gb440, 0, none⟩) (Kd.R_types HO435.out BK440.out (by decide)) (fun _ hk => hk.2) (.slice Ao19 t436.length co19)) (fun _ hk => hk.2) (.bool t439)) (fun _ h_ => h_.1))) hb); have n2_ := ak_ (Kd.R_below (by (with_reducible repeat (first | apply Kd.R_alloc | apply Kd.R_drewN | apply Kd.R_drew)); exact (Kd.R_mono (Kd.R_far (p := ⟨gb440, 1, none⟩) (Kd.R_far (p := ⟨gb440, 0, none⟩) (Kd.R_types HO438.out BK440.out (by decide)) (fun _ hk => hk.2) (.slice Ao19 t436.length co19)) (fun _ hk => hk.2) (.bool t439)) (fun _ h_ => h_.1))) hb); have n3_ := ak_ (blk_below (g := gb428) (o := .cells #[.int .i64 a0_0, .slice A0_1 l0_1.length c0_1, .int .i64 a0_2] 52 (0, 0)) (by (with_reducible repeat (first | refine kN_ ?_ _ | refine k1_ ?_ | refine ka_ ?_ _)); refine blk_far ?_ NB428_440.out _; (with_reducible repeat (first | refine kN_ ?_ _ | refine k1_ ?_ | refine ka_ ?_ _)); refine blk_far ?_ NB428_440.out _; exact pk BK428.out) hb); have n4_ := ak_ (blk_below (g := gb440) (o := .cells #[.slice Ao19 t436.length co19, .bool t439] 90 (0, 0)) (by (with_reducible repeat (first | refine kN_ ?_ _ | refine k1_ ?_ | refine ka_ ?_ _)); refine blk_put (cs := #[.slice Ao19 t436.length co19, .bool false]) ?_ 1 _ rfl; (with_reducible repeat (first | refine kN_ ?_ _ | refine k1_ ?_ | refine ka_ ?_ _)); refine blk_put (cs := #[.slice none 0 0, .bool false]) ?_ 0 _ rfl; exact pk BK440.out) hb); have n5_ := ak_ (bs_ bl_ hb); clear HO432; clear HO435; clear HO438; clear BK428; clear BK440; clear HB; have HO432 := n0_; have HO435 := n1_; have HO438 := n2_; have BK428 := n3_; have BK440 := n4_; have HB := n5_; clear n0_ n1_ n2_ n3_ n4_ n5_; (try clear hb); (try clear hb2); (try clear hk); (try clear hi); obtain ⟨Ao23, co23, eo23⟩ := Kd.R_slice HO432.out; subst eo23; have p442 : 0 ≤ (t441 : Int) := odt_ (by assumption); have q442 : t441 < (t430.length : Int) := odt_ (by assumption); obtain ⟨ad442, e442, hx442_0⟩ := Kd.at_int (Kd.R_reads' HO432.out).2.2 t441 p442 q442; cases e442; replace p442 := eq_true p442; replace q442 := eq_true q442))
    (try simp only [Act.put, setIfInBounds_toArray, set_cons_zero, set_cons_succ])
    have H := HC13.out
    clear HC13
    by_cases c24 : (rd t430 t441) < 0
    ·
     rw [if_pos c24] at H
     have c24b0 : decide ((rd t430 t441) < 0) = true := decide_eq_true c24
     clear c24
     (first | rw [c24b0] | (simp only [i64_w, i32_w]; rw [c24b0]) | rw [c24b1] | skip)
     simp only [Option.some.injEq, Prod.mk.injEq] at H
     obtain ⟨rfl, rfl⟩ := H
     go_wp2
     go_ret2
     exact ⟨_, rx_, by first | exact Kd.S_nil _ _ _ _ _ | exact Kd.N_nil _ _ _ _ _ | exact Kd.V_nil _ _ _ _ _ | exact Kd.Q_nil _ _ _ _ _ | exact Kd.R_nil _ _ _ _ _, by repeat (first | exact HB.out | apply ba_ | apply bN_ | apply b1_ | refine below_set ?_ (Aside0.out (by assumption)))⟩
    ·
     rw [if_neg c24] at H
     have c24b0 : decide ((rd t430 t441) < 0) = false := decide_eq_false c24
     clear c24
     (first | rw [c24b0] | (simp only [i64_w, i32_w]; rw [c24b0]) | rw [c24b1] | skip)
     have H' := ak_ H
     clear H
     go_wp2
     go_loopg [7, 8] k (fun kq v7 v8 w' => ∃ (x7_1 : Int) (x8_1 : List (List Int)) (x441000_1 : List Bool) (x441001_1 : Bool) (u441000 : Value), v7 = .int .i64 x7_1 ∧ Aside0 (spec_FirstRides.l0 kq t430 x7_1 x8_1 a0_0 l0_1 a0_2 x441000_1 x441001_1 = some (r1, r2)) ∧ Aside0 (kq ≤ k) ∧ Aside0 (Kd.R (Kd.int .i64) 3 w' w.heap.size (fun k_ => (w.heap.size ≤ k_)) (.slice (some ad442) t430.length co23) t430) ∧ Aside0 (Kd.N (Kd.slice 3 (Kd.int .i64)) 29 w' w.heap.size (fun k_ => (w.heap.size ≤ k_) ∧ some k_ ≠ ((.slice (some ad442) t430.length co23) : Value).ownBlock ∧ some k_ ≠ (u441000 : Value).ownBlock ∧ k_ ≠ gb428 ∧ k_ ≠ gb440) v8 x8_1) ∧ Aside0 (Kd.R Kd.bool 4 w' w.heap.size (fun k_ => (w.heap.size ≤ k_)) u441000 x441000_1) ∧ Aside0 (w'.heap[gb428]? = some (.cells #[.int .i64 a0_0, (.slice A0_1 l0_1.length c0_1), .int .i64 a0_2] 52 (0, 0))) ∧ Aside0 (w'.heap[gb440]? = some (.cells #[u441000, .bool x441001_1] 90 (0, 0))) ∧ Aside0 (Below w.heap.size w w'))
     case atStart => exact ⟨(rd t430 t441), (([] : List (List Int))), (t436), (t439), (.slice Ao19 t436.length co19), (ry_), H', ⟨Nat.le_refl _⟩, ⟨by (with_reducible repeat (first | apply Kd.R_alloc | apply Kd.R_drewN | apply Kd.R_drew)); exact Kd.R_mono HO432.out (fun _ hk => hk.1)⟩, ⟨by first | exact Kd.S_nil _ _ _ _ _ | exact Kd.N_nil _ _ _ _ _ | exact Kd.V_nil _ _ _ _ _ | exact Kd.Q_nil _ _ _ _ _ | exact Kd.R_nil _ _ _ _ _⟩, ⟨by (with_reducible repeat (first | apply Kd.R_alloc | apply Kd.R_drewN | apply Kd.R_drew)); exact Kd.R_mono HO438.out (fun _ hk => hk.1)⟩, ⟨pk BK428.out⟩, ⟨pk BK440.out⟩, ⟨by repeat (first | exact HB.out | apply ba_ | apply bN_ | apply b1_ | refine below_set ?_ (Aside0.out (by assumption)))⟩⟩
     case round =>
      clear H'
      try clear c1
      try clear c2
      try clear p2
      try clear c3
      try clear p4
      try clear q4
      try clear hx4
      try clear c6
      try clear c7
      try clear c11
      try clear c11b0
      try clear c12
      try clear c12b0
      try clear c20
      try clear c24
      try clear c24b0
      try clear hcz14_0
      try clear hcz14_1
      try clear hcz14_2
      try clear hcz16_0
      try clear hcz16_1
      try clear hcz16_2
      try clear hcz21_0
      try clear hcz21_1
      try clear hcz5_0
      try clear hcz5_1
      try clear hcz5_2
      try clear hfz14_0
      try clear hfz14_1
      try clear hfz14_2
      try clear hfz16_0
      try clear hfz16_1
      try clear hfz16_2
      try clear hfz21_0
      try clear hfz21_1
      try clear hfz5_0
      try clear hfz5_1
      try clear hfz5_2
      try clear hx442_0
      try clear p442
      try clear q442
      obtain ⟨x7_1, x8_1, x441000_1, x441001_1, u441000, rfl, HA, HK1, HO_4, HO_8, HO_441000, BK428, BK440, HB⟩ := hrel
      cases gk with
      | zero => exact absurd HA.out (by simp [spec_FirstRides.l0])
      | succ k1 =>
       have H := HA.out
       clear HA
       simp only [spec_FirstRides.l0] at H
       by_cases c25 : x7_1 > 0
       ·
        rw [if_pos c25] at H
        have c25b0 : decide (0 < x7_1) = true := decide_eq_true c25
        clear c25
        replace H := Option.bind_eq_some_iff.mp H
        obtain ⟨t443, A260, H⟩ := H
        replace H : (spec_FirstRides.l1 k1 t430 x7_1 x8_1 t443 (t443.length : Int) 0 a0_0 l0_1 a0_2 x441000_1 x441001_1) = some (r1, r2) := H
        have A26 := ak_ A260
        clear A260
        have H' := ak_ H
        clear H
        have hnb27 := NB428_440.out
        have hnc27 := NB440_428.out
        obtain ⟨hcz28_0, hcz28_1, hcz28_2, hfz28_0, hfz28_1, hfz28_2⟩ := c3_ BK428.out
        obtain ⟨hcz29_0, hcz29_1, hfz29_0, hfz29_1⟩ := c2_ BK440.out
        obtain ⟨Ao30, co30, eo30⟩ := Kd.R_slice HO_441000.out
        subst eo30
        go_wp2_with (first | ((with_reducible refine gate_callee (f := 74) rfl ?_); refine goesL_ (some 35) rfl rfl Try.func74 (by kernel_rfl) rfl #[.agg #[.int .i64 a0_0, .slice A0_1 l0_1.length c0_1, .int .i64 a0_2], .agg #[.slice Ao30 x441000_1.length co30, .bool x441001_1]] rfl (by first | rfl | (simp only [map_toArray, map_cons, map_nil]; try rfl)) ?_; (with_reducible refine (spec_keRides.calls k1 a0_0 _ _ l0_1 a0_2 _ _ x441000_1 x441001_1 t443 _ ?side1 ?side2 ?side3 ?side4 A26.out).mono ?_); (case side1 => exact cs_ (Kd.C_below HR0_1.out HB.out)); (case side2 => exact HC0_1.out); (case side3 => exact cs_ ((Kd.R_reads' HO_441000.out).2.2)); (case side4 => exact (Kd.R_reads' HO_441000.out).2.1); rintro e w31 ⟨v444, rfl, ho0, hb⟩; refine ⟨_, rfl, ?_⟩; have n0_ := ak_ (Kd.R_below (Kd.pR HO_4.out) hb); have n1_ := ak_ (Kd.N_elder' (Kd.pN HO_8.out) (Kd.N_base ho0) hb); have n2_ := ak_ (Kd.R_below (Kd.pR HO_441000.out) hb); have n3_ := ak_ (Kd.N_lower (Kd.N_mono (ok' := fun k_ => (w.heap.size ≤ k_) ∧ some k_ ≠ (.slice (some ad442) t430.length co23 : Value).ownBlock ∧ some k_ ≠ (u8 : Value).ownBlock ∧ some k_ ≠ (.slice Ao30 x441000_1.length co30 : Value).ownBlock ∧ k_ ≠ gb428 ∧ k_ ≠ gb440) ho0 (fun k_ hk_ => ⟨(Nat.le_trans (bz_ bl_) hk_), (Kd.fresh' (Kd.R_lt (Kd.pR HO_4.out)) k_ hk_), (Kd.fresh' (Kd.N_lt (Kd.pN HO_8.out)) k_ hk_), (Kd.fresh' (Kd.R_lt (Kd.pR HO_441000.out)) k_ hk_), (Kd.freshB (pk BK428.out) k_ hk_), (Kd.freshB (pk BK440.out) k_ hk_)⟩)) (bz_ bl_)); have n4_ := ak_ (blk_below (pk BK428.out) hb); have n5_ := ak_ (blk_below (pk BK440.out) hb); have n6_ := ak_ (bs_ bl_ hb); clear HO_4; clear HO_8; clear HO_441000; clear BK428; clear BK440; clear HB; have HO_4 := n0_; have HO_8 := n1_; have HO_441000 := n2_; have HO445 := n3_; have BK428 := n4_; have BK440 := n5_; have HB := n6_; clear n0_ n1_ n2_ n3_ n4_ n5_ n6_; (try clear hb); (try clear hb2); (try clear hk); (try clear hi); (try clear ho0); obtain ⟨Ao32, co32, eo32⟩ := Kd.N_slice HO445.out; subst eo32))
        go_loopg [8, 37] k1 (fun kq v8 v37 w' => ∃ (x8_2 : List (List Int)) (x37_2 : Int) (x441000_2 : List Bool) (x441001_2 : Bool) (u441000 : Value), v37 = .int .i64 x37_2 ∧ Aside0 (spec_FirstRides.l1 kq t430 x7_1 x8_2 t443 (t443.length : Int) x37_2 a0_0 l0_1 a0_2 x441000_2 x441001_2 = some (r1, r2)) ∧ Aside0 (kq ≤ k1) ∧ Aside0 (Kd.R (Kd.int .i64) 3 w' w.heap.size (fun k_ => (w.heap.size ≤ k_)) (.slice (some ad442) t430.length co23) t430) ∧ Aside0 (Kd.N (Kd.slice 3 (Kd.int .i64)) 29 w' w.heap.size (fun k_ => (w.heap.size ≤ k_) ∧ some k_ ≠ ((.slice (some ad442) t430.length co23) : Value).ownBlock ∧ some k_ ≠ ((.slice Ao32 t443.length co32) : Value).ownBlock ∧ some k_ ≠ (u441000 : Value).ownBlock ∧ k_ ≠ gb428 ∧ k_ ≠ gb440) v8 x8_2) ∧ Aside0 (Kd.N (Kd.slice 3 (Kd.int .i64)) 29 w' w.heap.size (fun k_ => (w.heap.size ≤ k_) ∧ some k_ ≠ ((.slice (some ad442) t430.length co23) : Value).ownBlock ∧ some k_ ≠ (v8 : Value).ownBlock ∧ some k_ ≠ (u441000 : Value).ownBlock ∧ k_ ≠ gb428 ∧ k_ ≠ gb440) (.slice Ao32 t443.length co32) t443) ∧ Aside0 (Kd.R Kd.bool 4 w' w.heap.size (fun k_ => (w.heap.size ≤ k_)) u441000 x441000_2) ∧ Aside0 (w'.heap[gb428]? = some (.cells #[.int .i64 a0_0, (.slice A0_1 l0_1.length c0_1), .int .i64 a0_2] 52 (0, 0))) ∧ Aside0 (w'.heap[gb440]? = some (.cells #[u441000, .bool x441001_2] 90 (0, 0))) ∧ Aside0 (Below w.heap.size w w'))
        case atStart => exact ⟨(x8_1), (0), (x441000_1), (x441001_1), (.slice Ao30 x441000_1.length co30), (ry_), H', ⟨Nat.le_refl _⟩, ⟨Kd.pR HO_4.out⟩, ⟨by (with_reducible repeat (first | apply Kd.N_alloc | apply Kd.N_drewN | apply Kd.N_drew)); exact Kd.N_mono HO_8.out (fun _ hk => ⟨hk.1.1, ⟨hk.1.2.1, ⟨hk.2, ⟨hk.1.2.2.1, ⟨hk.1.2.2.2.1, hk.1.2.2.2.2⟩⟩⟩⟩⟩)⟩, ⟨Kd.pN HO445.out⟩, ⟨Kd.pR HO_441000.out⟩, ⟨pk BK428.out⟩, ⟨pk BK440.out⟩, ⟨by repeat (first | exact HB.out | apply ba_ | apply bN_ | apply b1_ | refine below_set ?_ (Aside0.out (by assumption)))⟩⟩
        case round =>
         clear H'
         try clear c1
         try clear c2
         try clear p2
         try clear c3
         try clear p4
         try clear q4
         try clear hx4
         try clear c6
         try clear c7
         try clear c11
         try clear c11b0
         try clear c12
         try clear c12b0
         try clear c20
         try clear c24
         try clear c24b0
         try clear c25
         try clear c25b0
         try clear c27
         try clear hcz14_0
         try clear hcz14_1
         try clear hcz14_2
         try clear hcz16_0
         try clear hcz16_1
         try clear hcz16_2
         try clear hcz21_0
         try clear hcz21_1
         try clear hcz28_0
         try clear hcz28_1
         try clear hcz28_2
         try clear hcz29_0
         try clear hcz29_1
         try clear hcz5_0
         try clear hcz5_1
         try clear hcz5_2
         try clear hfz14_0
         try clear hfz14_1
         try clear hfz14_2
         try clear hfz16_0
         try clear hfz16_1
         try clear hfz16_2
         try clear hfz21_0
         try clear hfz21_1
         try clear hfz28_0
         try clear hfz28_1
         try clear hfz28_2
         try clear hfz29_0
         try clear hfz29_1
         try clear hfz5_0
         try clear hfz5_1
         try clear hfz5_2
         try clear hx442_0
         try clear p2
         try clear p4
         try clear p442
         try clear q4
         try clear q442
         obtain ⟨x8_2, x37_2, x441000_2, x441001_2, u441000, rfl, HA, HK2, HO_4, HO_8, HO_35, HO_441000, BK428, BK440, HB⟩ := hrel
         cases gk with
         | zero => exact absurd HA.out (by simp [spec_FirstRides.l1])
         | succ k2 =>
          have H := HA.out
          clear HA
          simp only [spec_FirstRides.l1] at H
          by_cases c33 : x37_2 < (t443.length : Int)
          ·
           rw [if_pos c33] at H
           have c33b0 : decide (x37_2 < (t443.length : Int)) = true := decide_eq_true c33
           clear c33
           by_cases c34 : 0 ≤ x37_2
           ·
            rw [if_pos c34] at H
            have c34b0 : decide (0 ≤ x37_2) = true := decide_eq_true c34
            clear c34
            by_cases c35 : x37_2 < (t443.length : Int)
            ·
             rw [if_pos c35] at H
             have c35b0 : decide (x37_2 < (t443.length : Int)) = true := decide_eq_true c35
             clear c35
             replace H := Option.bind_eq_some_iff.mp H
             obtain ⟨⟨t447, t450⟩, A360, H⟩ := H
             replace H : ((spec_keIndex.f k2 t447 t450).bind fun t452 => (if 0 ≤ t452 then (if t452 < (t430.length : Int) then (if (rd t430 t452) = (wrap64 (x7_1 - 1)) then (if x8_2.length < 5864062014805 then (spec_FirstRides.l0 k2 t430 (wrap64 (x7_1 - 1)) (x8_2 ++ [rd_L1 t443 x37_2]) a0_0 l0_1 a0_2 t447 t450) else (none)) else (spec_FirstRides.l1 k2 t430 x7_1 x8_2 t443 (t443.length : Int) (wrap64 (x37_2 + 1)) a0_0 l0_1 a0_2 x441000_2 x441001_2)) else (none)) else (none))) = some (r1, r2) := H
             have A36 := ak_ A360
             clear A360
             replace H := Option.bind_eq_some_iff.mp H
             obtain ⟨t452, A370, H⟩ := H
             replace H : (if 0 ≤ t452 then (if t452 < (t430.length : Int) then (if (rd t430 t452) = (wrap64 (x7_1 - 1)) then (if x8_2.length < 5864062014805 then (spec_FirstRides.l0 k2 t430 (wrap64 (x7_1 - 1)) (x8_2 ++ [rd_L1 t443 x37_2]) a0_0 l0_1 a0_2 t447 t450) else (none)) else (spec_FirstRides.l1 k2 t430 x7_1 x8_2 t443 (t443.length : Int) (wrap64 (x37_2 + 1)) a0_0 l0_1 a0_2 x441000_2 x441001_2)) else (none)) else (none)) = some (r1, r2) := H
             have A37 := ak_ A370
             clear A370
             by_cases c38 : 0 ≤ t452
             ·
              rw [if_pos c38] at H
              have c38b0 : decide (0 ≤ t452) = true := decide_eq_true c38
              clear c38
              by_cases c39 : t452 < (t430.length : Int)
              ·
               rw [if_pos c39] at H
               have c39b0 : decide (t452 < (t430.length : Int)) = true := decide_eq_true c39
               clear c39
               have HC40 := ak_ H
               clear H
               have p446 : 0 ≤ (x37_2 : Int) := odt_ (by assumption)
               have q446 : x37_2 < (t443.length : Int) := odt_ (by assumption)
               obtain ⟨ad446, A446_0, c446_0, e446, hx446_0, hl446_0, hi446_0⟩ := at_L1 (Kd.N_reads' HO_35.out).2.2 x37_2 p446 q446
               cases e446
               obtain ⟨ce446, hce446, hMe446, hcc446⟩ := Kd.N_get HO_35.out [] x37_2 p446 (by first | exact q446 | exact odt_ (by assumption) | (have e_ := (Kd.N_reads' HO_35.out).1; omega))
               obtain ⟨ua446_0, uc446_0, rfl, ul446_0, ge446_0⟩ := Kd.FK_slice_open hMe446
               have hv446_0 := hcc446 0 _ rfl
               rw [Nat.add_zero, show ((Kd.slice 3 (Kd.int .i64))).sz = 1 from rfl, Nat.mul_one] at hv446_0
               replace hv446_0 := Option.some.inj (hv446_0.symm.trans hx446_0)
               injection hv446_0 with hva_ hvn_ hvc_
               rw [hva_] at ge446_0
               rw [hvc_] at ul446_0
               have HL446_0 := ak_ (show Kd.V (Kd.int .i64) 3 _ w.heap.size _ _ (rd_L1 t443 x37_2) from Kd.V_mk ul446_0 ge446_0)
               clear hva_ hvn_ hvc_ ge446_0 ul446_0 hcc446 hce446
               have HR446_0 := ak_ hi446_0
               have HC446_0 := ak_ hl446_0
               clear hi446_0 hl446_0
               replace p446 := eq_true p446
               replace q446 := eq_true q446
               have hnb41 := NB440_428.out
               have hnc41 := NB428_440.out
               obtain ⟨hcz42_0, hcz42_1, hfz42_0, hfz42_1⟩ := c2_ BK440.out
               obtain ⟨Ao43, co43, eo43⟩ := Kd.R_slice HO_441000.out
               subst eo43
               go_upto_if 51 with (first | ((with_reducible refine gate_callee (f := 75) rfl ?_); refine goesL_ (some 43) rfl rfl Try.func75 (by kernel_rfl) rfl #[.agg #[.slice Ao43 x441000_2.length co43, .bool x441001_2], .slice A446_0 (rd_L1 t443 x37_2).length c446_0] rfl (by first | rfl | (simp only [map_toArray, map_cons, map_nil]; try rfl)) ?_; (with_reducible refine (spec_keRide.calls k2 _ _ x441000_2 x441001_2 _ _ (rd_L1 t443 x37_2) t447 t450 _ ?side1 ?side2 ?side3 ?side4 A36.out).mono ?_); (case side1 => exact cs_ ((Kd.R_reads' HO_441000.out).2.2)); (case side2 => exact (Kd.R_reads' HO_441000.out).2.1); (case side3 => repeat (first | exact (by repeat (first | (with_reducible exact HR446_0.out) | (with_reducible refine Kd.C_alloc ?_ _) | (with_reducible refine Kd.C_drewN ?_ _) | (with_reducible refine Kd.C_drew ?_) | exact HR446_0.out)) | (with_reducible refine Kd.C_alloc ?_ _) | (with_reducible refine Kd.C_drewN ?_ _) | (with_reducible refine Kd.C_drew ?_))); (case side4 => exact HC446_0.out); rintro e w44 ⟨v448, rfl, ho0, hb⟩; refine ⟨_, rfl, ?_⟩; have n0_ := ak_ (Kd.R_below (Kd.pR HO_4.out) hb); have n1_ := ak_ (Kd.N_elder' (Kd.pN HO_8.out) (Kd.R_base ho0) hb); have n2_ := ak_ (Kd.N_elder' (Kd.pN HO_35.out) (Kd.R_base ho0) hb); have n3_ := ak_ (Kd.R_elder' (Kd.pR HO_441000.out) (Kd.R_base ho0) hb); have n4_ := ak_ (Kd.V_elder' (Kd.pV HL446_0.out) (Kd.R_base ho0) hb); have n5_ := ak_ (Kd.R_lower (Kd.R_new' (Kd.R_newM (M := fun k_ => (w.heap.size ≤ k_)) ho0 (bz_ bl_) (fun k_ h_ => h_)) (Kd.R_lt (Kd.pR HO_441000.out))) (bz_ bl_)); have n6_ := ak_ (blk_below (pk BK428.out) hb); have n7_ := ak_ (blk_below (pk BK440.out) hb); have n8_ := ak_ (Kd.C_below (by repeat (first | (with_reducible exact HR446_0.out) | (with_reducible refine Kd.C_alloc ?_ _) | (with_reducible refine Kd.C_drewN ?_ _) | (with_reducible refine Kd.C_drew ?_) | exact HR446_0.out)) hb); have n9_ := ak_ (bs_ bl_ hb); clear HO_4; clear HO_8; clear HO_35; clear HO_441000; clear HL446_0; clear BK428; clear BK440; clear HR446_0; clear HB; have HO_4 := n0_; have HO_8 := n1_; have HO_35 := n2_; have HO_441000 := n3_; have HL446_0 := n4_; have HO449 := n5_; have BK428 := n6_; have BK440 := n7_; have HR446_0 := n8_; have HB := n9_; clear n0_ n1_ n2_ n3_ n4_ n5_ n6_ n7_ n8_ n9_; (try clear hb); (try clear hb2); (try clear hk); (try clear hi); (try clear ho0)) | ((with_reducible refine gate_dst (N := 11) rfl ?_); refine bx_ 11 #[.slice none 0 0, .bool false] 90 ?_; intro gb451 hg w45 hbox hb; have n0_ := ak_ (Kd.R_below (Kd.pR HO_4.out) hb); have n1_ := ak_ (Kd.N_below (Kd.N_elderB (Kd.pN HO_8.out) gb451 (Nat.le_of_eq hg.symm)) hb); have n2_ := ak_ (Kd.N_below (Kd.N_elderB (Kd.pN HO_35.out) gb451 (Nat.le_of_eq hg.symm)) hb); have n3_ := ak_ (Kd.R_below (Kd.pR HO_441000.out) hb); have n4_ := ak_ (Kd.V_below (Kd.V_elderB (Kd.pV HL446_0.out) gb451 (Nat.le_of_eq hg.symm)) hb); have n5_ := ak_ (Kd.R_below (Kd.pR HO449.out) hb); have n6_ := ak_ (blk_below (pk BK428.out) hb); have n7_ := ak_ (blk_below (pk BK440.out) hb); have n8_ := ak_ (Kd.C_below (by repeat (first | (with_reducible exact HR446_0.out) | (with_reducible refine Kd.C_alloc ?_ _) | (with_reducible refine Kd.C_drewN ?_ _) | (with_reducible refine Kd.C_drew ?_) | exact HR446_0.out)) hb); have n9_ := ak_ (bs_ bl_ hb); have n10_ := ak_ (hbox); have n11_ := ak_ ((by rw [hg]; exact (bz_ bl_) : w.heap.size ≤ gb451)); have n12_ := n11_; have n13_ := ak_ ((by rw [hg]; exact Nat.ne_of_lt (blk_lt (pk BK428.out)) : gb428 ≠ gb451)); have n14_ := ak_ n13_.out.symm; have n15_ := ak_ ((by rw [hg]; exact Nat.ne_of_lt (blk_lt (pk BK440.out)) : gb440 ≠ gb451)); have n16_ := ak_ n15_.out.symm; clear HO_4; clear HO_8; clear HO_35; clear HO_441000; clear HL446_0; clear HO449; clear BK428; clear BK440; clear HR446_0; clear HB; have HO_4 := n0_; have HO_8 := n1_; have HO_35 := n2_; have HO_441000 := n3_; have HL446_0 := n4_; have HO449 := n5_; have BK428 := n6_; have BK440 := n7_; have HR446_0 := n8_; have HB := n9_; have BK451 := n10_; have GW451 := n11_; have GE451 := n12_; have NB428_451 := n13_; have NB451_428 := n14_; have NB440_451 := n15_; have NB451_440 := n16_; clear n0_ n1_ n2_ n3_ n4_ n5_ n6_ n7_ n8_ n9_ n10_ n11_ n12_ n13_ n14_ n15_ n16_; clear hb hbox hg; obtain ⟨Ao46, co46, eo46⟩ := Kd.R_slice HO449.out; subst eo46; have hnb47 := NB451_428.out; have hnc47 := NB428_451.out; have hnb48 := NB451_440.out; have hnc48 := NB440_451.out; obtain ⟨hcz49_0, hcz49_1, hfz49_0, hfz49_1⟩ := c2_ BK451.out) | ((with_reducible refine gate_callee (f := 63) rfl ?_); refine goesL_ (some 46) rfl rfl Try.func63 (by kernel_rfl) rfl #[.agg #[.slice Ao46 t447.length co46, .bool t450]] rfl (by first | rfl | (simp only [map_toArray, map_cons, map_nil]; try rfl)) ?_; (with_reducible refine (spec_keIndex.calls k2 _ _ t447 t450 t452 _ ?side1 ?side2 A37.out).mono ?_); (case side1 => refine (Kd.R_reads' (e := 4) (base := w.heap.size) (ok := fun k_ => (((w.heap.size ≤ k_) ∧ True) ∧ some k_ ≠ (.slice Ao43 x441000_2.length co43 : Value).ownBlock)) (n := t447.length) (c := co46) ?_).2.2; exact (by (with_reducible repeat (first | apply Kd.R_alloc | apply Kd.R_drewN | apply Kd.R_drew)); exact (Kd.R_mono (Kd.R_far (p := ⟨gb451, 1, none⟩) (Kd.R_far (p := ⟨gb451, 0, none⟩) (Kd.R_types HO449.out BK451.out (by decide)) (fun _ hk => hk.2) (.slice Ao46 t447.length co46)) (fun _ hk => hk.2) (.bool t450)) (fun _ h_ => h_.1)))); (case side2 => exact (Kd.R_reads' HO449.out).2.1); rintro e w50 ⟨rfl, hb⟩; refine ⟨_, rfl, ?_⟩; have n0_ := ak_ (Kd.R_below (by (with_reducible repeat (first | apply Kd.R_alloc | apply Kd.R_drewN | apply Kd.R_drew)); exact (Kd.R_mono (Kd.R_far (p := ⟨gb451, 1, none⟩) (Kd.R_far (p := ⟨gb451, 0, none⟩) (Kd.R_types HO_4.out BK451.out (by decide)) (fun _ hk => hk.2) (.slice Ao46 t447.length co46)) (fun _ hk => hk.2) (.bool t450)) (fun _ h_ => h_.1))) hb); have n1_ := ak_ (Kd.N_below (by (with_reducible repeat (first | apply Kd.N_alloc | apply Kd.N_drewN | apply Kd.N_drew)); exact (Kd.N_mono (Kd.N_far (p := ⟨gb451, 1, none⟩) (Kd.N_far (p := ⟨gb451, 0, none⟩) (Kd.N_mono HO_8.out (fun k_ hk => (⟨hk, hk.2⟩ : _ ∧ k_ ≠ gb451))) (fun _ hk => hk.2) (.slice Ao46 t447.length co46)) (fun _ hk => hk.2) (.bool t450)) (fun _ h_ => h_.1))) hb); have n2_ := ak_ (Kd.N_below (by (with_reducible repeat (first | apply Kd.N_alloc | apply Kd.N_drewN | apply Kd.N_drew)); exact (Kd.N_mono (Kd.N_far (p := ⟨gb451, 1, none⟩) (Kd.N_far (p := ⟨gb451, 0, none⟩) (Kd.N_mono HO_35.out (fun k_ hk => (⟨hk, hk.2⟩ : _ ∧ k_ ≠ gb451))) (fun _ hk => hk.2) (.slice Ao46 t447.length co46)) (fun _ hk => hk.2) (.bool t450)) (fun _ h_ => h_.1))) hb); have n3_ := ak_ (Kd.R_below (by (with_reducible repeat (first | apply Kd.R_alloc | apply Kd.R_drewN | apply Kd.R_drew)); exact (Kd.R_mono (Kd.R_far (p := ⟨gb451, 1, none⟩) (Kd.R_far (p := ⟨gb451, 0, none⟩) (Kd.R_types HO_441000.out BK451.out (by decide)) (fun _ hk => hk.2) (.slice Ao46 t447.length co46)) (fun _ hk => hk.2) (.bool t450)) (fun _ h_ => h_.1))) hb); have n4_ := ak_ (Kd.V_below (by (with_reducible repeat (first | apply Kd.V_alloc | apply Kd.V_drewN | apply Kd.V_drew)); exact (Kd.V_mono (Kd.V_far (p := ⟨gb451, 1, none⟩) (Kd.V_far (p := ⟨gb451, 0, none⟩) (Kd.V_mono HL446_0.out (fun k_ hk => (⟨hk, hk.2⟩ : _ ∧ k_ ≠ gb451))) (fun _ hk => hk.2) (.slice Ao46 t447.length co46)) (fun _ hk => hk.2) (.bool t450)) (fun _ h_ => h_.1))) hb); have n5_ := ak_ (Kd.R_below (by (with_reducible repeat (first | apply Kd.R_alloc | apply Kd.R_drewN | apply Kd.R_drew)); exact (Kd.R_mono (Kd.R_far (p := ⟨gb451, 1, none⟩) (Kd.R_far (p := ⟨gb451, 0, none⟩) (Kd.R_types HO449.out BK451.out (by decide)) (fun _ hk => hk.2) (.slice Ao46 t447.length co46)) (fun _ hk => hk.2) (.bool t450)) (fun _ h_ => h_.1))) hb); have n6_ := ak_ (blk_below (g := gb428) (o := .cells #[.int .i64 a0_0, .slice A0_1 l0_1.length c0_1, .int .i64 a0_2] 52 (0, 0)) (by (with_reducible repeat (first | refine kN_ ?_ _ | refine k1_ ?_ | refine ka_ ?_ _)); refine blk_far ?_ NB428_451.out _; (with_reducible repeat (first | refine kN_ ?_ _ | refine k1_ ?_ | refine ka_ ?_ _)); refine blk_far ?_ NB428_451.out _; exact pk BK428.out) hb); have n7_ := ak_ (blk_below (g := gb440) (o := .cells #[.slice Ao43 x441000_2.length co43, .bool x441001_2] 90 (0, 0)) (by (with_reducible repeat (first | refine kN_ ?_ _ | refine k1_ ?_ | refine ka_ ?_ _)); refine blk_far ?_ NB440_451.out _; (with_reducible repeat (first | refine kN_ ?_ _ | refine k1_ ?_ | refine ka_ ?_ _)); refine blk_far ?_ NB440_451.out _; exact pk BK440.out) hb); have n8_ := ak_ (Kd.C_below ((Kd.V_reads' (by (with_reducible repeat (first | apply Kd.V_alloc | apply Kd.V_drewN | apply Kd.V_drew)); exact (Kd.V_mono (Kd.V_far (p := ⟨gb451, 1, none⟩) (Kd.V_far (p := ⟨gb451, 0, none⟩) (Kd.V_mono HL446_0.out (fun k_ hk => (⟨hk, hk.2⟩ : _ ∧ k_ ≠ gb451))) (fun _ hk => hk.2) (.slice Ao46 t447.length co46)) (fun _ hk => hk.2) (.bool t450)) (fun _ h_ => h_.1)))).2.2) hb); have n9_ := ak_ (blk_below (g := gb451) (o := .cells #[.slice Ao46 t447.length co46, .bool t450] 90 (0, 0)) (by (with_reducible repeat (first | refine kN_ ?_ _ | refine k1_ ?_ | refine ka_ ?_ _)); refine blk_put (cs := #[.slice Ao46 t447.length co46, .bool false]) ?_ 1 _ rfl; (with_reducible repeat (first | refine kN_ ?_ _ | refine k1_ ?_ | refine ka_ ?_ _)); refine blk_put (cs := #[.slice none 0 0, .bool false]) ?_ 0 _ rfl; exact pk BK451.out) hb); have n10_ := ak_ (bs_ bl_ hb); clear HO_4; clear HO_8; clear HO_35; clear HO_441000; clear HL446_0; clear HO449; clear BK428; clear BK440; clear HR446_0; clear BK451; clear HB; have HO_4 := n0_; have HO_8 := n1_; have HO_35 := n2_; have HO_441000 := n3_; have HL446_0 := n4_; have HO449 := n5_; have BK428 := n6_; have BK440 := n7_; have HR446_0 := n8_; have BK451 := n9_; have HB := n10_; clear n0_ n1_ n2_ n3_ n4_ n5_ n6_ n7_ n8_ n9_ n10_; (try clear hb); (try clear hb2); (try clear hk); (try clear hi); have p453 : 0 ≤ (t452 : Int) := odt_ (by assumption); have q453 : t452 < (t430.length : Int) := odt_ (by assumption); obtain ⟨ad453, e453, hx453_0⟩ := Kd.at_int (Kd.R_reads' HO_4.out).2.2 t452 p453 q453; obtain rfl : ad442 = ad453 := (by injection e453); replace p453 := eq_true p453; replace q453 := eq_true q453))
               (try simp only [Act.put, setIfInBounds_toArray, set_cons_zero, set_cons_succ])
               have H := HC40.out
               clear HC40
               by_cases c51 : (rd t430 t452) = (wrap64 (x7_1 - 1))
               ·
                rw [if_pos c51] at H
                have c51b0 : ((rd t430 t452) == (wrap64 (x7_1 - 1))) = true := beq_iff_eq.mpr c51
                have c51b1 : ((rd t430 t452) != (wrap64 (x7_1 - 1))) = false := bne_eq_false_iff_eq.mpr c51
                clear c51
                (first | rw [c51b0] | (simp only [i64_w, i32_w]; rw [c51b0]) | rw [c51b1] | skip)
                by_cases c52 : x8_2.length < 5864062014805
                ·
                 rw [if_pos c52] at H
                 have LMc52 := ak_ c52
                 clear c52
                 obtain ⟨y454, hy454⟩ : ∃ y_ : List (List Int), y_ = (x8_2 ++ [rd_L1 t443 x37_2]) := ⟨_, rfl⟩
                 replace H : (spec_FirstRides.l0 k2 t430 (wrap64 (x7_1 - 1)) y454 a0_0 l0_1 a0_2 t447 t450) = some (r1, r2) := by first | (rw [hy454]; exact H) | exact H
                 have Ny454 := ak_ hy454
                 clear hy454
                 have H' := ak_ H
                 clear H
                 go_wp2_with (first | ((with_reducible refine gate_builtin (b := .append) (xs := #[.tmp 52, .tmp 54]) rfl ?_); at_builtin; refine Kd.N_append (Kd.slice 3 (Kd.int .i64)) (w0 := w) w.heap.size rfl (.tmp 52) (.tmp 54) 47 29 (.slice none 0 0) 24 rfl Try.underlying47 info29 rfl (by decide) (by omega) u8 x8_2 (rd_L1 t443 x37_2) [.slice A446_0 (rd_L1 t443 x37_2).length c446_0] (fun k_ => (w.heap.size ≤ k_) ∧ some k_ ≠ (.slice (some ad442) t430.length co23 : Value).ownBlock ∧ some k_ ≠ (.slice (some ad446) t443.length co32 : Value).ownBlock ∧ some k_ ≠ (.slice Ao43 x441000_2.length co43 : Value).ownBlock ∧ some k_ ≠ (.slice Ao46 t447.length co46 : Value).ownBlock ∧ k_ ≠ gb428 ∧ k_ ≠ gb440 ∧ k_ ≠ gb451) (fun k_ => ((fun k_ => (w.heap.size ≤ k_) ∧ some k_ ≠ (.slice (some ad442) t430.length co23 : Value).ownBlock ∧ some k_ ≠ (.slice (some ad446) t443.length co32 : Value).ownBlock ∧ some k_ ≠ (.slice Ao43 x441000_2.length co43 : Value).ownBlock ∧ some k_ ≠ (.slice Ao46 t447.length co46 : Value).ownBlock ∧ k_ ≠ gb428 ∧ k_ ≠ gb440 ∧ k_ ≠ gb451)) k_ ∧ some k_ ≠ (u8 : Value).ownBlock) rfl rfl ?aP (fun _ hk => hk) ?aF ?aO ?aB ?aS ?aL ?_; (case aP => exact (Kd.FK_slice_mk (Kd.V_reads' (Kd.V_mono (ok' := (fun k_ => ((fun k_ => (w.heap.size ≤ k_) ∧ some k_ ≠ (.slice (some ad442) t430.length co23 : Value).ownBlock ∧ some k_ ≠ (.slice (some ad446) t443.length co32 : Value).ownBlock ∧ some k_ ≠ (.slice Ao43 x441000_2.length co43 : Value).ownBlock ∧ some k_ ≠ (.slice Ao46 t447.length co46 : Value).ownBlock ∧ k_ ≠ gb428 ∧ k_ ≠ gb440 ∧ k_ ≠ gb451)) k_ ∧ some k_ ≠ (u8 : Value).ownBlock)) (HL446_0.out) (fun k_ hk => ⟨⟨hk.1.1.1.1, ⟨hk.1.1.1.2.1, ⟨hk.1.1.2, ⟨hk.1.1.1.2.2.2.1, ⟨hk.1.2, ⟨hk.1.1.1.2.2.2.2.1, ⟨hk.1.1.1.2.2.2.2.2, hk.2⟩⟩⟩⟩⟩⟩⟩, hk.1.1.1.2.2.1⟩))).2.1 (Kd.V_F (Kd.V_mono (ok' := (fun k_ => ((fun k_ => (w.heap.size ≤ k_) ∧ some k_ ≠ (.slice (some ad442) t430.length co23 : Value).ownBlock ∧ some k_ ≠ (.slice (some ad446) t443.length co32 : Value).ownBlock ∧ some k_ ≠ (.slice Ao43 x441000_2.length co43 : Value).ownBlock ∧ some k_ ≠ (.slice Ao46 t447.length co46 : Value).ownBlock ∧ k_ ≠ gb428 ∧ k_ ≠ gb440 ∧ k_ ≠ gb451)) k_ ∧ some k_ ≠ (u8 : Value).ownBlock)) (HL446_0.out) (fun k_ hk => ⟨⟨hk.1.1.1.1, ⟨hk.1.1.1.2.1, ⟨hk.1.1.2, ⟨hk.1.1.1.2.2.2.1, ⟨hk.1.2, ⟨hk.1.1.1.2.2.2.2.1, ⟨hk.1.1.1.2.2.2.2.2, hk.2⟩⟩⟩⟩⟩⟩⟩, hk.1.1.1.2.2.1⟩))))); (case aB => exact bl_); (case aF => exact (fun k_ hk => ⟨(Nat.le_trans (bz_ bl_) hk), Kd.fresh' (Kd.R_lt (Kd.pR HO_4.out)) k_ hk, Kd.fresh' (Kd.N_lt (Kd.pN HO_35.out)) k_ hk, Kd.fresh' (Kd.R_lt (Kd.pR HO_441000.out)) k_ hk, Kd.fresh' (Kd.R_lt (Kd.pR HO449.out)) k_ hk, Kd.freshB (pk BK428.out) k_ hk, Kd.freshB (pk BK440.out) k_ hk, Kd.freshB (pk BK451.out) k_ hk⟩)); (case aO => exact (by (with_reducible repeat (first | apply Kd.N_alloc | apply Kd.N_drewN | apply Kd.N_drew)); exact Kd.N_mono HO_8.out (fun _ hk => ⟨hk.1.1.1, ⟨hk.1.1.2.1, ⟨hk.1.1.2.2.1, ⟨hk.1.1.2.2.2.1, ⟨hk.1.2, ⟨hk.1.1.2.2.2.2.1, ⟨hk.1.1.2.2.2.2.2, hk.2⟩⟩⟩⟩⟩⟩⟩))); (case aS => exact (bz_ bl_)); (case aL => have := LMc52.out; omega); intro v455 w53 ho hb hg hat; rw [← Ny454.out] at ho; have n0_ := ak_ (Kd.R_over' (Kd.pR HO_4.out) (Kd.N_typed (Kd.pN HO_8.out)) (by decide) hg); have n1_ := ak_ (Kd.N_afterv (ok := (fun k_ => (w.heap.size ≤ k_) ∧ some k_ ≠ (.slice (some ad442) t430.length co23 : Value).ownBlock ∧ some k_ ≠ (.slice Ao43 x441000_2.length co43 : Value).ownBlock ∧ some k_ ≠ (.slice Ao46 t447.length co46 : Value).ownBlock ∧ k_ ≠ gb428 ∧ k_ ≠ gb440 ∧ k_ ≠ gb451)) (by (with_reducible repeat (first | apply Kd.N_alloc | apply Kd.N_drewN | apply Kd.N_drew)); exact Kd.N_mono HO_35.out (fun _ hk => ⟨⟨hk.1.1.1, ⟨hk.1.1.2.1, ⟨hk.1.1.2.2.2.1, ⟨hk.1.2, ⟨hk.1.1.2.2.2.2.1, ⟨hk.1.1.2.2.2.2.2, hk.2⟩⟩⟩⟩⟩⟩, hk.1.1.2.2.1⟩)) hg hat); have n2_ := ak_ (Kd.R_over' (Kd.pR HO_441000.out) (Kd.N_typed (Kd.pN HO_8.out)) (by decide) hg); have n3_ := ak_ (blk_grown (pk BK428.out) hg (Kd.N_ne HO_8.out BK428.out (by decide))); have n4_ := ak_ (blk_grown (pk BK440.out) hg (Kd.N_ne HO_8.out BK440.out (by decide))); have n5_ := ak_ (Kd.V_afterv (ok := (fun k_ => (w.heap.size ≤ k_) ∧ some k_ ≠ (.slice (some ad442) t430.length co23 : Value).ownBlock ∧ some k_ ≠ (.slice (some ad446) t443.length co32 : Value).ownBlock ∧ some k_ ≠ (.slice Ao43 x441000_2.length co43 : Value).ownBlock ∧ some k_ ≠ (.slice Ao46 t447.length co46 : Value).ownBlock ∧ k_ ≠ gb428 ∧ k_ ≠ gb440 ∧ k_ ≠ gb451)) (by (with_reducible repeat (first | apply Kd.V_alloc | apply Kd.V_drewN | apply Kd.V_drew)); exact Kd.V_mono HL446_0.out (fun _ hk => ⟨⟨hk.1.1.1.1, ⟨hk.1.1.1.2.1, ⟨hk.1.1.2, ⟨hk.1.1.1.2.2.2.1, ⟨hk.1.2, ⟨hk.1.1.1.2.2.2.2.1, ⟨hk.1.1.1.2.2.2.2.2, hk.2⟩⟩⟩⟩⟩⟩⟩, hk.1.1.1.2.2.1⟩)) hg hat); have n6_ := ak_ (Kd.R_over' (Kd.pR HO449.out) (Kd.N_typed (Kd.pN HO_8.out)) (by decide) hg); have n7_ := ak_ (blk_grown (pk BK451.out) hg (Kd.N_ne HO_8.out BK451.out (by decide))); have n8_ := ak_ (hb); have n9_ := ak_ (ho); clear HO_4; clear HO_35; clear HO_441000; clear BK428; clear BK440; clear HL446_0; clear HO449; clear BK451; clear HB; clear HO_8; have HO_4 := n0_; have HO_35 := n1_; have HO_441000 := n2_; have BK428 := n3_; have BK440 := n4_; have HL446_0 := n5_; have HO449 := n6_; have BK451 := n7_; have HB := n8_; have HO456 := n9_; clear n0_ n1_ n2_ n3_ n4_ n5_ n6_ n7_ n8_ n9_; clear ho hb hg hat; have hnb54 := NB451_428.out; have hnc54 := NB428_451.out; have hnb55 := NB451_440.out; have hnc55 := NB440_451.out; obtain ⟨hcz56_0, hcz56_1, hfz56_0, hfz56_1⟩ := c2_ BK451.out; have hnb57 := NB440_428.out; have hnc57 := NB428_440.out; obtain ⟨hcz58_0, hcz58_1, hfz58_0, hfz58_1⟩ := c2_ BK440.out))
                 go_roundg k2
                 case measure => have := HK1.out; have := HK2.out; omega
                 case rel => exact ⟨(wrap64 (x7_1 - 1)), (y454), (t447), (t450), (.slice Ao46 t447.length co46), (ry_), H', ⟨by have := HK1.out; have := HK2.out; omega⟩, ⟨by (with_reducible repeat (first | apply Kd.R_alloc | apply Kd.R_drewN | apply Kd.R_drew)); exact Kd.R_mono (Kd.R_far (p := ⟨gb440, 1, none⟩) (Kd.R_far (p := ⟨gb440, 0, none⟩) (Kd.R_types HO_4.out BK440.out (by decide)) (fun _ hk => hk.2) (.slice Ao46 t447.length co46)) (fun _ hk => hk.2) (.bool t450)) (fun _ hk => hk.1)⟩, ⟨by (with_reducible repeat (first | apply Kd.N_alloc | apply Kd.N_drewN | apply Kd.N_drew)); exact Kd.N_mono (Kd.N_far (p := ⟨gb440, 1, none⟩) (Kd.N_far (p := ⟨gb440, 0, none⟩) (Kd.N_mono HO456.out (fun k_ hk => (⟨hk, hk.2.2.2.2.2.2.1⟩ : _ ∧ k_ ≠ gb440))) (fun _ hk => hk.2) (.slice Ao46 t447.length co46)) (fun _ hk => hk.2) (.bool t450)) (fun _ hk => ⟨hk.1.1, ⟨hk.1.2.1, ⟨hk.1.2.2.2.2.1, ⟨hk.1.2.2.2.2.2.1, hk.1.2.2.2.2.2.2.1⟩⟩⟩⟩)⟩, ⟨by (with_reducible repeat (first | apply Kd.R_alloc | apply Kd.R_drewN | apply Kd.R_drew)); exact Kd.R_mono (Kd.R_far (p := ⟨gb440, 1, none⟩) (Kd.R_far (p := ⟨gb440, 0, none⟩) (Kd.R_types HO449.out BK440.out (by decide)) (fun _ hk => hk.2) (.slice Ao46 t447.length co46)) (fun _ hk => hk.2) (.bool t450)) (fun _ hk => hk.1.1.1)⟩, ⟨by (with_reducible repeat (first | refine kN_ ?_ _ | refine k1_ ?_ | refine ka_ ?_ _)); refine blk_far ?_ NB428_440.out _; (with_reducible repeat (first | refine kN_ ?_ _ | refine k1_ ?_ | refine ka_ ?_ _)); refine blk_far ?_ NB428_440.out _; exact pk BK428.out⟩, ⟨by (with_reducible repeat (first | refine kN_ ?_ _ | refine k1_ ?_ | refine ka_ ?_ _)); refine blk_put (cs := #[.slice Ao46 t447.length co46, .bool x441001_2]) ?_ 1 _ rfl; (with_reducible repeat (first | refine kN_ ?_ _ | refine k1_ ?_ | refine ka_ ?_ _)); refine blk_put (cs := #[.slice Ao43 x441000_2.length co43, .bool x441001_2]) ?_ 0 _ rfl; exact pk BK440.out⟩, ⟨by repeat (first | exact HB.out | apply ba_ | apply bN_ | apply b1_ | refine below_set ?_ (Aside0.out (by assumption)))⟩⟩
                ·
                 rw [if_neg c52] at H
                 exact absurd H (by simp)
               ·
                rw [if_neg c51] at H
                have c51b0 : ((rd t430 t452) == (wrap64 (x7_1 - 1))) = false := beq_eq_false_iff_ne.mpr c51
                have c51b1 : ((rd t430 t452) != (wrap64 (x7_1 - 1))) = true := bne_iff_ne.mpr c51
                (first | rw [c51b0] | (simp only [i64_w, i32_w]; rw [c51b0]) | rw [c51b1] | skip)
                have H' := ak_ H
                clear H
                go_wp2
                go_roundg k2
                case measure => have := HK1.out; have := HK2.out; omega
                case rel => exact ⟨(x8_2), (wrap64 (x37_2 + 1)), (x441000_2), (x441001_2), (.slice Ao43 x441000_2.length co43), (ry_), H', ⟨by have := HK1.out; have := HK2.out; omega⟩, ⟨Kd.pR HO_4.out⟩, ⟨by (with_reducible repeat (first | apply Kd.N_alloc | apply Kd.N_drewN | apply Kd.N_drew)); exact Kd.N_mono HO_8.out (fun _ hk => ⟨hk.1.1.1, ⟨hk.1.1.2.1, ⟨hk.1.1.2.2.1, ⟨hk.1.1.2.2.2.1, ⟨hk.1.1.2.2.2.2.1, hk.1.1.2.2.2.2.2⟩⟩⟩⟩⟩)⟩, ⟨by (with_reducible repeat (first | apply Kd.N_alloc | apply Kd.N_drewN | apply Kd.N_drew)); exact Kd.N_mono HO_35.out (fun _ hk => ⟨hk.1.1.1, ⟨hk.1.1.2.1, ⟨hk.1.1.2.2.1, ⟨hk.1.1.2.2.2.1, ⟨hk.1.1.2.2.2.2.1, hk.1.1.2.2.2.2.2⟩⟩⟩⟩⟩)⟩, ⟨by (with_reducible repeat (first | apply Kd.R_alloc | apply Kd.R_drewN | apply Kd.R_drew)); exact Kd.R_mono HO_441000.out (fun _ hk => hk.1)⟩, ⟨pk BK428.out⟩, ⟨pk BK440.out⟩, ⟨by repeat (first | exact HB.out | apply ba_ | apply bN_ | apply b1_ | refine below_set ?_ (Aside0.out (by assumption)))⟩⟩
              ·
               rw [if_neg c39] at H
               exact absurd H (by simp)
             ·
              rw [if_neg c38] at H
              exact absurd H (by simp)
            ·
             rw [if_neg c35] at H
             exact absurd H (by simp)
           ·
            rw [if_neg c34] at H
            exact absurd H (by simp)
          ·
           rw [if_neg c33] at H
           have c33b0 : decide (x37_2 < (t443.length : Int)) = false := decide_eq_false c33
           clear c33
           have H' := ak_ H
           clear H
           go_wp2
           go_roundg k2
           case measure => have := HK1.out; have := HK2.out; omega
           case rel => exact ⟨(wrap64 (x7_1 - 1)), (x8_2), (x441000_2), (x441001_2), (u441000), (ry_), H', ⟨by have := HK1.out; have := HK2.out; omega⟩, ⟨Kd.pR HO_4.out⟩, ⟨by (with_reducible repeat (first | apply Kd.N_alloc | apply Kd.N_drewN | apply Kd.N_drew)); exact Kd.N_mono HO_8.out (fun _ hk => ⟨hk.1, ⟨hk.2.1, ⟨hk.2.2.2.1, ⟨hk.2.2.2.2.1, hk.2.2.2.2.2⟩⟩⟩⟩)⟩, ⟨Kd.pR HO_441000.out⟩, ⟨pk BK428.out⟩, ⟨pk BK440.out⟩, ⟨by repeat (first | exact HB.out | apply ba_ | apply bN_ | apply b1_ | refine below_set ?_ (Aside0.out (by assumption)))⟩⟩
       ·
        rw [if_neg c25] at H
        have c25b0 : decide (0 < x7_1) = false := decide_eq_false c25
        clear c25
        simp only [Option.some.injEq, Prod.mk.injEq] at H
        obtain ⟨rfl, rfl⟩ := H
        go_wp2
        go_ret2
        exact ⟨_, rx_, by (with_reducible repeat (first | apply Kd.N_alloc | apply Kd.N_drewN | apply Kd.N_drew)); exact Kd.N_mono HO_8.out (fun _ hk => hk.1), by repeat (first | exact HB.out | apply ba_ | apply bN_ | apply b1_ | refine below_set ?_ (Aside0.out (by assumption)))⟩
   ·
    rw [if_neg c12] at H
    exact absurd H (by simp)
  ·
   rw [if_neg c11] at H
   exact absurd H (by simp)
 ·
  replace c7 := Bool.eq_false_iff.mpr c7
  subst c7
  have H1 : (some (([] : List (List Int)), false)) = some (r1, r2) := by rw [if_neg (show ¬ (false = true) by decide)] at H; exact H
  clear H
  have H := H1
  clear H1
  simp only [Option.some.injEq, Prod.mk.injEq] at H
  obtain ⟨rfl, rfl⟩ := H
  go_wp2
  go_ret2
  exact ⟨_, rx_, by first | exact Kd.S_nil _ _ _ _ _ | exact Kd.N_nil _ _ _ _ _ | exact Kd.V_nil _ _ _ _ _ | exact Kd.Q_nil _ _ _ _ _ | exact Kd.R_nil _ _ _ _ _, by repeat (first | exact HB.out | apply ba_ | apply bN_ | apply b1_ | refine below_set ?_ GE428.out)⟩
def impl_in.f (a0 : Int) (a1 : Int) (a2 : Int) : Option (Bool) := if a1 ≤ a0 then (some (decide (a0 ≤ a2))) else (some false)
theorem impl_in.calls (a0 : Int) (a1 : Int) (a2 : Int) (r : Bool) (w : World) (h : impl_in.f a0 a1 a2 = some r) :
  Calls Try.prog 82 #[.int .i64 a0, .int .i64 a1, .int .i64 a2] w fun e w' => e = .returned (.bool r) ∧ Drawn0 w w' := by
 have H : (if a1 ≤ a0 then (some (decide (a0 ≤ a2))) else (some false)) = some r := h
 clear h
 by_cases c4 : a1 ≤ a0
 ·rw [if_pos c4] at H
  have c4b0 : decide (a1 ≤ a0) = true := decide_eq_true c4
  clear c4
  obtain rfl := Option.some.inj H
  go_enter Try.func82, Try.ntmps82
  go_wp2
  go_ret
  exact ⟨ry_, by repeat (first | exact Drawn0.refl _ | apply Drawn0.step)⟩
 ·rw [if_neg c4] at H
  have c4b0 : decide (a1 ≤ a0) = false := decide_eq_false c4
  clear c4
  obtain rfl := Option.some.inj H
  go_enter Try.func82, Try.ntmps82
  go_wp2
  go_ret
  exact ⟨ry_, by repeat (first | exact Drawn0.refl _ | apply Drawn0.step)⟩
def anyO {α : Type} (p : α → Option Bool) : List α → Option Bool
 | [] => some false
 | x :: xs => (p x).bind fun b => if b = true then some true else anyO p xs
theorem anyO_some {α : Type} (p : α → Bool) (l : List α) : anyO (fun x => some (p x)) l = some (l.any p) := by
 induction l with
 | nil => rfl
 | cons x xs ih =>
  simp only [anyO, Option.bind_some, List.any_cons]
  cases p x
  ·simpa using ih
  ·simp
theorem drop_at_i64 {l : List (Int)} {kk : Nat} (h : kk < l.length) : l.drop kk = rd l (kk : Int) :: l.drop (kk + 1) := by
 rw [List.drop_eq_getElem_cons h]
 simp [rd, List.getD_eq_getElem?_getD, List.getElem?_eq_getElem h]
theorem slices_IndexFunc_int_int.calls_fn (g : Nat) (lb : Array Value) (eg : ∀ args w, (callFunc g args).run Try.prog w = .ok (.enter g args) w) (p : Int → Option Bool)
  (A : Option Addr) (c : Nat) (l : List (Int)) (w : World) (hr : Kd.C (Kd.int .i64) w A l.length l)
  (hp : ∀ (W : World) (x : Int) (r : Bool), Below w.heap.size w W → p x = some r → Calls Try.prog g (#[.int .i64 x] ++ lb) W fun e w' => e = .returned (.bool r) ∧ Below W.heap.size W w')
  (r : Bool) (h : anyO p l = some r) :
  Calls Try.prog 163 #[.slice A l.length c, .func (.func g) #[] lb] w fun e w' => (∃ i : Int, e = .returned (.int .i64 i) ∧ decide (i ≥ 0) = r) ∧ Below w.heap.size w w' := by
 have HR0 := ak_ hr
 clear hr
 go_enter Try.func163, Try.ntmps163
 go_wp2
 go_loopg [5, 8] l.length (fun gg _ s8 wr => ∃ kk : Nat, kk ≤ l.length ∧ l.length - kk ≤ gg ∧ s8 = .int .i64 kk ∧ Aside0 (Below w.heap.size w wr) ∧ Aside0 (anyO p (l.drop kk) = some r))
 case atStart => exact ⟨0, Nat.zero_le _, by omega, rfl, ⟨Below.refl _ w⟩, ⟨h⟩⟩
 case round =>
  clear h
  obtain ⟨kk, hkk, hg, rfl, BW, A0⟩ := hrel
  have hbig := HR0.out.2.1
  by_cases hlt : kk < l.length
  ·have hltz : (kk : Int) < (l.length : Int) := by omega
   have hA := A0.out
   clear A0
   rw [drop_at_i64 hlt] at hA
   simp only [anyO] at hA
   obtain ⟨b, hb0, hb⟩ := Option.bind_eq_some_iff.mp hA
   clear hA
   obtain ⟨ad, eA, hx⟩ := Kd.at_int (Kd.C_below HR0.out BW.out) (kk : Int) (by omega) (by omega)
   cases eA
   simp only [Int.toNat_natCast] at hx
   have hcall := hp wr _ b BW.out hb0
   clear hp
   cases b with
   | true =>
    obtain rfl : true = r := by simpa using hb
    go_wp2_with (go_at_fn g; refine hcall.mono ?_; rintro e w' ⟨rfl, hb'⟩)
    go_ret
    exact ⟨⟨_, rfl, by simp⟩, BW.out.trans (hb'.mono BW.out.size)⟩
   | false =>
    have hb2 : anyO p (l.drop (kk + 1)) = some r := by simpa using hb
    have HB2 := ak_ hb2
    clear hb hb2
    go_wp2_with (go_at_fn g; refine hcall.mono ?_; rintro e w' ⟨rfl, hb'⟩)
    go_roundg (l.length - (kk + 1))
    case measure => omega
    case rel => exact ⟨kk + 1, by omega, by omega, by go_num, ⟨BW.out.trans (hb'.mono BW.out.size)⟩, HB2⟩
  ·have hltz : ¬ (kk : Int) < (l.length : Int) := by omega
   have : kk = l.length := by omega
   subst this
   have hA := A0.out
   clear A0
   rw [List.drop_length] at hA
   obtain rfl : false = r := by simpa [anyO] using hA
   go_wp2
   go_ret
   exact ⟨⟨_, rfl, by decide⟩, BW.out⟩
theorem slices_ContainsFunc_int_int.calls_fn (g : Nat) (lb : Array Value) (eg : ∀ args w, (callFunc g args).run Try.prog w = .ok (.enter g args) w) (p : Int → Option Bool)
  (A : Option Addr) (c : Nat) (l : List (Int)) (w : World) (hr : Kd.C (Kd.int .i64) w A l.length l)
  (hp : ∀ (W : World) (x : Int) (r : Bool), Below w.heap.size w W → p x = some r → Calls Try.prog g (#[.int .i64 x] ++ lb) W fun e w' => e = .returned (.bool r) ∧ Below W.heap.size W w')
  (r : Bool) (h : anyO p l = some r) :
  Calls Try.prog 131 #[.slice A l.length c, .func (.func g) #[] lb] w fun e w' => e = .returned (.bool r) ∧ Below w.heap.size w w' := by
 have hI := ak_ (slices_IndexFunc_int_int.calls_fn g lb eg p A c l w hr hp r h)
 clear hr hp h
 go_enter Try.func131, Try.ntmps131
 go_wp2_with (go_at_call 163; refine hI.out.mono ?_; rintro e w' ⟨⟨i, rfl, hi⟩, hb'⟩)
 go_ret
 exact ⟨by first | rfl | simp [hi], hb'⟩
def impl_areIn.f (l0 : List Int) (a1 : Int) (a2 : Int) (a3 : Int) (a4 : Int) : Option Bool :=
 some ((decide (a3 ≤ (l0.length : Int)) && decide ((l0.length : Int) ≤ a4)) && !(l0.any fun x => !(decide (a1 ≤ x) && decide (x ≤ a2))))
theorem impl_in.f_eq (x a b : Int) : impl_in.f x a b = some (decide (a ≤ x) && decide (x ≤ b)) := by
 unfold impl_in.f
 by_cases h : a ≤ x <;> simp [h]
theorem impl_areIn.calls_1 (x a1 a2 : Int) (B1 B2 : Nat) (w : World) (h1 : w.cell? ⟨B1, 0, none⟩ = some (.int .i64 a1)) (h2 : w.cell? ⟨B2, 0, none⟩ = some (.int .i64 a2)) :
  Calls Try.prog 132 (#[.int .i64 x] ++ #[.pointer (some ⟨B1, 0, none⟩), .pointer (some ⟨B2, 0, none⟩)]) w fun e w' => e = .returned (.bool (!(decide (a1 ≤ x) && decide (x ≤ a2)))) ∧ Below w.heap.size w w' := by
 have hin := fun W => impl_in.calls x a1 a2 _ W (impl_in.f_eq x a1 a2)
 generalize hb : (decide (a1 ≤ x) && decide (x ≤ a2)) = b at hin ⊢
 clear hb
 go_enter Try.func132, Try.ntmps132
 go_wp2_with (go_at_call 82; refine (hin _).mono ?_; rintro e w' ⟨rfl, ⟨nd, rfl⟩⟩)
 go_ret
 exact ⟨rfl, by repeat (first | exact Below.refl _ _ | apply bN_ | apply b1_)⟩
theorem impl_areIn.calls (A0 : Option Addr) (c0 : Nat) (l0 : List Int) (a1 : Int) (a2 : Int) (a3 : Int) (a4 : Int) (r : Bool) (w : World) (hr0 : Kd.C (Kd.int .i64) w A0 l0.length l0) (hc0 : l0.length ≤ c0) (h : impl_areIn.f l0 a1 a2 a3 a4 = some r) :
  Calls Try.prog 97 #[.slice A0 l0.length c0, .int .i64 a1, .int .i64 a2, .int .i64 a3, .int .i64 a4] w fun e w' => e = .returned (.bool r) ∧ Below w.heap.size w w' := by
 have hin := fun W => impl_in.calls (l0.length : Int) a3 a4 _ W (impl_in.f_eq _ a3 a4)
 obtain rfl := Option.some.inj h
 clear h
 have hC := ak_ fun (W : World) (hb : Below w.heap.size w W) (B1 B2 : Nat) (h1 : W.cell? ⟨B1, 0, none⟩ = some (.int .i64 a1)) (h2 : W.cell? ⟨B2, 0, none⟩ = some (.int .i64 a2)) (hB1 : B1 < W.heap.size) (hB2 : B2 < W.heap.size) =>
  slices_ContainsFunc_int_int.calls_fn 132 #[.pointer (some ⟨B1, 0, none⟩), .pointer (some ⟨B2, 0, none⟩)] (enters_of Try.func132 (by kernel_rfl) rfl) (fun x => some (!(decide (a1 ≤ x) && decide (x ≤ a2)))) A0 c0 l0 W (Kd.C_below hr0 hb)
   (fun W' x r hb' hx => by
    obtain rfl := Option.some.inj hx
    exact impl_areIn.calls_1 x a1 a2 B1 B2 W' ((hb'.cell (p := ⟨B1, 0, none⟩) hB1).trans h1) ((hb'.cell (p := ⟨B2, 0, none⟩) hB2).trans h2)) _ (anyO_some _ l0)
 clear hr0
 generalize hq : (l0.any fun x => !(decide (a1 ≤ x) && decide (x ≤ a2))) = q at hC ⊢
 clear hq
 generalize hb : (decide (a3 ≤ (l0.length : Int)) && decide ((l0.length : Int) ≤ a4)) = b at hin ⊢
 clear hb
 cases b
 ·go_enter Try.func97, Try.ntmps97
  go_wp2_with (go_at_call 82; refine (hin _).mono ?_; rintro e w' ⟨rfl, ⟨nd, rfl⟩⟩)
  go_ret
  exact ⟨rfl, by repeat (first | exact Below.refl _ _ | apply ba_ | apply bN_ | apply b1_)⟩
 ·go_enter Try.func97, Try.ntmps97
  go_wp2_with (first | (go_at_call 82; refine (hin _).mono ?_; rintro e w' ⟨rfl, ⟨nd, rfl⟩⟩) | (go_at_call 131; refine (hC.out _ (by repeat (first | exact Below.refl _ _ | apply ba_ | apply bN_ | apply b1_)) _ _ (by simp) (by simp) (by first | (simp; done) | (simp; omega)) (by first | (simp; done) | (simp; omega))).mono ?_; rintro e w' ⟨rfl, hb'⟩))
  go_ret
  exact ⟨by cases q <;> rfl, Below.trans (by repeat (first | exact Below.refl _ _ | apply ba_ | apply bN_ | apply b1_)) (hb'.mono (by first | (simp; done) | (simp; omega)))⟩
def cmp_isNaN_int.f (a0 : Int) : Option (Bool) := some (a0 != a0)
theorem cmp_isNaN_int.calls (a0 : Int) (r : Bool) (w : World) (h : cmp_isNaN_int.f a0 = some r) :
  Calls Try.prog 166 #[.int .i64 a0] w fun e w' => e = .returned (.bool r) ∧ Drawn0 w w' := by
 have H : (some (a0 != a0)) = some r := h
 clear h
 obtain rfl := Option.some.inj H
 go_enter Try.func166, Try.ntmps166
 go_wp2
 go_ret
 exact ⟨ry_, by repeat (first | exact Drawn0.refl _ | apply Drawn0.step)⟩
def cmp_Compare_int.f (a0 : Int) (a1 : Int) : Option (Int) := (cmp_isNaN_int.f a0).bind fun t457 => ((cmp_isNaN_int.f a1).bind fun t458 => (if t457 = true then (if t458 = true then (some 0) else (some (-1))) else (if t458 = true then (some 1) else (if a0 < a1 then (some (-1)) else (if a0 > a1 then (some 1) else (some 0))))))
theorem cmp_Compare_int.calls (a0 : Int) (a1 : Int) (r : Int) (w : World) (h : cmp_Compare_int.f a0 a1 = some r) :
  Calls Try.prog 140 #[.int .i64 a0, .int .i64 a1] w fun e w' => e = .returned (.int .i64 r) ∧ Drawn0 w w' := by
 have H : ((cmp_isNaN_int.f a0).bind fun t457 => ((cmp_isNaN_int.f a1).bind fun t458 => (if t457 = true then (if t458 = true then (some 0) else (some (-1))) else (if t458 = true then (some 1) else (if a0 < a1 then (some (-1)) else (if a0 > a1 then (some 1) else (some 0))))))) = some r := h
 clear h
 replace H := Option.bind_eq_some_iff.mp H
 obtain ⟨t457, A30, H⟩ := H
 replace H : ((cmp_isNaN_int.f a1).bind fun t458 => (if t457 = true then (if t458 = true then (some 0) else (some (-1))) else (if t458 = true then (some 1) else (if a0 < a1 then (some (-1)) else (if a0 > a1 then (some 1) else (some 0)))))) = some r := H
 have A3 := ak_ A30
 clear A30
 replace H := Option.bind_eq_some_iff.mp H
 obtain ⟨t458, A40, H⟩ := H
 replace H : (if t457 = true then (if t458 = true then (some 0) else (some (-1))) else (if t458 = true then (some 1) else (if a0 < a1 then (some (-1)) else (if a0 > a1 then (some 1) else (some 0))))) = some r := H
 have A4 := ak_ A40
 clear A40
 by_cases c5 : t457 = true
 ·
  subst c5
  have H1 : (if t458 = true then (some 0) else (some (-1))) = some r := by rw [if_pos rfl] at H; exact H
  clear H
  have H := H1
  clear H1
  by_cases c6 : t458 = true
  ·
   subst c6
   have H1 : (some 0) = some r := by rw [if_pos rfl] at H; exact H
   clear H
   have H := H1
   clear H1
   obtain rfl := Option.some.inj H
   go_enter Try.func140, Try.ntmps140
   go_wp2_with (first | ((with_reducible refine gate_callee (f := 166) rfl ?_); refine goesL_ (some 8) rfl rfl Try.func166 (by kernel_rfl) rfl #[.int .i64 a0] rfl (by first | rfl | (simp only [map_toArray, map_cons, map_nil]; try rfl)) ?_; (with_reducible refine (cmp_isNaN_int.calls a0 true _ A3.out).mono ?_); rintro e w' ⟨rfl, ⟨nd, rfl⟩⟩; refine ⟨_, rfl, ?_⟩) | ((with_reducible refine gate_callee (f := 166) rfl ?_); refine goesL_ (some 10) rfl rfl Try.func166 (by kernel_rfl) rfl #[.int .i64 a1] rfl (by first | rfl | (simp only [map_toArray, map_cons, map_nil]; try rfl)) ?_; (with_reducible refine (cmp_isNaN_int.calls a1 true _ A4.out).mono ?_); rintro e w' ⟨rfl, ⟨nd, rfl⟩⟩; refine ⟨_, rfl, ?_⟩))
   go_ret
   exact ⟨ry_, by repeat (first | exact Drawn0.refl _ | apply Drawn0.step)⟩
  ·
   replace c6 := Bool.eq_false_iff.mpr c6
   subst c6
   have H1 : (some (-1)) = some r := by rw [if_neg (show ¬ (false = true) by decide)] at H; exact H
   clear H
   have H := H1
   clear H1
   obtain rfl := Option.some.inj H
   go_enter Try.func140, Try.ntmps140
   go_wp2_with (first | ((with_reducible refine gate_callee (f := 166) rfl ?_); refine goesL_ (some 8) rfl rfl Try.func166 (by kernel_rfl) rfl #[.int .i64 a0] rfl (by first | rfl | (simp only [map_toArray, map_cons, map_nil]; try rfl)) ?_; (with_reducible refine (cmp_isNaN_int.calls a0 true _ A3.out).mono ?_); rintro e w' ⟨rfl, ⟨nd, rfl⟩⟩; refine ⟨_, rfl, ?_⟩) | ((with_reducible refine gate_callee (f := 166) rfl ?_); refine goesL_ (some 10) rfl rfl Try.func166 (by kernel_rfl) rfl #[.int .i64 a1] rfl (by first | rfl | (simp only [map_toArray, map_cons, map_nil]; try rfl)) ?_; (with_reducible refine (cmp_isNaN_int.calls a1 false _ A4.out).mono ?_); rintro e w' ⟨rfl, ⟨nd, rfl⟩⟩; refine ⟨_, rfl, ?_⟩))
   go_ret
   exact ⟨ry_, by repeat (first | exact Drawn0.refl _ | apply Drawn0.step)⟩
 ·
  replace c5 := Bool.eq_false_iff.mpr c5
  subst c5
  have H1 : (if t458 = true then (some 1) else (if a0 < a1 then (some (-1)) else (if a0 > a1 then (some 1) else (some 0)))) = some r := by rw [if_neg (show ¬ (false = true) by decide)] at H; exact H
  clear H
  have H := H1
  clear H1
  by_cases c7 : t458 = true
  ·
   subst c7
   have H1 : (some 1) = some r := by rw [if_pos rfl] at H; exact H
   clear H
   have H := H1
   clear H1
   obtain rfl := Option.some.inj H
   go_enter Try.func140, Try.ntmps140
   go_wp2_with (first | ((with_reducible refine gate_callee (f := 166) rfl ?_); refine goesL_ (some 8) rfl rfl Try.func166 (by kernel_rfl) rfl #[.int .i64 a0] rfl (by first | rfl | (simp only [map_toArray, map_cons, map_nil]; try rfl)) ?_; (with_reducible refine (cmp_isNaN_int.calls a0 false _ A3.out).mono ?_); rintro e w' ⟨rfl, ⟨nd, rfl⟩⟩; refine ⟨_, rfl, ?_⟩) | ((with_reducible refine gate_callee (f := 166) rfl ?_); refine goesL_ (some 10) rfl rfl Try.func166 (by kernel_rfl) rfl #[.int .i64 a1] rfl (by first | rfl | (simp only [map_toArray, map_cons, map_nil]; try rfl)) ?_; (with_reducible refine (cmp_isNaN_int.calls a1 true _ A4.out).mono ?_); rintro e w' ⟨rfl, ⟨nd, rfl⟩⟩; refine ⟨_, rfl, ?_⟩))
   go_ret
   exact ⟨ry_, by repeat (first | exact Drawn0.refl _ | apply Drawn0.step)⟩
  ·
   replace c7 := Bool.eq_false_iff.mpr c7
   subst c7
   have H1 : (if a0 < a1 then (some (-1)) else (if a0 > a1 then (some 1) else (some 0))) = some r := by rw [if_neg (show ¬ (false = true) by decide)] at H; exact H
   clear H
   have H := H1
   clear H1
   by_cases c8 : a0 < a1
   ·
    rw [if_pos c8] at H
    have c8b0 : decide (a0 < a1) = true := decide_eq_true c8
    clear c8
    obtain rfl := Option.some.inj H
    go_enter Try.func140, Try.ntmps140
    go_wp2_with (first | ((with_reducible refine gate_callee (f := 166) rfl ?_); refine goesL_ (some 8) rfl rfl Try.func166 (by kernel_rfl) rfl #[.int .i64 a0] rfl (by first | rfl | (simp only [map_toArray, map_cons, map_nil]; try rfl)) ?_; (with_reducible refine (cmp_isNaN_int.calls a0 false _ A3.out).mono ?_); rintro e w' ⟨rfl, ⟨nd, rfl⟩⟩; refine ⟨_, rfl, ?_⟩) | ((with_reducible refine gate_callee (f := 166) rfl ?_); refine goesL_ (some 10) rfl rfl Try.func166 (by kernel_rfl) rfl #[.int .i64 a1] rfl (by first | rfl | (simp only [map_toArray, map_cons, map_nil]; try rfl)) ?_; (with_reducible refine (cmp_isNaN_int.calls a1 false _ A4.out).mono ?_); rintro e w' ⟨rfl, ⟨nd, rfl⟩⟩; refine ⟨_, rfl, ?_⟩))
    go_ret
    exact ⟨ry_, by repeat (first | exact Drawn0.refl _ | apply Drawn0.step)⟩
   ·
    rw [if_neg c8] at H
    have c8b0 : decide (a0 < a1) = false := decide_eq_false c8
    clear c8
    by_cases c9 : a0 > a1
    ·
     rw [if_pos c9] at H
     have c9b0 : decide (a1 < a0) = true := decide_eq_true c9
     clear c9
     obtain rfl := Option.some.inj H
     go_enter Try.func140, Try.ntmps140
     go_wp2_with (first | ((with_reducible refine gate_callee (f := 166) rfl ?_); refine goesL_ (some 8) rfl rfl Try.func166 (by kernel_rfl) rfl #[.int .i64 a0] rfl (by first | rfl | (simp only [map_toArray, map_cons, map_nil]; try rfl)) ?_; (with_reducible refine (cmp_isNaN_int.calls a0 false _ A3.out).mono ?_); rintro e w' ⟨rfl, ⟨nd, rfl⟩⟩; refine ⟨_, rfl, ?_⟩) | ((with_reducible refine gate_callee (f := 166) rfl ?_); refine goesL_ (some 10) rfl rfl Try.func166 (by kernel_rfl) rfl #[.int .i64 a1] rfl (by first | rfl | (simp only [map_toArray, map_cons, map_nil]; try rfl)) ?_; (with_reducible refine (cmp_isNaN_int.calls a1 false _ A4.out).mono ?_); rintro e w' ⟨rfl, ⟨nd, rfl⟩⟩; refine ⟨_, rfl, ?_⟩))
     go_ret
     exact ⟨ry_, by repeat (first | exact Drawn0.refl _ | apply Drawn0.step)⟩
    ·
     rw [if_neg c9] at H
     have c9b0 : decide (a1 < a0) = false := decide_eq_false c9
     clear c9
     obtain rfl := Option.some.inj H
     go_enter Try.func140, Try.ntmps140
     go_wp2_with (first | ((with_reducible refine gate_callee (f := 166) rfl ?_); refine goesL_ (some 8) rfl rfl Try.func166 (by kernel_rfl) rfl #[.int .i64 a0] rfl (by first | rfl | (simp only [map_toArray, map_cons, map_nil]; try rfl)) ?_; (with_reducible refine (cmp_isNaN_int.calls a0 false _ A3.out).mono ?_); rintro e w' ⟨rfl, ⟨nd, rfl⟩⟩; refine ⟨_, rfl, ?_⟩) | ((with_reducible refine gate_callee (f := 166) rfl ?_); refine goesL_ (some 10) rfl rfl Try.func166 (by kernel_rfl) rfl #[.int .i64 a1] rfl (by first | rfl | (simp only [map_toArray, map_cons, map_nil]; try rfl)) ?_; (with_reducible refine (cmp_isNaN_int.calls a1 false _ A4.out).mono ?_); rintro e w' ⟨rfl, ⟨nd, rfl⟩⟩; refine ⟨_, rfl, ?_⟩))
     go_ret
     exact ⟨ry_, by repeat (first | exact Drawn0.refl _ | apply Drawn0.step)⟩
def slices_Compare_int_int.l0 : Nat → List Int → List Int → List Int → Int → Int → Option (Int)
 | 0, _, _, _, _, _ => none
 | k + 1, x0, x1, x9, x10, x11 => if x11 < x10 then (if 0 ≤ x11 then (if x11 < (x9.length : Int) then (if x11 ≥ (x1.length : Int) then (some 1) else (if x11 < (x1.length : Int) then ((cmp_Compare_int.f (rd x9 x11) (rd x1 x11)).bind fun t461 => (if t461 = 0 then (slices_Compare_int_int.l0 k x0 x1 x9 x10 (wrap64 (x11 + 1))) else (some t461))) else (none))) else (none)) else (none)) else (if (x0.length : Int) < (x1.length : Int) then (some (-1)) else (some 0))
def slices_Compare_int_int.f (k : Nat) (l0 : List Int) (l1 : List Int) : Option (Int) := slices_Compare_int_int.l0 k l0 l1 l0 (l0.length : Int) 0
theorem slices_Compare_int_int.calls (k : Nat) (A0 : Option Addr) (c0 : Nat) (l0 : List Int) (A1 : Option Addr) (c1 : Nat) (l1 : List Int) (r : Int) (w : World) (hr0 : Kd.C (Kd.int .i64) w A0 l0.length l0) (hc0 : l0.length ≤ c0) (hr1 : Kd.C (Kd.int .i64) w A1 l1.length l1) (hc1 : l1.length ≤ c1) (h : slices_Compare_int_int.f k l0 l1 = some r) :
  Calls Try.prog 107 #[.slice A0 l0.length c0, .slice A1 l1.length c1] w fun e w' => e = .returned (.int .i64 r) ∧ Drawn0 w w' := by
 have HR0 := ak_ hr0
 have HC0 := ak_ hc0
 clear hr0 hc0
 have HR1 := ak_ hr1
 have HC1 := ak_ hc1
 clear hr1 hc1
 have H : (slices_Compare_int_int.l0 k l0 l1 l0 (l0.length : Int) 0) = some r := h
 clear h
 have H' := ak_ H
 clear H
 go_enter Try.func107, Try.ntmps107
 go_wp2
 go_loopg [11] k (fun kq v11 w' => ∃ (x11_1 : Int), v11 = .int .i64 x11_1 ∧ Aside0 (slices_Compare_int_int.l0 kq l0 l1 l0 (l0.length : Int) x11_1 = some r) ∧ Aside0 (kq ≤ k) ∧ Drawn0 w w')
 case atStart => exact ⟨(0), (ry_), H', ⟨Nat.le_refl _⟩, by repeat (first | exact Drawn0.refl _ | apply Drawn0.step)⟩
 case round =>
  clear H'
  try clear c1
  try clear p2
  obtain ⟨x11_1, rfl, HA, HK1, ⟨m1, rfl⟩⟩ := hrel
  cases gk with
  | zero => exact absurd HA.out (by simp [slices_Compare_int_int.l0])
  | succ k1 =>
   have H := HA.out
   clear HA
   simp only [slices_Compare_int_int.l0] at H
   by_cases c3 : x11_1 < (l0.length : Int)
   ·
    rw [if_pos c3] at H
    have c3b0 : decide (x11_1 < (l0.length : Int)) = true := decide_eq_true c3
    clear c3
    by_cases c4 : 0 ≤ x11_1
    ·
     rw [if_pos c4] at H
     have c4b0 : decide (0 ≤ x11_1) = true := decide_eq_true c4
     clear c4
     by_cases c5 : x11_1 < (l0.length : Int)
     ·
      rw [if_pos c5] at H
      have c5b0 : decide (x11_1 < (l0.length : Int)) = true := decide_eq_true c5
      clear c5
      by_cases c6 : x11_1 ≥ (l1.length : Int)
      ·
       rw [if_pos c6] at H
       have c6b0 : decide ((l1.length : Int) ≤ x11_1) = true := decide_eq_true c6
       clear c6
       obtain rfl := Option.some.inj H
       have p459 : 0 ≤ (x11_1 : Int) := odt_ (by assumption)
       have q459 : x11_1 < (l0.length : Int) := odt_ (by assumption)
       obtain ⟨ad459, e459, hx459_0⟩ := Kd.at_int HR0.out x11_1 p459 q459
       cases e459
       replace p459 := eq_true p459
       replace q459 := eq_true q459
       go_wp2
       go_ret
       exact ⟨ry_, by repeat (first | exact Drawn0.refl _ | apply Drawn0.step)⟩
      ·
       rw [if_neg c6] at H
       have c6b0 : decide ((l1.length : Int) ≤ x11_1) = false := decide_eq_false c6
       clear c6
       by_cases c7 : x11_1 < (l1.length : Int)
       ·
        rw [if_pos c7] at H
        have c7b0 : decide (x11_1 < (l1.length : Int)) = true := decide_eq_true c7
        clear c7
        replace H := Option.bind_eq_some_iff.mp H
        obtain ⟨t461, A80, H⟩ := H
        replace H : (if t461 = 0 then (slices_Compare_int_int.l0 k1 l0 l1 l0 (l0.length : Int) (wrap64 (x11_1 + 1))) else (some t461)) = some r := H
        have A8 := ak_ A80
        clear A80
        by_cases c9 : t461 = 0
        ·
         rw [if_pos c9] at H
         have c9b0 : (t461 == 0) = true := beq_iff_eq.mpr c9
         have c9b1 : (t461 != 0) = false := bne_eq_false_iff_eq.mpr c9
         clear c9
         have H' := ak_ H
         clear H
         have p459 : 0 ≤ (x11_1 : Int) := odt_ (by assumption)
         have q459 : x11_1 < (l0.length : Int) := odt_ (by assumption)
         obtain ⟨ad459, e459, hx459_0⟩ := Kd.at_int HR0.out x11_1 p459 q459
         cases e459
         replace p459 := eq_true p459
         replace q459 := eq_true q459
         have p460 : 0 ≤ (x11_1 : Int) := odt_ (by assumption)
         have q460 : x11_1 < (l1.length : Int) := odt_ (by assumption)
         obtain ⟨ad460, e460, hx460_0⟩ := Kd.at_int HR1.out x11_1 p460 q460
         cases e460
         replace p460 := eq_true p460
         replace q460 := eq_true q460
         go_wp2_with (first | ((with_reducible refine gate_callee (f := 140) rfl ?_); refine goesL_ (some 26) rfl rfl Try.func140 (by kernel_rfl) rfl #[.int .i64 (rd l0 x11_1), .int .i64 (rd l1 x11_1)] rfl (by first | rfl | (simp only [map_toArray, map_cons, map_nil]; try rfl)) ?_; (with_reducible refine (cmp_Compare_int.calls (rd l0 x11_1) (rd l1 x11_1) t461 _ A8.out).mono ?_); rintro e w' ⟨rfl, ⟨nd, rfl⟩⟩; refine ⟨_, rfl, ?_⟩))
         go_roundg k1
         case measure => have := HK1.out; omega
         case rel => exact ⟨(wrap64 (x11_1 + 1)), (ry_), H', ⟨by have := HK1.out; omega⟩, by repeat (first | exact Drawn0.refl _ | apply Drawn0.step)⟩
        ·
         rw [if_neg c9] at H
         have c9b0 : (t461 == 0) = false := beq_eq_false_iff_ne.mpr c9
         have c9b1 : (t461 != 0) = true := bne_iff_ne.mpr c9
         obtain rfl := Option.some.inj H
         have p459 : 0 ≤ (x11_1 : Int) := odt_ (by assumption)
         have q459 : x11_1 < (l0.length : Int) := odt_ (by assumption)
         obtain ⟨ad459, e459, hx459_0⟩ := Kd.at_int HR0.out x11_1 p459 q459
         cases e459
         replace p459 := eq_true p459
         replace q459 := eq_true q459
         have p460 : 0 ≤ (x11_1 : Int) := odt_ (by assumption)
         have q460 : x11_1 < (l1.length : Int) := odt_ (by assumption)
         obtain ⟨ad460, e460, hx460_0⟩ := Kd.at_int HR1.out x11_1 p460 q460
         cases e460
         replace p460 := eq_true p460
         replace q460 := eq_true q460
         go_wp2_with (first | ((with_reducible refine gate_callee (f := 140) rfl ?_); refine goesL_ (some 26) rfl rfl Try.func140 (by kernel_rfl) rfl #[.int .i64 (rd l0 x11_1), .int .i64 (rd l1 x11_1)] rfl (by first | rfl | (simp only [map_toArray, map_cons, map_nil]; try rfl)) ?_; (with_reducible refine (cmp_Compare_int.calls (rd l0 x11_1) (rd l1 x11_1) t461 _ A8.out).mono ?_); rintro e w' ⟨rfl, ⟨nd, rfl⟩⟩; refine ⟨_, rfl, ?_⟩))
         go_ret
         exact ⟨ry_, by repeat (first | exact Drawn0.refl _ | apply Drawn0.step)⟩
       ·
        rw [if_neg c7] at H
        exact absurd H (by simp)
     ·
      rw [if_neg c5] at H
      exact absurd H (by simp)
    ·
     rw [if_neg c4] at H
     exact absurd H (by simp)
   ·
    rw [if_neg c3] at H
    have c3b0 : decide (x11_1 < (l0.length : Int)) = false := decide_eq_false c3
    clear c3
    by_cases c10 : (l0.length : Int) < (l1.length : Int)
    ·
     rw [if_pos c10] at H
     have c10b0 : decide ((l0.length : Int) < (l1.length : Int)) = true := decide_eq_true c10
     have c10b1 : decide (l0.length < l1.length) = true := decide_eq_true (Int.ofNat_lt.mp c10)
     clear c10
     obtain rfl := Option.some.inj H
     go_wp2
     go_ret
     exact ⟨ry_, by repeat (first | exact Drawn0.refl _ | apply Drawn0.step)⟩
    ·
     rw [if_neg c10] at H
     have c10b0 : decide ((l0.length : Int) < (l1.length : Int)) = false := decide_eq_false c10
     have c10b1 : decide (l0.length < l1.length) = false := decide_eq_false (fun h => c10 (Int.ofNat_lt.mpr h))
     clear c10
     obtain rfl := Option.some.inj H
     go_wp2
     go_ret
     exact ⟨ry_, by repeat (first | exact Drawn0.refl _ | apply Drawn0.step)⟩
mutual
def impl_IsKeep.j0 : Nat → Bool → Int → List (List Int) → Int → Option (Bool)
 | 0, _, _, _, _ => none
 | k + 1, x14, x463000, x463001, x463002 => if x14 = true then (some false) else (impl_IsKeep.l0 k x463001 (x463001.length : Int) 0 x463000 x463001 x463002)
def impl_IsKeep.l0 : Nat → List (List Int) → Int → Int → Int → List (List Int) → Int → Option (Bool)
 | 0, _, _, _, _, _, _ => none
 | k + 1, x16, x17, x18, x463000, x463001, x463002 => if x18 < x17 then (if 0 ≤ x18 then (if x18 < (x16.length : Int) then ((impl_areIn.f (rd_L1 x16 x18) 0 (wrap64 (x463000 - 1)) 2 2).bind fun t466 => (if t466 = true then (if 0 < ((rd_L1 x16 x18).length : Int) then (if 1 < ((rd_L1 x16 x18).length : Int) then (if (rd (rd_L1 x16 x18) 0) ≥ (rd (rd_L1 x16 x18) 1) then (impl_IsKeep.j2 k x16 x17 x18 true x463000 x463001 x463002) else (if x18 > 0 then (if 0 ≤ (wrap64 (x18 - 1)) then (if (wrap64 (x18 - 1)) < (x463001.length : Int) then ((slices_Compare_int_int.f k (rd_L1 x463001 (wrap64 (x18 - 1))) (rd_L1 x16 x18)).bind fun t470 => (impl_IsKeep.j2 k x16 x17 x18 (decide (t470 ≥ 0)) x463000 x463001 x463002)) else (none)) else (none)) else (impl_IsKeep.j2 k x16 x17 x18 false x463000 x463001 x463002))) else (none)) else (none)) else (impl_IsKeep.j2 k x16 x17 x18 true x463000 x463001 x463002))) else (none)) else (none)) else (some true)
def impl_IsKeep.j2 : Nat → List (List Int) → Int → Int → Bool → Int → List (List Int) → Int → Option (Bool)
 | 0, _, _, _, _, _, _, _ => none
 | k + 1, x16, x17, x18, x52, x463000, x463001, x463002 => if x52 = true then (some false) else (impl_IsKeep.l0 k x16 x17 (wrap64 (x18 + 1)) x463000 x463001 x463002)
end
def impl_IsKeep.f (k : Nat) (a0_0 : Int) (l0_1 : List (List Int)) (a0_2 : Int) : Option (Bool) := (impl_in.f a0_0 0 8).bind fun t463 => (if t463 = true then ((impl_in.f a0_2 0 8).bind fun t464 => (impl_IsKeep.j0 k (!t464) a0_0 l0_1 a0_2)) else (impl_IsKeep.j0 k true a0_0 l0_1 a0_2))
def impl_IsKeep.T6 : Bool × List (List Nat × List Nat) := (true, [([], []), ([], []), ([1], [1]), ([2], [2]), ([0, 3], [0, 3]), ([4], [4]), ([5, 4], [5]), ([6], [6]), ([7, 6], [6, 7]), ([8, 6], [6, 8]), ([6], [6]), ([10, 6], [6, 10]), ([11, 6], [6, 11]), ([9, 12, 6], [6, 9, 12]), ([6, 13], [6, 13]), ([14, 6], [14]), ([15], [15]), ([16, 15], [15, 16]), ([17, 15, 15], [15, 17]), ([18], [18]), ([19, 18], [18, 19]), ([18], [18]), ([21, 18], [18, 21]), ([20, 22, 18], [18, 20, 22]), ([23, 18], [18, 23]), ([18], [18]), ([24, 25, 18, 18], [18, 24, 25]), ([26, 18], [18, 26]), ([18, 27, 15], [15, 18, 27]), ([15, 28], [15, 28])])
def impl_IsKeep.B6 : List Nat := [0, 0, 2, 6, 15, 31, 63, 127, 255, 511, 127, 1151, 3199, 8191, 16383, 32767, 65535, 131071, 262143, 524287, 1048575, 524287, 2621439, 8388607, 16777215, 524287, 67108863, 134217727, 268435455, 536870911]
theorem impl_IsKeep.tab6 : rtab .any (opsOf Try.f66 6) = impl_IsKeep.T6 := by kernel_rfl
theorem impl_IsKeep.bits6 : waitsOk impl_IsKeep.T6.2 impl_IsKeep.B6 = true := by kernel_rfl
theorem impl_IsKeep.calls (k : Nat) (a0_0 : Int) (A0_1 : Option Addr) (c0_1 : Nat) (l0_1 : List (List Int)) (a0_2 : Int) (r : Bool) (w : World) (hr0_1 : Kd.C (Kd.slice 3 (Kd.int .i64)) w A0_1 l0_1.length l0_1) (hc0_1 : l0_1.length ≤ c0_1) (h : impl_IsKeep.f k a0_0 l0_1 a0_2 = some r) :
  Calls Try.prog 66 #[.agg #[.int .i64 a0_0, .slice A0_1 l0_1.length c0_1, .int .i64 a0_2]] w fun e w' => e = .returned (.bool r) ∧ Below w.heap.size w w' := by
 have hu52 := Try.underlying52
 have HR0_1 := ak_ hr0_1
 have HC0_1 := ak_ hc0_1
 clear hr0_1 hc0_1
 have HB := ak_ (Below.refl w.heap.size w)
 have H : ((impl_in.f a0_0 0 8).bind fun t463 => (if t463 = true then ((impl_in.f a0_2 0 8).bind fun t464 => (impl_IsKeep.j0 k (!t464) a0_0 l0_1 a0_2)) else (impl_IsKeep.j0 k true a0_0 l0_1 a0_2))) = some r := h
 clear h
 have HC2 := ak_ H
 clear H
 go_enter Try.func66, Try.ntmps66
 go_upto_region 1 with (first | ((with_reducible refine gate_dst (N := 1) rfl ?_); refine bx_ 1 #[.int .i64 a0_0, .slice A0_1 l0_1.length c0_1, .int .i64 a0_2] 52 ?_; intro gb462 hg w3 hbox hb; have n0_ := ak_ (bs_ (bb_ HB.out) hb); have n1_ := ak_ (hbox); have n2_ := ak_ ((by rw [hg]; exact (bz_ (bb_ HB.out)) : w.heap.size ≤ gb462)); have n3_ := n2_; clear HB; have HB := n0_; have BK462 := n1_; have GW462 := n2_; have GE462 := n3_; clear n0_ n1_ n2_ n3_; clear hb hbox hg))
 (try simp only [Act.put, setIfInBounds_toArray, set_cons_zero, set_cons_succ])
 go_cut [14] (fun v14 wc => ∃ (kq : Nat) (x14_1 : Bool), v14 = .bool x14_1 ∧ Aside0 (impl_IsKeep.j0 kq x14_1 a0_0 l0_1 a0_2 = some r) ∧ Aside0 (kq ≤ k) ∧ Aside0 (wc.heap[gb462]? = some (.cells #[.int .i64 a0_0, (.slice A0_1 l0_1.length c0_1), .int .i64 a0_2] 52 (0, 0))) ∧ Aside0 (Below w.heap.size w wc))
 case first =>
  have H := HC2.out
  clear HC2
  replace H := Option.bind_eq_some_iff.mp H
  obtain ⟨t463, A40, H⟩ := H
  replace H : (if t463 = true then ((impl_in.f a0_2 0 8).bind fun t464 => (impl_IsKeep.j0 k (!t464) a0_0 l0_1 a0_2)) else (impl_IsKeep.j0 k true a0_0 l0_1 a0_2)) = some r := H
  have A4 := ak_ A40
  clear A40
  by_cases c5 : t463 = true
  ·
   subst c5
   have H1 : ((impl_in.f a0_2 0 8).bind fun t464 => (impl_IsKeep.j0 k (!t464) a0_0 l0_1 a0_2)) = some r := by rw [if_pos rfl] at H; exact H
   clear H
   have H := H1
   clear H1
   replace H := Option.bind_eq_some_iff.mp H
   obtain ⟨t464, A60, H⟩ := H
   replace H : (impl_IsKeep.j0 k (!t464) a0_0 l0_1 a0_2) = some r := H
   have A6 := ak_ A60
   clear A60
   have H' := ak_ H
   clear H
   obtain ⟨hcz7_0, hcz7_1, hcz7_2, hfz7_0, hfz7_1, hfz7_2⟩ := c3_ BK462.out
   go_wp2_with (first | ((with_reducible refine gate_callee (f := 82) rfl ?_); refine goesL_ (some 7) rfl rfl Try.func82 (by kernel_rfl) rfl #[.int .i64 a0_0, .int .i64 0, .int .i64 8] rfl (by first | rfl | (simp only [map_toArray, map_cons, map_nil]; try rfl)) ?_; (with_reducible refine (impl_in.calls a0_0 0 8 true _ A4.out).mono ?_); rintro e w' ⟨rfl, ⟨nd, rfl⟩⟩; refine ⟨_, rfl, ?_⟩) | (go_at_call 82; (with_reducible refine (impl_in.calls a0_2 0 8 t464 _ A6.out).mono ?_); rintro e w' ⟨rfl, ⟨nd, rfl⟩⟩))
   go_meet
   case rel => exact ⟨_, (!t464), (ry_), H', ⟨by first | omega | exact Nat.le_refl _⟩, ⟨pk BK462.out⟩, ⟨by repeat (first | exact HB.out | apply ba_ | apply bN_ | apply b1_ | refine below_set ?_ GE462.out)⟩⟩
  ·
   replace c5 := Bool.eq_false_iff.mpr c5
   subst c5
   have H1 : (impl_IsKeep.j0 k true a0_0 l0_1 a0_2) = some r := by rw [if_neg (show ¬ (false = true) by decide)] at H; exact H
   clear H
   have H := H1
   clear H1
   have H' := ak_ H
   clear H
   obtain ⟨hcz8_0, hcz8_1, hcz8_2, hfz8_0, hfz8_1, hfz8_2⟩ := c3_ BK462.out
   go_wp2_with (first | ((with_reducible refine gate_callee (f := 82) rfl ?_); refine goesL_ (some 7) rfl rfl Try.func82 (by kernel_rfl) rfl #[.int .i64 a0_0, .int .i64 0, .int .i64 8] rfl (by first | rfl | (simp only [map_toArray, map_cons, map_nil]; try rfl)) ?_; (with_reducible refine (impl_in.calls a0_0 0 8 false _ A4.out).mono ?_); rintro e w' ⟨rfl, ⟨nd, rfl⟩⟩; refine ⟨_, rfl, ?_⟩))
   go_meet
   case rel => exact ⟨_, (true), (ry_), H', ⟨by first | omega | exact Nat.le_refl _⟩, ⟨pk BK462.out⟩, ⟨by repeat (first | exact HB.out | apply ba_ | apply bN_ | apply b1_ | refine below_set ?_ GE462.out)⟩⟩
 case rest =>
  clear HC2
  try clear p2
  try clear c5
  try clear c6
  try clear c8
  try clear hcz7_0
  try clear hcz7_1
  try clear hcz7_2
  try clear hcz8_0
  try clear hcz8_1
  try clear hcz8_2
  try clear hfz7_0
  try clear hfz7_1
  try clear hfz7_2
  try clear hfz8_0
  try clear hfz8_1
  try clear hfz8_2
  obtain ⟨kq, x14_1, rfl, HA, HJ1, BK462, HB⟩ := hcut
  cases kq with
  | zero => exact absurd HA.out (by simp [impl_IsKeep.j0])
  | succ kj1 =>
   have H := HA.out
   clear HA
   simp only [impl_IsKeep.j0] at H
   by_cases c9 : x14_1 = true
   ·
    subst c9
    have H1 : (some false) = some r := by rw [if_pos rfl] at H; exact H
    clear H
    have H := H1
    clear H1
    obtain rfl := Option.some.inj H
    go_wp2
    go_ret
    exact ⟨rx_, by repeat (first | exact HB.out | apply ba_ | apply bN_ | apply b1_ | refine below_set ?_ GE462.out)⟩
   ·
    replace c9 := Bool.eq_false_iff.mpr c9
    subst c9
    have H1 : (impl_IsKeep.l0 kj1 l0_1 (l0_1.length : Int) 0 a0_0 l0_1 a0_2) = some r := by rw [if_neg (show ¬ (false = true) by decide)] at H; exact H
    clear H
    have H := H1
    clear H1
    have H' := ak_ H
    clear H
    obtain ⟨hcz10_0, hcz10_1, hcz10_2, hfz10_0, hfz10_1, hfz10_2⟩ := c3_ BK462.out
    go_wp2
    go_loopg [18] kj1 (fun kq v18 w' => ∃ (x18_2 : Int), v18 = .int .i64 x18_2 ∧ Aside0 (impl_IsKeep.l0 kq l0_1 (l0_1.length : Int) x18_2 a0_0 l0_1 a0_2 = some r) ∧ Aside0 (kq ≤ kj1) ∧ Aside0 (w'.heap[gb462]? = some (.cells #[.int .i64 a0_0, (.slice A0_1 l0_1.length c0_1), .int .i64 a0_2] 52 (0, 0))) ∧ Aside0 (Below w.heap.size w w'))
    case atStart => exact ⟨(0), (ry_), H', ⟨Nat.le_refl _⟩, ⟨pk BK462.out⟩, ⟨by repeat (first | exact HB.out | apply ba_ | apply bN_ | apply b1_ | refine below_set ?_ GE462.out)⟩⟩
    case round =>
     clear H'
     try clear p2
     try clear c5
     try clear c6
     try clear c8
     try clear c9
     try clear hcz10_0
     try clear hcz10_1
     try clear hcz10_2
     try clear hcz7_0
     try clear hcz7_1
     try clear hcz7_2
     try clear hcz8_0
     try clear hcz8_1
     try clear hcz8_2
     try clear hfz10_0
     try clear hfz10_1
     try clear hfz10_2
     try clear hfz7_0
     try clear hfz7_1
     try clear hfz7_2
     try clear hfz8_0
     try clear hfz8_1
     try clear hfz8_2
     try clear p2
     obtain ⟨x18_2, rfl, HA, HK2, BK462, HB⟩ := hrel
     cases gk with
     | zero => exact absurd HA.out (by simp [impl_IsKeep.l0])
     | succ k2 =>
      have H := HA.out
      clear HA
      simp only [impl_IsKeep.l0] at H
      by_cases c11 : x18_2 < (l0_1.length : Int)
      ·
       rw [if_pos c11] at H
       have c11b0 : decide (x18_2 < (l0_1.length : Int)) = true := decide_eq_true c11
       clear c11
       by_cases c12 : 0 ≤ x18_2
       ·
        rw [if_pos c12] at H
        have c12b0 : decide (0 ≤ x18_2) = true := decide_eq_true c12
        clear c12
        by_cases c13 : x18_2 < (l0_1.length : Int)
        ·
         rw [if_pos c13] at H
         have c13b0 : decide (x18_2 < (l0_1.length : Int)) = true := decide_eq_true c13
         clear c13
         have HC14 := ak_ H
         clear H
         have p465 : 0 ≤ (x18_2 : Int) := odt_ (by assumption)
         have q465 : x18_2 < (l0_1.length : Int) := odt_ (by assumption)
         obtain ⟨ad465, A465_0, c465_0, e465, hx465_0, hl465_0, hi465_0⟩ := at_L1 HR0_1.out x18_2 p465 q465
         cases e465
         try replace hx465_0 := (HB.out.cell (World.block_lt_of_cell? w _ hx465_0)).trans hx465_0
         have HR465_0 := ak_ hi465_0
         have HC465_0 := ak_ hl465_0
         clear hi465_0 hl465_0
         replace p465 := eq_true p465
         replace q465 := eq_true q465
         go_upto_region 6 with (fail)
         go_cut [52] (fun v52 wc => ∃ (kq : Nat) (x52_13 : Bool), v52 = .bool x52_13 ∧ Aside0 (impl_IsKeep.j2 kq l0_1 (l0_1.length : Int) x18_2 x52_13 a0_0 l0_1 a0_2 = some r) ∧ Aside0 (kq ≤ k2) ∧ Aside0 (wc.heap[gb462]? = some (.cells #[.int .i64 a0_0, (.slice (some ad465) l0_1.length c0_1), .int .i64 a0_2] 52 (0, 0))) ∧ Aside0 (Below w.heap.size w wc))
         case first =>
          have H := HC14.out
          clear HC14
          replace H := Option.bind_eq_some_iff.mp H
          obtain ⟨t466, A150, H⟩ := H
          replace H : (if t466 = true then (if 0 < ((rd_L1 l0_1 x18_2).length : Int) then (if 1 < ((rd_L1 l0_1 x18_2).length : Int) then (if (rd (rd_L1 l0_1 x18_2) 0) ≥ (rd (rd_L1 l0_1 x18_2) 1) then (impl_IsKeep.j2 k2 l0_1 (l0_1.length : Int) x18_2 true a0_0 l0_1 a0_2) else (if x18_2 > 0 then (if 0 ≤ (wrap64 (x18_2 - 1)) then (if (wrap64 (x18_2 - 1)) < (l0_1.length : Int) then ((slices_Compare_int_int.f k2 (rd_L1 l0_1 (wrap64 (x18_2 - 1))) (rd_L1 l0_1 x18_2)).bind fun t470 => (impl_IsKeep.j2 k2 l0_1 (l0_1.length : Int) x18_2 (decide (t470 ≥ 0)) a0_0 l0_1 a0_2)) else (none)) else (none)) else (impl_IsKeep.j2 k2 l0_1 (l0_1.length : Int) x18_2 false a0_0 l0_1 a0_2))) else (none)) else (none)) else (impl_IsKeep.j2 k2 l0_1 (l0_1.length : Int) x18_2 true a0_0 l0_1 a0_2)) = some r := H
          have A15 := ak_ A150
          clear A150
          by_cases c16 : t466 = true
          ·
           subst c16
           have H1 : (if 0 < ((rd_L1 l0_1 x18_2).length : Int) then (if 1 < ((rd_L1 l0_1 x18_2).length : Int) then (if (rd (rd_L1 l0_1 x18_2) 0) ≥ (rd (rd_L1 l0_1 x18_2) 1) then (impl_IsKeep.j2 k2 l0_1 (l0_1.length : Int) x18_2 true a0_0 l0_1 a0_2) else (if x18_2 > 0 then (if 0 ≤ (wrap64 (x18_2 - 1)) then (if (wrap64 (x18_2 - 1)) < (l0_1.length : Int) then ((slices_Compare_int_int.f k2 (rd_L1 l0_1 (wrap64 (x18_2 - 1))) (rd_L1 l0_1 x18_2)).bind fun t470 => (impl_IsKeep.j2 k2 l0_1 (l0_1.length : Int) x18_2 (decide (t470 ≥ 0)) a0_0 l0_1 a0_2)) else (none)) else (none)) else (impl_IsKeep.j2 k2 l0_1 (l0_1.length : Int) x18_2 false a0_0 l0_1 a0_2))) else (none)) else (none)) = some r := by rw [if_pos rfl] at H; exact H
           clear H
           have H := H1
           clear H1
           by_cases c17 : 0 < ((rd_L1 l0_1 x18_2).length : Int)
           ·
            rw [if_pos c17] at H
            have c17b0 : decide (0 < ((rd_L1 l0_1 x18_2).length : Int)) = true := decide_eq_true c17
            have c17b1 : decide (0 < (rd_L1 l0_1 x18_2).length) = true := decide_eq_true (by omega)
            clear c17
            (first | rw [c17b0] | (simp only [i64_w, i32_w]; rw [c17b0]) | rw [c17b1] | skip)
            by_cases c18 : 1 < ((rd_L1 l0_1 x18_2).length : Int)
            ·
             rw [if_pos c18] at H
             have c18b0 : decide (1 < ((rd_L1 l0_1 x18_2).length : Int)) = true := decide_eq_true c18
             have c18b1 : decide (1 < (rd_L1 l0_1 x18_2).length) = true := decide_eq_true (by omega)
             clear c18
             by_cases c19 : (rd (rd_L1 l0_1 x18_2) 0) ≥ (rd (rd_L1 l0_1 x18_2) 1)
             ·
              rw [if_pos c19] at H
              have c19b0 : decide ((rd (rd_L1 l0_1 x18_2) 1) ≤ (rd (rd_L1 l0_1 x18_2) 0)) = true := decide_eq_true c19
              clear c19
              have H' := ak_ H
              clear H
              try go_wp2
              have n0_ := ak_ (k1_ BK462.out)
              have n1_ := ak_ (b1_ HB.out)
              clear BK462 HB
              have BK462 := n0_; have HB := n1_
              clear n0_ n1_
              have p467 : 0 ≤ (0 : Int) := (by omega)
              have q467 : 0 < ((rd_L1 l0_1 x18_2).length : Int) := odt_ (by assumption)
              obtain ⟨ad467, e467, hx467_0⟩ := Kd.at_int HR465_0.out 0 p467 q467
              have hw467_0 := hx467_0
              (try rw [show ((0 : Int)).toNat = 0 from rfl] at hw467_0)
              (try rw [show 0 * 1 = 0 from rfl] at hw467_0)
              (try rw [Addr.add_zero'] at hw467_0)
              cases e467
              have qi467 : (0 < (rd_L1 l0_1 x18_2).length) = True := eq_true (by omega)
              (try rw [show ((0 : Int)).toNat = 0 from rfl] at hx467_0)
              (try rw [Addr.add_zero'] at hx467_0)
              try replace hx467_0 := (HB.out.cell (World.block_lt_of_cell? w _ hx467_0)).trans hx467_0
              replace p467 := eq_true p467
              replace q467 := eq_true q467
              have p468 : 0 ≤ (1 : Int) := (by omega)
              have q468 : 1 < ((rd_L1 l0_1 x18_2).length : Int) := odt_ (by assumption)
              obtain ⟨ad468, e468, hx468_0⟩ := Kd.at_int HR465_0.out 1 p468 q468
              have hw468_0 := hx468_0
              (try rw [show ((1 : Int)).toNat = 1 from rfl] at hw468_0)
              (try rw [show 1 * 1 = 1 from rfl] at hw468_0)
              (try simp only [Nat.reduceMul, Nat.reduceEqDiff, Go.Addr.add, ↓reduceIte] at hw468_0)
              obtain rfl : ad467 = ad468 := (by injection e468)
              (try simp only [show (1 : Int).toNat = 1 from rfl, Nat.reduceMul, Nat.reduceEqDiff, Go.Addr.add, ↓reduceIte] at hx468_0)
              have qi468 : (1 < (rd_L1 l0_1 x18_2).length) = True := eq_true (by omega)
              (try rw [show ((1 : Int)).toNat = 1 from rfl] at hx468_0)
              try replace hx468_0 := (HB.out.cell (World.block_lt_of_cell? w _ hx468_0)).trans hx468_0
              replace p468 := eq_true p468
              replace q468 := eq_true q468
              refine start_ (n := 30) (S := fun w' => w'.cell? ⟨gb462, 0, none⟩ = some (.int .i64 a0_0) ∧ w'.cell? ⟨gb462, 1, none⟩ = some (.slice (some ad465) l0_1.length c0_1) ∧ w'.cell? ⟨gb462, 2, none⟩ = some (.int .i64 a0_2) ∧ w'.cell? ad467 = some (.int .i64 (rd (rd_L1 l0_1 x18_2) 0)) ∧ w'.cell? ⟨ad467.block, ad467.off + 1, none⟩ = some (.int .i64 (rd (rd_L1 l0_1 x18_2) 1))) (ds := []) (mb_ 30 0) (by kernel_rfl) rfl rfl ⟨(blk_cell BK462.out 0).trans rfl, (blk_cell BK462.out 1).trans rfl, (blk_cell BK462.out 2).trans rfl, ((HB.out.cell (World.block_lt_of_cell? w _ hw467_0)).trans hw467_0), ((HB.out.cell (World.block_lt_of_cell? w _ hw468_0)).trans hw468_0)⟩ (fun hHeld => ?_); refine with_tabW impl_IsKeep.tab6 impl_IsKeep.bits6 (fun HT_ HW_ => ?_)
              generalize wr.drew = w20 at BK462 HB hx467_0 hx468_0 hHeld ⊢
              refine pu_ 0 23 30 1 ?_
              refine pu_ 1 24 30 3 ?_
              refine tk_ 2 25 30 7 ?_ (hy := by rintro w' ⟨s0, s1, s2, s3, s4⟩; go_simp; with_reducible rfl)
              refine pu_ 3 26 30 15 ?_
              refine on_ 4 27 30 31 (fun K hK => ?_)
              refine goes_ Try.func97 (by kernel_rfl) rfl #[.slice (some ad467) (rd_L1 l0_1 x18_2).length c465_0, .int .i64 0, .int .i64 (wrap64 (a0_0 - 1)), .int .i64 2, .int .i64 2] (by rfl) rfl rfl (by first | rfl | (simp only [map_toArray, map_cons, map_nil]; try rfl)) ?_
              with_reducible refine (impl_areIn.calls _ _ (rd_L1 l0_1 x18_2) 0 (wrap64 (a0_0 - 1)) 2 2 true _ ?side1 ?side2 A15.out).mono ?_
              (case side1 => exact cs_ (Kd.C_below HR465_0.out HB.out))
              (case side2 => exact HC465_0.out)
              rintro e w21 ⟨rfl, hb⟩
              refine ⟨_, rfl, ?_⟩
              have n0_ := ak_ (blk_below (pk BK462.out) hb)
              have n1_ := ak_ (bs_ bl_ hb)
              clear BK462 HB
              have BK462 := n0_; have HB := n1_
              clear n0_ n1_
              (try clear hb)
              (try clear hb2)
              (try clear hk)
              (try clear hi)
              refine hK.out _ _ ⟨(blk_cell BK462.out 0).trans rfl, (blk_cell BK462.out 1).trans rfl, (blk_cell BK462.out 2).trans rfl, ((HB.out.cell (World.block_lt_of_cell? w _ hw467_0)).trans hw467_0), ((HB.out.cell (World.block_lt_of_cell? w _ hw468_0)).trans hw468_0)⟩ (fun hHeld => ?_)
              clear hK K
              refine nm_ ?_
              refine pu_ 5 28 30 63 ?_
              refine pu_ 6 29 30 127 ?_
              refine pu_ 7 30 30 255 ?_
              refine pu_ 8 31 30 511 ?_
              refine pu_ 10 33 30 1535 ?_
              refine pu_ 11 34 30 3583 ?_
              refine tk_ 9 32 30 4095 ?_ (hy := by rintro w' ⟨s0, s1, s2, s3, s4⟩; go_simp; with_reducible rfl)
              refine tk_ 12 35 30 8191 ?_ (hy := by rintro w' ⟨s0, s1, s2, s3, s4⟩; go_simp; with_reducible rfl)
              refine pu_ 13 36 30 16383 ?_
              refine pu_ 14 37 30 32767 ?_
              refine pu_ 15 38 30 65535 ?_
              refine pure_ (i := 16) (N := some 39) (v := undef) (a' := ?_) (mb_ 30 131071) rfl rfl (any_of HT_.out (by kernel_rfl)) (fun _ _ _ h => h) (Or.inr ⟨by rfl, rfl⟩) ?_ ?_
              rotate_left
              ·
               simp only [Act.put, setIfInBounds_toArray, set_cons_zero, set_cons_succ, i64_w, i32_w]
               rfl
              refine pure_ (i := 17) (N := some 40) (v := undef) (a' := ?_) (mb_ 30 262143) rfl rfl (any_of HT_.out (by kernel_rfl)) (fun _ _ _ h => h) (Or.inr ⟨by rfl, rfl⟩) ?_ ?_
              rotate_left
              ·
               simp only [Act.put, setIfInBounds_toArray, set_cons_zero, set_cons_succ, i64_w, i32_w]
               rfl
              refine pure_ (i := 18) (N := some 41) (v := undef) (a' := ?_) (mb_ 30 524287) rfl rfl (any_of HT_.out (by kernel_rfl)) (fun _ _ _ h => h) (Or.inr ⟨by rfl, rfl⟩) ?_ ?_
              rotate_left
              ·
               simp only [Act.put, setIfInBounds_toArray, set_cons_zero, set_cons_succ, i64_w, i32_w]
               rfl
              refine pure_ (i := 19) (N := some 42) (v := undef) (a' := ?_) (mb_ 30 1048575) rfl rfl (any_of HT_.out (by kernel_rfl)) (fun _ _ _ h => h) (Or.inr ⟨by rfl, rfl⟩) ?_ ?_
              rotate_left
              ·
               simp only [Act.put, setIfInBounds_toArray, set_cons_zero, set_cons_succ, i64_w, i32_w]
               rfl
              refine pure_ (i := 20) (N := some 43) (v := undef) (a' := ?_) (mb_ 30 2097151) rfl rfl (any_of HT_.out (by kernel_rfl)) (fun _ _ _ h => h) (Or.inr ⟨by rfl, rfl⟩) ?_ ?_
              rotate_left
              ·
               simp only [Act.put, setIfInBounds_toArray, set_cons_zero, set_cons_succ, i64_w, i32_w]
               rfl
              refine pure_ (i := 21) (N := some 44) (v := undef) (a' := ?_) (mb_ 30 4194303) rfl rfl (any_of HT_.out (by kernel_rfl)) (fun _ _ _ h => h) (Or.inr ⟨by rfl, rfl⟩) ?_ ?_
              rotate_left
              ·
               simp only [Act.put, setIfInBounds_toArray, set_cons_zero, set_cons_succ, i64_w, i32_w]
               rfl
              refine pure_ (i := 22) (N := some 45) (v := undef) (a' := ?_) (mb_ 30 8388607) rfl rfl (any_of HT_.out (by kernel_rfl)) (fun _ _ _ h => h) (Or.inr ⟨by rfl, rfl⟩) ?_ ?_
              rotate_left
              ·
               simp only [Act.put, setIfInBounds_toArray, set_cons_zero, set_cons_succ, i64_w, i32_w]
               rfl
              refine pure_ (i := 23) (N := some 46) (v := undef) (a' := ?_) (mb_ 30 16777215) rfl rfl (any_of HT_.out (by kernel_rfl)) (fun _ _ _ h => h) (Or.inr ⟨by rfl, rfl⟩) ?_ ?_
              rotate_left
              ·
               simp only [Act.put, setIfInBounds_toArray, set_cons_zero, set_cons_succ, i64_w, i32_w]
               rfl
              refine pure_ (i := 24) (N := some 47) (v := undef) (a' := ?_) (mb_ 30 33554431) rfl rfl (any_of HT_.out (by kernel_rfl)) (fun _ _ _ h => h) (Or.inr ⟨by rfl, rfl⟩) ?_ ?_
              rotate_left
              ·
               simp only [Act.put, setIfInBounds_toArray, set_cons_zero, set_cons_succ, i64_w, i32_w]
               rfl
              refine pure_ (i := 25) (N := some 48) (v := undef) (a' := ?_) (mb_ 30 67108863) rfl rfl (any_of HT_.out (by kernel_rfl)) (fun _ _ _ h => h) (Or.inr ⟨by rfl, rfl⟩) ?_ ?_
              rotate_left
              ·
               simp only [Act.put, setIfInBounds_toArray, set_cons_zero, set_cons_succ, i64_w, i32_w]
               rfl
              refine pure_ (i := 26) (N := some 49) (v := undef) (a' := ?_) (mb_ 30 134217727) rfl rfl (any_of HT_.out (by kernel_rfl)) (fun _ _ _ h => h) (Or.inr ⟨by rfl, rfl⟩) ?_ ?_
              rotate_left
              ·
               simp only [Act.put, setIfInBounds_toArray, set_cons_zero, set_cons_succ, i64_w, i32_w]
               rfl
              refine pure_ (i := 27) (N := some 50) (v := undef) (a' := ?_) (mb_ 30 268435455) rfl rfl (any_of HT_.out (by kernel_rfl)) (fun _ _ _ h => h) (Or.inr ⟨by rfl, rfl⟩) ?_ ?_
              rotate_left
              ·
               simp only [Act.put, setIfInBounds_toArray, set_cons_zero, set_cons_succ, i64_w, i32_w]
               rfl
              refine pure_ (i := 28) (N := some 51) (v := undef) (a' := ?_) (mb_ 30 536870911) rfl rfl (any_of HT_.out (by kernel_rfl)) (fun _ _ _ h => h) (Or.inr ⟨by rfl, rfl⟩) ?_ ?_
              rotate_left
              ·
               simp only [Act.put, setIfInBounds_toArray, set_cons_zero, set_cons_succ, i64_w, i32_w]
               rfl
              refine pu_ 29 52 30 1073741823 ?_
              refine done_ (done_of HT_.out (by kernel_rfl)) ?_
              try go_wp2
              go_meet
              case rel => exact ⟨_, (true), (ry_), H', ⟨by have := HJ1.out; have := HK2.out; first | omega | exact Nat.le_refl _⟩, ⟨pk BK462.out⟩, ⟨by repeat (first | exact HB.out | apply ba_ | apply bN_ | apply b1_ | refine below_set ?_ GE462.out)⟩⟩
             ·
              rw [if_neg c19] at H
              have c19b0 : decide ((rd (rd_L1 l0_1 x18_2) 1) ≤ (rd (rd_L1 l0_1 x18_2) 0)) = false := decide_eq_false c19
              clear c19
              by_cases c22 : x18_2 > 0
              ·
               rw [if_pos c22] at H
               have c22b0 : decide (0 < x18_2) = true := decide_eq_true c22
               clear c22
               obtain ⟨ji23, hji23⟩ : ∃ j_ : Int, (wrap64 (x18_2 - 1)) = j_ := ⟨_, rfl⟩
               replace H : (if 0 ≤ (ji23) then (if (ji23) < (l0_1.length : Int) then ((slices_Compare_int_int.f k2 (rd_L1 l0_1 (ji23)) (rd_L1 l0_1 x18_2)).bind fun t470 => (impl_IsKeep.j2 k2 l0_1 (l0_1.length : Int) x18_2 (decide (t470 ≥ 0)) a0_0 l0_1 a0_2)) else (none)) else (none)) = some r := by first | (rw [hji23] at H; exact H) | (simp only [hji23] at H ⊢; exact H)
               (try rw [hji23] at A15)
               have hji23w : (IntKind.i64.wrap (x18_2 - 1)) = ji23 := (i64_w _).trans hji23
               by_cases c24 : 0 ≤ (ji23)
               ·
                rw [if_pos c24] at H
                have c24b0 : decide (0 ≤ (ji23)) = true := decide_eq_true c24
                clear c24
                by_cases c25 : (ji23) < (l0_1.length : Int)
                ·
                 rw [if_pos c25] at H
                 have c25b0 : decide ((ji23) < (l0_1.length : Int)) = true := decide_eq_true c25
                 clear c25
                 replace H := Option.bind_eq_some_iff.mp H
                 obtain ⟨t470, A260, H⟩ := H
                 replace H : (impl_IsKeep.j2 k2 l0_1 (l0_1.length : Int) x18_2 (decide (t470 ≥ 0)) a0_0 l0_1 a0_2) = some r := H
                 have A26 := ak_ A260
                 clear A260
                 have H' := ak_ H
                 clear H
                 try go_wp2
                 have n0_ := ak_ (k1_ BK462.out)
                 have n1_ := ak_ (b1_ HB.out)
                 clear BK462 HB
                 have BK462 := n0_; have HB := n1_
                 clear n0_ n1_
                 have p467 : 0 ≤ (0 : Int) := (by omega)
                 have q467 : 0 < ((rd_L1 l0_1 x18_2).length : Int) := odt_ (by assumption)
                 obtain ⟨ad467, e467, hx467_0⟩ := Kd.at_int HR465_0.out 0 p467 q467
                 have hw467_0 := hx467_0
                 (try rw [show ((0 : Int)).toNat = 0 from rfl] at hw467_0)
                 (try rw [show 0 * 1 = 0 from rfl] at hw467_0)
                 (try rw [Addr.add_zero'] at hw467_0)
                 cases e467
                 have qi467 : (0 < (rd_L1 l0_1 x18_2).length) = True := eq_true (by omega)
                 (try rw [show ((0 : Int)).toNat = 0 from rfl] at hx467_0)
                 (try rw [Addr.add_zero'] at hx467_0)
                 try replace hx467_0 := (HB.out.cell (World.block_lt_of_cell? w _ hx467_0)).trans hx467_0
                 replace p467 := eq_true p467
                 replace q467 := eq_true q467
                 have p468 : 0 ≤ (1 : Int) := (by omega)
                 have q468 : 1 < ((rd_L1 l0_1 x18_2).length : Int) := odt_ (by assumption)
                 obtain ⟨ad468, e468, hx468_0⟩ := Kd.at_int HR465_0.out 1 p468 q468
                 have hw468_0 := hx468_0
                 (try rw [show ((1 : Int)).toNat = 1 from rfl] at hw468_0)
                 (try rw [show 1 * 1 = 1 from rfl] at hw468_0)
                 (try simp only [Nat.reduceMul, Nat.reduceEqDiff, Go.Addr.add, ↓reduceIte] at hw468_0)
                 obtain rfl : ad467 = ad468 := (by injection e468)
                 (try simp only [show (1 : Int).toNat = 1 from rfl, Nat.reduceMul, Nat.reduceEqDiff, Go.Addr.add, ↓reduceIte] at hx468_0)
                 have qi468 : (1 < (rd_L1 l0_1 x18_2).length) = True := eq_true (by omega)
                 (try rw [show ((1 : Int)).toNat = 1 from rfl] at hx468_0)
                 try replace hx468_0 := (HB.out.cell (World.block_lt_of_cell? w _ hx468_0)).trans hx468_0
                 replace p468 := eq_true p468
                 replace q468 := eq_true q468
                 have p469 : 0 ≤ ((ji23) : Int) := odt_ (by assumption)
                 have q469 : (ji23) < (l0_1.length : Int) := odt_ (by assumption)
                 obtain ⟨ad469, A469_0, c469_0, e469, hx469_0, hl469_0, hi469_0⟩ := at_L1 HR0_1.out (ji23) p469 q469
                 have hw469_0 := hx469_0
                 obtain rfl : ad465 = ad469 := (by injection e469)
                 try replace hx469_0 := (HB.out.cell (World.block_lt_of_cell? w _ hx469_0)).trans hx469_0
                 have HR469_0 := ak_ hi469_0
                 have HC469_0 := ak_ hl469_0
                 clear hi469_0 hl469_0
                 replace p469 := eq_true p469
                 replace q469 := eq_true q469
                 refine start_ (n := 30) (S := fun w' => w'.cell? ⟨gb462, 0, none⟩ = some (.int .i64 a0_0) ∧ w'.cell? ⟨gb462, 1, none⟩ = some (.slice (some ad465) l0_1.length c0_1) ∧ w'.cell? ⟨gb462, 2, none⟩ = some (.int .i64 a0_2) ∧ w'.cell? ad467 = some (.int .i64 (rd (rd_L1 l0_1 x18_2) 0)) ∧ w'.cell? ⟨ad467.block, ad467.off + 1, none⟩ = some (.int .i64 (rd (rd_L1 l0_1 x18_2) 1)) ∧ w'.cell? (ad465.add ((ji23)).toNat) = some (.slice A469_0 (rd_L1 l0_1 (ji23)).length c469_0)) (ds := []) (mb_ 30 0) (by kernel_rfl) rfl rfl ⟨(blk_cell BK462.out 0).trans rfl, (blk_cell BK462.out 1).trans rfl, (blk_cell BK462.out 2).trans rfl, ((HB.out.cell (World.block_lt_of_cell? w _ hw467_0)).trans hw467_0), ((HB.out.cell (World.block_lt_of_cell? w _ hw468_0)).trans hw468_0), ((HB.out.cell (World.block_lt_of_cell? w _ hw469_0)).trans hw469_0)⟩ (fun hHeld => ?_); refine with_tabW impl_IsKeep.tab6 impl_IsKeep.bits6 (fun HT_ HW_ => ?_)
                 generalize wr.drew = w27 at BK462 HB HR469_0 hx467_0 hx468_0 hx469_0 hHeld ⊢
                 refine pu_ 0 23 30 1 ?_
                 refine pu_ 1 24 30 3 ?_
                 refine tk_ 2 25 30 7 ?_ (hy := by rintro w' ⟨s0, s1, s2, s3, s4, s5⟩; go_simp; with_reducible rfl)
                 refine pu_ 3 26 30 15 ?_
                 refine on_ 4 27 30 31 (fun K hK => ?_)
                 refine goes_ Try.func97 (by kernel_rfl) rfl #[.slice (some ad467) (rd_L1 l0_1 x18_2).length c465_0, .int .i64 0, .int .i64 (wrap64 (a0_0 - 1)), .int .i64 2, .int .i64 2] (by rfl) rfl rfl (by first | rfl | (simp only [map_toArray, map_cons, map_nil]; try rfl)) ?_
                 with_reducible refine (impl_areIn.calls _ _ (rd_L1 l0_1 x18_2) 0 (wrap64 (a0_0 - 1)) 2 2 true _ ?side1 ?side2 A15.out).mono ?_
                 (case side1 => exact cs_ (Kd.C_below HR465_0.out HB.out))
                 (case side2 => exact HC465_0.out)
                 rintro e w28 ⟨rfl, hb⟩
                 refine ⟨_, rfl, ?_⟩
                 have n0_ := ak_ (blk_below (pk BK462.out) hb)
                 have n1_ := ak_ (bs_ bl_ hb)
                 clear BK462 HB
                 have BK462 := n0_; have HB := n1_
                 clear n0_ n1_
                 (try clear hb)
                 (try clear hb2)
                 (try clear hk)
                 (try clear hi)
                 refine hK.out _ _ ⟨(blk_cell BK462.out 0).trans rfl, (blk_cell BK462.out 1).trans rfl, (blk_cell BK462.out 2).trans rfl, ((HB.out.cell (World.block_lt_of_cell? w _ hw467_0)).trans hw467_0), ((HB.out.cell (World.block_lt_of_cell? w _ hw468_0)).trans hw468_0), ((HB.out.cell (World.block_lt_of_cell? w _ hw469_0)).trans hw469_0)⟩ (fun hHeld => ?_)
                 clear hK K
                 refine nm_ ?_
                 refine pu_ 5 28 30 63 ?_
                 refine pu_ 6 29 30 127 ?_
                 refine pu_ 7 30 30 255 ?_
                 refine pu_ 8 31 30 511 ?_
                 refine pu_ 10 33 30 1535 ?_
                 refine pu_ 11 34 30 3583 ?_
                 refine tk_ 9 32 30 4095 ?_ (hy := by rintro w' ⟨s0, s1, s2, s3, s4, s5⟩; go_simp; with_reducible rfl)
                 refine tk_ 12 35 30 8191 ?_ (hy := by rintro w' ⟨s0, s1, s2, s3, s4, s5⟩; go_simp; with_reducible rfl)
                 refine pu_ 13 36 30 16383 ?_
                 refine pu_ 14 37 30 32767 ?_
                 refine pu_ 15 38 30 65535 ?_
                 refine pu_ 16 39 30 131071 ?_
                 refine pu_ 17 40 30 262143 ?_
                 refine pu_ 18 41 30 524287 ?_
                 refine pu_ 19 42 30 1048575 ?_
                 refine pu_ 21 44 30 3145727 ?_
                 refine pu_ 22 45 30 7340031 ?_
                 refine pu_ 25 48 30 40894463 ?_
                 refine tk_ 20 43 30 41943039 ?_ (hy := by rintro w' ⟨s0, s1, s2, s3, s4, s5⟩; go_simp; with_reducible rfl)
                 refine pu_ 23 46 30 50331647 ?_
                 refine tk_ 24 47 30 67108863 ?_ (hy := by rintro w' ⟨s0, s1, s2, s3, s4, s5⟩; go_simp; with_reducible rfl)
                 refine on_ 26 49 30 134217727 (fun K hK => ?_)
                 refine goes_ Try.func107 (by kernel_rfl) rfl #[.slice A469_0 (rd_L1 l0_1 (ji23)).length c469_0, .slice (some ad467) (rd_L1 l0_1 x18_2).length c465_0] (by rfl) rfl rfl (by (try simp only [List.map_toArray, List.map_cons, List.map_nil]); first | done | (simp only [hji23]; rfl) | rfl | (simp only [List.length_drop, List.length_take]; rfl)) ?_
                 with_reducible refine (slices_Compare_int_int.calls k2 _ _ (rd_L1 l0_1 (ji23)) _ _ (rd_L1 l0_1 x18_2) t470 _ ?side1 ?side2 ?side3 ?side4 A26.out).mono ?_
                 (case side1 => exact cs_ (Kd.C_below HR469_0.out HB.out))
                 (case side2 => exact HC469_0.out)
                 (case side3 => exact cs_ (Kd.C_below HR465_0.out HB.out))
                 (case side4 => exact HC465_0.out)
                 rintro e w' ⟨rfl, ⟨nd, rfl⟩⟩
                 refine ⟨_, rfl, ?_⟩
                 refine hK.out _ _ ⟨(blk_cell BK462.out 0).trans rfl, (blk_cell BK462.out 1).trans rfl, (blk_cell BK462.out 2).trans rfl, ((HB.out.cell (World.block_lt_of_cell? w _ hw467_0)).trans hw467_0), ((HB.out.cell (World.block_lt_of_cell? w _ hw468_0)).trans hw468_0), ((HB.out.cell (World.block_lt_of_cell? w _ hw469_0)).trans hw469_0)⟩ (fun hHeld => ?_)
                 clear hK K
                 refine nm_ ?_
                 refine pu_ 27 50 30 268435455 ?_
                 refine pu_ 28 51 30 536870911 ?_
                 refine pu_ 29 52 30 1073741823 ?_
                 refine done_ (done_of HT_.out (by kernel_rfl)) ?_
                 try go_wp2
                 go_meet
                 case rel => exact ⟨_, (decide (t470 ≥ 0)), (ry_), H', ⟨by have := HJ1.out; have := HK2.out; first | omega | exact Nat.le_refl _⟩, ⟨pk BK462.out⟩, ⟨by repeat (first | exact HB.out | apply ba_ | apply bN_ | apply b1_ | refine below_set ?_ GE462.out)⟩⟩
                ·
                 rw [if_neg c25] at H
                 exact absurd H (by simp)
               ·
                rw [if_neg c24] at H
                exact absurd H (by simp)
              ·
               rw [if_neg c22] at H
               have c22b0 : decide (0 < x18_2) = false := decide_eq_false c22
               clear c22
               have H' := ak_ H
               clear H
               try go_wp2
               have n0_ := ak_ (k1_ BK462.out)
               have n1_ := ak_ (b1_ HB.out)
               clear BK462 HB
               have BK462 := n0_; have HB := n1_
               clear n0_ n1_
               have p467 : 0 ≤ (0 : Int) := (by omega)
               have q467 : 0 < ((rd_L1 l0_1 x18_2).length : Int) := odt_ (by assumption)
               obtain ⟨ad467, e467, hx467_0⟩ := Kd.at_int HR465_0.out 0 p467 q467
               have hw467_0 := hx467_0
               (try rw [show ((0 : Int)).toNat = 0 from rfl] at hw467_0)
               (try rw [show 0 * 1 = 0 from rfl] at hw467_0)
               (try rw [Addr.add_zero'] at hw467_0)
               cases e467
               have qi467 : (0 < (rd_L1 l0_1 x18_2).length) = True := eq_true (by omega)
               (try rw [show ((0 : Int)).toNat = 0 from rfl] at hx467_0)
               (try rw [Addr.add_zero'] at hx467_0)
               try replace hx467_0 := (HB.out.cell (World.block_lt_of_cell? w _ hx467_0)).trans hx467_0
               replace p467 := eq_true p467
               replace q467 := eq_true q467
               have p468 : 0 ≤ (1 : Int) := (by omega)
               have q468 : 1 < ((rd_L1 l0_1 x18_2).length : Int) := odt_ (by assumption)
               obtain ⟨ad468, e468, hx468_0⟩ := Kd.at_int HR465_0.out 1 p468 q468
               have hw468_0 := hx468_0
               (try rw [show ((1 : Int)).toNat = 1 from rfl] at hw468_0)
               (try rw [show 1 * 1 = 1 from rfl] at hw468_0)
               (try simp only [Nat.reduceMul, Nat.reduceEqDiff, Go.Addr.add, ↓reduceIte] at hw468_0)
               obtain rfl : ad467 = ad468 := (by injection e468)
               (try simp only [show (1 : Int).toNat = 1 from rfl, Nat.reduceMul, Nat.reduceEqDiff, Go.Addr.add, ↓reduceIte] at hx468_0)
               have qi468 : (1 < (rd_L1 l0_1 x18_2).length) = True := eq_true (by omega)
               (try rw [show ((1 : Int)).toNat = 1 from rfl] at hx468_0)
               try replace hx468_0 := (HB.out.cell (World.block_lt_of_cell? w _ hx468_0)).trans hx468_0
               replace p468 := eq_true p468
               replace q468 := eq_true q468
               refine start_ (n := 30) (S := fun w' => w'.cell? ⟨gb462, 0, none⟩ = some (.int .i64 a0_0) ∧ w'.cell? ⟨gb462, 1, none⟩ = some (.slice (some ad465) l0_1.length c0_1) ∧ w'.cell? ⟨gb462, 2, none⟩ = some (.int .i64 a0_2) ∧ w'.cell? ad467 = some (.int .i64 (rd (rd_L1 l0_1 x18_2) 0)) ∧ w'.cell? ⟨ad467.block, ad467.off + 1, none⟩ = some (.int .i64 (rd (rd_L1 l0_1 x18_2) 1))) (ds := []) (mb_ 30 0) (by kernel_rfl) rfl rfl ⟨(blk_cell BK462.out 0).trans rfl, (blk_cell BK462.out 1).trans rfl, (blk_cell BK462.out 2).trans rfl, ((HB.out.cell (World.block_lt_of_cell? w _ hw467_0)).trans hw467_0), ((HB.out.cell (World.block_lt_of_cell? w _ hw468_0)).trans hw468_0)⟩ (fun hHeld => ?_); refine with_tabW impl_IsKeep.tab6 impl_IsKeep.bits6 (fun HT_ HW_ => ?_)
               generalize wr.drew = w29 at BK462 HB hx467_0 hx468_0 hHeld ⊢
               refine pu_ 0 23 30 1 ?_
               refine pu_ 1 24 30 3 ?_
               refine tk_ 2 25 30 7 ?_ (hy := by rintro w' ⟨s0, s1, s2, s3, s4⟩; go_simp; with_reducible rfl)
               refine pu_ 3 26 30 15 ?_
               refine on_ 4 27 30 31 (fun K hK => ?_)
               refine goes_ Try.func97 (by kernel_rfl) rfl #[.slice (some ad467) (rd_L1 l0_1 x18_2).length c465_0, .int .i64 0, .int .i64 (wrap64 (a0_0 - 1)), .int .i64 2, .int .i64 2] (by rfl) rfl rfl (by first | rfl | (simp only [map_toArray, map_cons, map_nil]; try rfl)) ?_
               with_reducible refine (impl_areIn.calls _ _ (rd_L1 l0_1 x18_2) 0 (wrap64 (a0_0 - 1)) 2 2 true _ ?side1 ?side2 A15.out).mono ?_
               (case side1 => exact cs_ (Kd.C_below HR465_0.out HB.out))
               (case side2 => exact HC465_0.out)
               rintro e w30 ⟨rfl, hb⟩
               refine ⟨_, rfl, ?_⟩
               have n0_ := ak_ (blk_below (pk BK462.out) hb)
               have n1_ := ak_ (bs_ bl_ hb)
               clear BK462 HB
               have BK462 := n0_; have HB := n1_
               clear n0_ n1_
               (try clear hb)
               (try clear hb2)
               (try clear hk)
               (try clear hi)
               refine hK.out _ _ ⟨(blk_cell BK462.out 0).trans rfl, (blk_cell BK462.out 1).trans rfl, (blk_cell BK462.out 2).trans rfl, ((HB.out.cell (World.block_lt_of_cell? w _ hw467_0)).trans hw467_0), ((HB.out.cell (World.block_lt_of_cell? w _ hw468_0)).trans hw468_0)⟩ (fun hHeld => ?_)
               clear hK K
               refine nm_ ?_
               refine pu_ 5 28 30 63 ?_
               refine pu_ 6 29 30 127 ?_
               refine pu_ 7 30 30 255 ?_
               refine pu_ 8 31 30 511 ?_
               refine pu_ 10 33 30 1535 ?_
               refine pu_ 11 34 30 3583 ?_
               refine tk_ 9 32 30 4095 ?_ (hy := by rintro w' ⟨s0, s1, s2, s3, s4⟩; go_simp; with_reducible rfl)
               refine tk_ 12 35 30 8191 ?_ (hy := by rintro w' ⟨s0, s1, s2, s3, s4⟩; go_simp; with_reducible rfl)
               refine pu_ 13 36 30 16383 ?_
               refine pu_ 14 37 30 32767 ?_
               refine pu_ 15 38 30 65535 ?_
               refine pu_ 16 39 30 131071 ?_
               refine pu_ 17 40 30 262143 ?_
               refine pu_ 18 41 30 524287 ?_
               refine pure_ (i := 19) (N := some 42) (v := undef) (a' := ?_) (mb_ 30 1048575) rfl rfl (any_of HT_.out (by kernel_rfl)) (fun _ _ _ h => h) (Or.inr ⟨by rfl, rfl⟩) ?_ ?_
               rotate_left
               ·
                simp only [Act.put, setIfInBounds_toArray, set_cons_zero, set_cons_succ, i64_w, i32_w]
                rfl
               refine pure_ (i := 20) (N := some 43) (v := undef) (a' := ?_) (mb_ 30 2097151) rfl rfl (any_of HT_.out (by kernel_rfl)) (fun _ _ _ h => h) (Or.inr ⟨by rfl, rfl⟩) ?_ ?_
               rotate_left
               ·
                simp only [Act.put, setIfInBounds_toArray, set_cons_zero, set_cons_succ, i64_w, i32_w]
                rfl
               refine pure_ (i := 21) (N := some 44) (v := undef) (a' := ?_) (mb_ 30 4194303) rfl rfl (any_of HT_.out (by kernel_rfl)) (fun _ _ _ h => h) (Or.inr ⟨by rfl, rfl⟩) ?_ ?_
               rotate_left
               ·
                simp only [Act.put, setIfInBounds_toArray, set_cons_zero, set_cons_succ, i64_w, i32_w]
                rfl
               refine pure_ (i := 22) (N := some 45) (v := undef) (a' := ?_) (mb_ 30 8388607) rfl rfl (any_of HT_.out (by kernel_rfl)) (fun _ _ _ h => h) (Or.inr ⟨by rfl, rfl⟩) ?_ ?_
               rotate_left
               ·
                simp only [Act.put, setIfInBounds_toArray, set_cons_zero, set_cons_succ, i64_w, i32_w]
                rfl
               refine pure_ (i := 23) (N := some 46) (v := undef) (a' := ?_) (mb_ 30 16777215) rfl rfl (any_of HT_.out (by kernel_rfl)) (fun _ _ _ h => h) (Or.inr ⟨by rfl, rfl⟩) ?_ ?_
               rotate_left
               ·
                simp only [Act.put, setIfInBounds_toArray, set_cons_zero, set_cons_succ, i64_w, i32_w]
                rfl
               refine pure_ (i := 24) (N := some 47) (v := undef) (a' := ?_) (mb_ 30 33554431) rfl rfl (any_of HT_.out (by kernel_rfl)) (fun _ _ _ h => h) (Or.inr ⟨by rfl, rfl⟩) ?_ ?_
               rotate_left
               ·
                simp only [Act.put, setIfInBounds_toArray, set_cons_zero, set_cons_succ, i64_w, i32_w]
                rfl
               refine pure_ (i := 25) (N := some 48) (v := undef) (a' := ?_) (mb_ 30 67108863) rfl rfl (any_of HT_.out (by kernel_rfl)) (fun _ _ _ h => h) (Or.inr ⟨by rfl, rfl⟩) ?_ ?_
               rotate_left
               ·
                simp only [Act.put, setIfInBounds_toArray, set_cons_zero, set_cons_succ, i64_w, i32_w]
                rfl
               refine pure_ (i := 26) (N := some 49) (v := undef) (a' := ?_) (mb_ 30 134217727) rfl rfl (any_of HT_.out (by kernel_rfl)) (fun _ _ _ h => h) (Or.inr ⟨by rfl, rfl⟩) ?_ ?_
               rotate_left
               ·
                simp only [Act.put, setIfInBounds_toArray, set_cons_zero, set_cons_succ, i64_w, i32_w]
                rfl
               refine pure_ (i := 27) (N := some 50) (v := undef) (a' := ?_) (mb_ 30 268435455) rfl rfl (any_of HT_.out (by kernel_rfl)) (fun _ _ _ h => h) (Or.inr ⟨by rfl, rfl⟩) ?_ ?_
               rotate_left
               ·
                simp only [Act.put, setIfInBounds_toArray, set_cons_zero, set_cons_succ, i64_w, i32_w]
                rfl
               refine pu_ 28 51 30 536870911 ?_
               refine pu_ 29 52 30 1073741823 ?_
               refine done_ (done_of HT_.out (by kernel_rfl)) ?_
               try go_wp2
               go_meet
               case rel => exact ⟨_, (false), (ry_), H', ⟨by have := HJ1.out; have := HK2.out; first | omega | exact Nat.le_refl _⟩, ⟨pk BK462.out⟩, ⟨by repeat (first | exact HB.out | apply ba_ | apply bN_ | apply b1_ | refine below_set ?_ GE462.out)⟩⟩
            ·
             rw [if_neg c18] at H
             exact absurd H (by simp)
           ·
            rw [if_neg c17] at H
            exact absurd H (by simp)
          ·
           replace c16 := Bool.eq_false_iff.mpr c16
           subst c16
           have H1 : (impl_IsKeep.j2 k2 l0_1 (l0_1.length : Int) x18_2 true a0_0 l0_1 a0_2) = some r := by rw [if_neg (show ¬ (false = true) by decide)] at H; exact H
           clear H
           have H := H1
           clear H1
           have H' := ak_ H
           clear H
           try go_wp2
           have n0_ := ak_ (k1_ BK462.out)
           have n1_ := ak_ (b1_ HB.out)
           clear BK462 HB
           have BK462 := n0_; have HB := n1_
           clear n0_ n1_
           refine start_ (n := 30) (S := fun w' => w'.cell? ⟨gb462, 0, none⟩ = some (.int .i64 a0_0) ∧ w'.cell? ⟨gb462, 1, none⟩ = some (.slice (some ad465) l0_1.length c0_1) ∧ w'.cell? ⟨gb462, 2, none⟩ = some (.int .i64 a0_2)) (ds := []) (mb_ 30 0) (by kernel_rfl) rfl rfl ⟨(blk_cell BK462.out 0).trans rfl, (blk_cell BK462.out 1).trans rfl, (blk_cell BK462.out 2).trans rfl⟩ (fun hHeld => ?_); refine with_tabW impl_IsKeep.tab6 impl_IsKeep.bits6 (fun HT_ HW_ => ?_)
           generalize wr.drew = w31 at BK462 HB hHeld ⊢
           refine pu_ 0 23 30 1 ?_
           refine pu_ 1 24 30 3 ?_
           refine tk_ 2 25 30 7 ?_ (hy := by rintro w' ⟨s0, s1, s2⟩; go_simp; with_reducible rfl)
           refine pu_ 3 26 30 15 ?_
           refine on_ 4 27 30 31 (fun K hK => ?_)
           refine goes_ Try.func97 (by kernel_rfl) rfl #[.slice A465_0 (rd_L1 l0_1 x18_2).length c465_0, .int .i64 0, .int .i64 (wrap64 (a0_0 - 1)), .int .i64 2, .int .i64 2] (by rfl) rfl rfl (by first | rfl | (simp only [map_toArray, map_cons, map_nil]; try rfl)) ?_
           with_reducible refine (impl_areIn.calls _ _ (rd_L1 l0_1 x18_2) 0 (wrap64 (a0_0 - 1)) 2 2 false _ ?side1 ?side2 A15.out).mono ?_
           (case side1 => exact cs_ (Kd.C_below HR465_0.out HB.out))
           (case side2 => exact HC465_0.out)
           rintro e w32 ⟨rfl, hb⟩
           refine ⟨_, rfl, ?_⟩
           have n0_ := ak_ (blk_below (pk BK462.out) hb)
           have n1_ := ak_ (bs_ bl_ hb)
           clear BK462 HB
           have BK462 := n0_; have HB := n1_
           clear n0_ n1_
           (try clear hb)
           (try clear hb2)
           (try clear hk)
           (try clear hi)
           refine hK.out _ _ ⟨(blk_cell BK462.out 0).trans rfl, (blk_cell BK462.out 1).trans rfl, (blk_cell BK462.out 2).trans rfl⟩ (fun hHeld => ?_)
           clear hK K
           refine nm_ ?_
           refine pu_ 5 28 30 63 ?_
           refine pu_ 6 29 30 127 ?_
           refine pure_ (i := 7) (N := some 30) (v := undef) (a' := ?_) (mb_ 30 255) rfl rfl (any_of HT_.out (by kernel_rfl)) (fun _ _ _ h => h) (Or.inr ⟨by rfl, rfl⟩) ?_ ?_
           rotate_left
           ·
            simp only [Act.put, setIfInBounds_toArray, set_cons_zero, set_cons_succ, i64_w, i32_w]
            rfl
           refine pure_ (i := 8) (N := some 31) (v := undef) (a' := ?_) (mb_ 30 511) rfl rfl (any_of HT_.out (by kernel_rfl)) (fun _ _ _ h => h) (Or.inr ⟨by rfl, rfl⟩) ?_ ?_
           rotate_left
           ·
            simp only [Act.put, setIfInBounds_toArray, set_cons_zero, set_cons_succ, i64_w, i32_w]
            rfl
           refine pure_ (i := 9) (N := some 32) (v := undef) (a' := ?_) (mb_ 30 1023) rfl rfl (any_of HT_.out (by kernel_rfl)) (fun _ _ _ h => h) (Or.inr ⟨by rfl, rfl⟩) ?_ ?_
           rotate_left
           ·
            simp only [Act.put, setIfInBounds_toArray, set_cons_zero, set_cons_succ, i64_w, i32_w]
            rfl
           refine pure_ (i := 10) (N := some 33) (v := undef) (a' := ?_) (mb_ 30 2047) rfl rfl (any_of HT_.out (by kernel_rfl)) (fun _ _ _ h => h) (Or.inr ⟨by rfl, rfl⟩) ?_ ?_
           rotate_left
           ·
            simp only [Act.put, setIfInBounds_toArray, set_cons_zero, set_cons_succ, i64_w, i32_w]
            rfl
           refine pure_ (i := 11) (N := some 34) (v := undef) (a' := ?_) (mb_ 30 4095) rfl rfl (any_of HT_.out (by kernel_rfl)) (fun _ _ _ h => h) (Or.inr ⟨by rfl, rfl⟩) ?_ ?_
           rotate_left
           ·
            simp only [Act.put, setIfInBounds_toArray, set_cons_zero, set_cons_succ, i64_w, i32_w]
            rfl
           refine pure_ (i := 12) (N := some 35) (v := undef) (a' := ?_) (mb_ 30 8191) rfl rfl (any_of HT_.out (by kernel_rfl)) (fun _ _ _ h => h) (Or.inr ⟨by rfl, rfl⟩) ?_ ?_
           rotate_left
           ·
            simp only [Act.put, setIfInBounds_toArray, set_cons_zero, set_cons_succ, i64_w, i32_w]
            rfl
           refine pure_ (i := 13) (N := some 36) (v := undef) (a' := ?_) (mb_ 30 16383) rfl rfl (any_of HT_.out (by kernel_rfl)) (fun _ _ _ h => h) (Or.inr ⟨by rfl, rfl⟩) ?_ ?_
           rotate_left
           ·
            simp only [Act.put, setIfInBounds_toArray, set_cons_zero, set_cons_succ, i64_w, i32_w]
            rfl
           refine pu_ 14 37 30 32767 ?_
           refine pu_ 15 38 30 65535 ?_
           refine pure_ (i := 16) (N := some 39) (v := undef) (a' := ?_) (mb_ 30 131071) rfl rfl (any_of HT_.out (by kernel_rfl)) (fun _ _ _ h => h) (Or.inr ⟨by rfl, rfl⟩) ?_ ?_
           rotate_left
           ·
            simp only [Act.put, setIfInBounds_toArray, set_cons_zero, set_cons_succ, i64_w, i32_w]
            rfl
           refine pure_ (i := 17) (N := some 40) (v := undef) (a' := ?_) (mb_ 30 262143) rfl rfl (any_of HT_.out (by kernel_rfl)) (fun _ _ _ h => h) (Or.inr ⟨by rfl, rfl⟩) ?_ ?_
           rotate_left
           ·
            simp only [Act.put, setIfInBounds_toArray, set_cons_zero, set_cons_succ, i64_w, i32_w]
            rfl
           refine pure_ (i := 18) (N := some 41) (v := undef) (a' := ?_) (mb_ 30 524287) rfl rfl (any_of HT_.out (by kernel_rfl)) (fun _ _ _ h => h) (Or.inr ⟨by rfl, rfl⟩) ?_ ?_
           rotate_left
           ·
            simp only [Act.put, setIfInBounds_toArray, set_cons_zero, set_cons_succ, i64_w, i32_w]
            rfl
           refine pure_ (i := 19) (N := some 42) (v := undef) (a' := ?_) (mb_ 30 1048575) rfl rfl (any_of HT_.out (by kernel_rfl)) (fun _ _ _ h => h) (Or.inr ⟨by rfl, rfl⟩) ?_ ?_
           rotate_left
           ·
            simp only [Act.put, setIfInBounds_toArray, set_cons_zero, set_cons_succ, i64_w, i32_w]
            rfl
           refine pure_ (i := 20) (N := some 43) (v := undef) (a' := ?_) (mb_ 30 2097151) rfl rfl (any_of HT_.out (by kernel_rfl)) (fun _ _ _ h => h) (Or.inr ⟨by rfl, rfl⟩) ?_ ?_
           rotate_left
           ·
            simp only [Act.put, setIfInBounds_toArray, set_cons_zero, set_cons_succ, i64_w, i32_w]
            rfl
           refine pure_ (i := 21) (N := some 44) (v := undef) (a' := ?_) (mb_ 30 4194303) rfl rfl (any_of HT_.out (by kernel_rfl)) (fun _ _ _ h => h) (Or.inr ⟨by rfl, rfl⟩) ?_ ?_
           rotate_left
           ·
            simp only [Act.put, setIfInBounds_toArray, set_cons_zero, set_cons_succ, i64_w, i32_w]
            rfl
           refine pure_ (i := 22) (N := some 45) (v := undef) (a' := ?_) (mb_ 30 8388607) rfl rfl (any_of HT_.out (by kernel_rfl)) (fun _ _ _ h => h) (Or.inr ⟨by rfl, rfl⟩) ?_ ?_
           rotate_left
           ·
            simp only [Act.put, setIfInBounds_toArray, set_cons_zero, set_cons_succ, i64_w, i32_w]
            rfl
           refine pure_ (i := 23) (N := some 46) (v := undef) (a' := ?_) (mb_ 30 16777215) rfl rfl (any_of HT_.out (by kernel_rfl)) (fun _ _ _ h => h) (Or.inr ⟨by rfl, rfl⟩) ?_ ?_
           rotate_left
           ·
            simp only [Act.put, setIfInBounds_toArray, set_cons_zero, set_cons_succ, i64_w, i32_w]
            rfl
           refine pure_ (i := 24) (N := some 47) (v := undef) (a' := ?_) (mb_ 30 33554431) rfl rfl (any_of HT_.out (by kernel_rfl)) (fun _ _ _ h => h) (Or.inr ⟨by rfl, rfl⟩) ?_ ?_
           rotate_left
           ·
            simp only [Act.put, setIfInBounds_toArray, set_cons_zero, set_cons_succ, i64_w, i32_w]
            rfl
           refine pure_ (i := 25) (N := some 48) (v := undef) (a' := ?_) (mb_ 30 67108863) rfl rfl (any_of HT_.out (by kernel_rfl)) (fun _ _ _ h => h) (Or.inr ⟨by rfl, rfl⟩) ?_ ?_
           rotate_left
           ·
            simp only [Act.put, setIfInBounds_toArray, set_cons_zero, set_cons_succ, i64_w, i32_w]
            rfl
           refine pure_ (i := 26) (N := some 49) (v := undef) (a' := ?_) (mb_ 30 134217727) rfl rfl (any_of HT_.out (by kernel_rfl)) (fun _ _ _ h => h) (Or.inr ⟨by rfl, rfl⟩) ?_ ?_
           rotate_left
           ·
            simp only [Act.put, setIfInBounds_toArray, set_cons_zero, set_cons_succ, i64_w, i32_w]
            rfl
           refine pure_ (i := 27) (N := some 50) (v := undef) (a' := ?_) (mb_ 30 268435455) rfl rfl (any_of HT_.out (by kernel_rfl)) (fun _ _ _ h => h) (Or.inr ⟨by rfl, rfl⟩) ?_ ?_
           rotate_left
           ·
            simp only [Act.put, setIfInBounds_toArray, set_cons_zero, set_cons_succ, i64_w, i32_w]
            rfl
           refine pure_ (i := 28) (N := some 51) (v := undef) (a' := ?_) (mb_ 30 536870911) rfl rfl (any_of HT_.out (by kernel_rfl)) (fun _ _ _ h => h) (Or.inr ⟨by rfl, rfl⟩) ?_ ?_
           rotate_left
           ·
            simp only [Act.put, setIfInBounds_toArray, set_cons_zero, set_cons_succ, i64_w, i32_w]
            rfl
           refine pu_ 29 52 30 1073741823 ?_
           refine done_ (done_of HT_.out (by kernel_rfl)) ?_
           try go_wp2
           go_meet
           case rel => exact ⟨_, (true), (ry_), H', ⟨by have := HJ1.out; have := HK2.out; first | omega | exact Nat.le_refl _⟩, ⟨pk BK462.out⟩, ⟨by repeat (first | exact HB.out | apply ba_ | apply bN_ | apply b1_ | refine below_set ?_ GE462.out)⟩⟩
         case rest =>
          clear HC14
          try clear c1
          try clear c2
          try clear p2
          try clear c4
          try clear p4
          try clear q4
          try clear hx4
          try clear qi4
          try clear p6
          try clear c9
          try clear c10
          try clear c16
          try clear c17
          try clear c18
          try clear c22
          try clear c22b0
          try clear c24
          try clear c25
          try clear hx467_0
          try clear hx468_0
          try clear p467
          try clear p468
          try clear q467
          try clear q468
          obtain ⟨kq, x52_13, rfl, HA, HJ13, BK462, HB⟩ := hcut
          cases kq with
          | zero => exact absurd HA.out (by simp [impl_IsKeep.j2])
          | succ kj13 =>
           have H := HA.out
           clear HA
           simp only [impl_IsKeep.j2] at H
           by_cases c33 : x52_13 = true
           ·
            subst c33
            have H1 : (some false) = some r := by rw [if_pos rfl] at H; exact H
            clear H
            have H := H1
            clear H1
            obtain rfl := Option.some.inj H
            go_wp2
            go_ret
            exact ⟨rx_, by repeat (first | exact HB.out | apply ba_ | apply bN_ | apply b1_ | refine below_set ?_ GE462.out)⟩
           ·
            replace c33 := Bool.eq_false_iff.mpr c33
            subst c33
            have H1 : (impl_IsKeep.l0 kj13 l0_1 (l0_1.length : Int) (wrap64 (x18_2 + 1)) a0_0 l0_1 a0_2) = some r := by rw [if_neg (show ¬ (false = true) by decide)] at H; exact H
            clear H
            have H := H1
            clear H1
            have H' := ak_ H
            clear H
            go_wp2
            go_roundg kj13
            case measure => have := HJ1.out; have := HK2.out; have := HJ13.out; omega
            case rel => exact ⟨(wrap64 (x18_2 + 1)), (ry_), H', ⟨by have := HJ1.out; have := HK2.out; have := HJ13.out; omega⟩, ⟨pk BK462.out⟩, ⟨by repeat (first | exact HB.out | apply ba_ | apply bN_ | apply b1_ | refine below_set ?_ GE462.out)⟩⟩
        ·
         rw [if_neg c13] at H
         exact absurd H (by simp)
       ·
        rw [if_neg c12] at H
        exact absurd H (by simp)
      ·
       rw [if_neg c11] at H
       have c11b0 : decide (x18_2 < (l0_1.length : Int)) = false := decide_eq_false c11
       clear c11
       obtain rfl := Option.some.inj H
       go_wp2
       go_ret
       exact ⟨rx_, by repeat (first | exact HB.out | apply ba_ | apply bN_ | apply b1_ | refine below_set ?_ GE462.out)⟩
end Go.Proofs.Ythkchdfkeieabaa.QGr
