/- Contracts of functions of the given program, walked: each call returns what its Lean function says. Conditions: those that stand at each theorem. (Written by a program of this session.) -/
import Derived.Test.YthkchdfkeieabaaQGrx0
import Derived.Test.YthkchdfkeieabaaQGrx5
import Derived.Test.YthkchdfkeieabaaQGrx6
import Derived.Test.YthkchdfkeieabaaQGrx7
namespace Go.Proofs.Ythkchdfkeieabaa.QGr
open Go.RowKit Go.Proofs.YthkchdfkeieabaaW.PrintWords Go.Proofs.YthkchdfkeieabaaW.PrintLast Go.Proofs.YthkchdfkeieabaaW.PrintMore
open List (setIfInBounds_toArray set_cons_zero set_cons_succ map_toArray map_cons map_nil)
attribute [local go_sem] max2_int min2_int max_two min_two max_three min_three max_four min_four
set_option linter.unusedVariables false
set_option maxHeartbeats 8000000
set_option maxRecDepth 100000
set_option linter.unusedSimpArgs false
mutual
def spec_loRides.l0 : Nat → List Int → List Bool → Int → Int → List Int → List Bool → Int → List Bool → Bool → Option ((List (List Int)))
 | 0, _, _, _, _, _, _, _, _, _ => none
 | k + 1, x5, x12, x13, x14, x229000, x229001, x229002, x230000, x230001 => if x14 < x13 then (if 0 ≤ x14 then (if x14 < (x12.length : Int) then (if ((rdOf false x12 x14) == x230001) = true then (if x5.length < 17592186044416 then (spec_loRides.l0 k (x5 ++ [x14]) x12 x13 (wrap64 (x14 + 1)) x229000 x229001 x229002 x230000 x230001) else (none)) else (spec_loRides.l0 k x5 x12 x13 (wrap64 (x14 + 1)) x229000 x229001 x229002 x230000 x230001)) else (none)) else (none)) else ((spec_paGroups.f k x5 ([] : List Int) 0 (x5.length : Int)).bind fun t234 => (spec_loRides.l1 k ([] : List (List Int)) t234 (t234.length : Int) 0 x229000 x229001 x229002 x230000 x230001))
def spec_loRides.l1 : Nat → List (List Int) → List (List Int) → Int → Int → List Int → List Bool → Int → List Bool → Bool → Option ((List (List Int)))
 | 0, _, _, _, _, _, _, _, _, _ => none
 | k + 1, x8, x31, x32, x33, x229000, x229001, x229002, x230000, x230001 => if x33 < x32 then (if 0 ≤ x33 then (if x33 < (x31.length : Int) then ((spec_loCan.f k x229000 x229001 x229002 x230000 x230001 (rd_L2 x31 x33)).bind fun t238 => (if t238 = true then (if x8.length < 5864062014805 then (spec_loRides.l1 k (x8 ++ [rd_L2 x31 x33]) x31 x32 (wrap64 (x33 + 1)) x229000 x229001 x229002 x230000 x230001) else (none)) else (spec_loRides.l1 k x8 x31 x32 (wrap64 (x33 + 1)) x229000 x229001 x229002 x230000 x230001))) else (none)) else (none)) else (some x8)
end
def spec_loRides.f (k : Nat) (l0_0 : List Int) (l0_1 : List Bool) (a0_2 : Int) (l1_0 : List Bool) (a1_1 : Bool) : Option ((List (List Int))) := spec_loRides.l0 k ([] : List Int) l1_0 (l1_0.length : Int) 0 l0_0 l0_1 a0_2 l1_0 a1_1
theorem spec_loRides.mono_l : ∀ k, (∀ y0 y1 y2 y3 y4 y5 y6 y7 y8, LeO (spec_loRides.l0 k y0 y1 y2 y3 y4 y5 y6 y7 y8) (spec_loRides.l0 (k + 1) y0 y1 y2 y3 y4 y5 y6 y7 y8)) ∧ (∀ y0 y1 y2 y3 y4 y5 y6 y7 y8, LeO (spec_loRides.l1 k y0 y1 y2 y3 y4 y5 y6 y7 y8) (spec_loRides.l1 (k + 1) y0 y1 y2 y3 y4 y5 y6 y7 y8))
 | 0 => ⟨fun _ _ _ _ _ _ _ _ _ r h => by simp [spec_loRides.l0] at h, fun _ _ _ _ _ _ _ _ _ r h => by simp [spec_loRides.l1] at h⟩
 | k + 1 => by
  obtain ⟨ih0, ih1⟩ := spec_loRides.mono_l k
  refine ⟨?_, ?_⟩
  ·intro y0 y1 y2 y3 y4 y5 y6 y7 y8
   unfold spec_loRides.l0
   repeat' first
   | (with_reducible first | exact ih0 _ _ _ _ _ _ _ _ _ | exact ih1 _ _ _ _ _ _ _ _ _ | exact spec_loCan.mono _ _ _ _ _ _ _ | exact spec_paGroups.mono _ _ _ _ _ | exact LeO.refl _ | exact LeO.none _ | refine LeO.ite ?_ ?_ | refine LeO.bind ?_ (fun _ => ?_))
   | exact ih0 _ _ _ _ _ _ _ _ _
   | exact ih1 _ _ _ _ _ _ _ _ _
   | exact spec_loCan.mono _ _ _ _ _ _ _
   | exact spec_paGroups.mono _ _ _ _ _
   | exact LeO.none _
   | refine LeO.ite ?_ ?_
   | refine LeO.bind ?_ (fun _ => ?_)
  ·intro y0 y1 y2 y3 y4 y5 y6 y7 y8
   unfold spec_loRides.l1
   repeat' first
   | (with_reducible first | exact ih0 _ _ _ _ _ _ _ _ _ | exact ih1 _ _ _ _ _ _ _ _ _ | exact spec_loCan.mono _ _ _ _ _ _ _ | exact spec_paGroups.mono _ _ _ _ _ | exact LeO.refl _ | exact LeO.none _ | refine LeO.ite ?_ ?_ | refine LeO.bind ?_ (fun _ => ?_))
   | exact ih0 _ _ _ _ _ _ _ _ _
   | exact ih1 _ _ _ _ _ _ _ _ _
   | exact spec_loCan.mono _ _ _ _ _ _ _
   | exact spec_paGroups.mono _ _ _ _ _
   | exact LeO.none _
   | refine LeO.ite ?_ ?_
   | refine LeO.bind ?_ (fun _ => ?_)
theorem spec_loRides.mono : ∀ a0 a1 a2 a3 a4 k, LeO (spec_loRides.f k a0 a1 a2 a3 a4) (spec_loRides.f (k + 1) a0 a1 a2 a3 a4) := by
 intro a0 a1 a2 a3 a4 k
 obtain ⟨ih0, ih1⟩ := spec_loRides.mono_l k
 unfold spec_loRides.f
 repeat' first
  | (with_reducible first | exact ih0 _ _ _ _ _ _ _ _ _ | exact ih1 _ _ _ _ _ _ _ _ _ | exact spec_loCan.mono _ _ _ _ _ _ _ | exact spec_paGroups.mono _ _ _ _ _ | exact LeO.refl _ | exact LeO.none _ | refine LeO.ite ?_ ?_ | refine LeO.bind ?_ (fun _ => ?_))
  | exact ih0 _ _ _ _ _ _ _ _ _
  | exact ih1 _ _ _ _ _ _ _ _ _
  | exact spec_loCan.mono _ _ _ _ _ _ _
  | exact spec_paGroups.mono _ _ _ _ _
  | exact LeO.none _
  | refine LeO.ite ?_ ?_
  | refine LeO.bind ?_ (fun _ => ?_)
theorem spec_loRides.calls (k : Nat) (A0_0 : Option Addr) (c0_0 : Nat) (l0_0 : List Int) (A0_1 : Option Addr) (c0_1 : Nat) (l0_1 : List Bool) (a0_2 : Int) (A1_0 : Option Addr) (c1_0 : Nat) (l1_0 : List Bool) (a1_1 : Bool) (r : List (List Int)) (w : World) (hr0_0 : Kd.C (Kd.int .i64) w A0_0 l0_0.length l0_0) (hc0_0 : l0_0.length ≤ c0_0) (hr0_1 : Kd.C Kd.bool w A0_1 l0_1.length l0_1) (hc0_1 : l0_1.length ≤ c0_1) (hr1_0 : Kd.C Kd.bool w A1_0 l1_0.length l1_0) (hc1_0 : l1_0.length ≤ c1_0) (h : spec_loRides.f k l0_0 l0_1 a0_2 l1_0 a1_1 = some r) :
  Calls Try.prog 100 #[.agg #[.slice A0_0 l0_0.length c0_0, .slice A0_1 l0_1.length c0_1, .int .i64 a0_2], .agg #[.slice A1_0 l1_0.length c1_0, .bool a1_1]] w fun e w' => ∃ v0_ : Value, e = .returned (v0_) ∧ Kd.N (Kd.slice 3 (Kd.int .i64)) 29 w' w.heap.size (fun k_ => (w.heap.size ≤ k_)) v0_ r ∧ Below w.heap.size w w' := by
 have hu43 := Try.underlying43
 have hu115 := Try.underlying115
 have HR0_0 := ak_ hr0_0
 have HC0_0 := ak_ hc0_0
 clear hr0_0 hc0_0
 have HR0_1 := ak_ hr0_1
 have HC0_1 := ak_ hc0_1
 clear hr0_1 hc0_1
 have HR1_0 := ak_ hr1_0
 have HC1_0 := ak_ hc1_0
 clear hr1_0 hc1_0
 have HB := ak_ (Below.refl w.heap.size w)
 have H : (spec_loRides.l0 k ([] : List Int) l1_0 (l1_0.length : Int) 0 l0_0 l0_1 a0_2 l1_0 a1_1) = some r := h
 clear h
 have H' := ak_ H
 clear H
 go_enter Try.func100, Try.ntmps100
 go_wp2_with (first | ((with_reducible refine gate_dst (N := 2) rfl ?_); refine bx_ 2 #[.slice A0_0 l0_0.length c0_0, .slice A0_1 l0_1.length c0_1, .int .i64 a0_2] 43 ?_; intro gb228 hg w3 hbox hb; have n0_ := ak_ (bs_ (bb_ HB.out) hb); have n1_ := ak_ (hbox); have n2_ := ak_ ((by rw [hg]; exact (bz_ (bb_ HB.out)) : w.heap.size ≤ gb228)); have n3_ := n2_; clear HB; have HB := n0_; have BK228 := n1_; have GW228 := n2_; have GE228 := n3_; clear n0_ n1_ n2_ n3_; clear hb hbox hg) | ((with_reducible refine gate_dst (N := 3) rfl ?_); refine bx_ 3 #[.slice A1_0 l1_0.length c1_0, .bool a1_1] 115 ?_; intro gb229 hg w4 hbox hb; have n0_ := ak_ (blk_below (pk BK228.out) hb); have n1_ := ak_ (bs_ bl_ hb); have n2_ := ak_ (hbox); have n3_ := ak_ ((by rw [hg]; exact (bz_ bl_) : w.heap.size ≤ gb229)); have n4_ := n3_; have n5_ := ak_ ((by rw [hg]; exact Nat.ne_of_lt (blk_lt (pk BK228.out)) : gb228 ≠ gb229)); have n6_ := ak_ n5_.out.symm; clear BK228; clear HB; have BK228 := n0_; have HB := n1_; have BK229 := n2_; have GW229 := n3_; have GE229 := n4_; have NB228_229 := n5_; have NB229_228 := n6_; clear n0_ n1_ n2_ n3_ n4_ n5_ n6_; clear hb hbox hg; have hnb5 := NB229_228.out; have hnc5 := NB228_229.out; have hcz6_0 : w4.cell? ⟨gb229, 0, none⟩ = some (.slice A1_0 l1_0.length c1_0) := (blk_cell BK229.out 0).trans rfl; have hcz6_1 : w4.cell? ⟨gb229, 1, none⟩ = some (.bool a1_1) := (blk_cell BK229.out 1).trans rfl; have hfz6_0 := blk_frozen BK229.out 0; have hfz6_1 := blk_frozen BK229.out 1))
 go_loopg [5, 14] k (fun kq v5 v14 w' => ∃ (x5_1 : List Int) (x14_1 : Int), v14 = .int .i64 x14_1 ∧ Aside0 (spec_loRides.l0 kq x5_1 l1_0 (l1_0.length : Int) x14_1 l0_0 l0_1 a0_2 l1_0 a1_1 = some r) ∧ Aside0 (kq ≤ k) ∧ Aside0 (Kd.R (Kd.int .i64) 3 w' w.heap.size (fun k_ => (w.heap.size ≤ k_)) v5 x5_1) ∧ Aside0 (w'.heap[gb228]? = some (.cells #[(.slice A0_0 l0_0.length c0_0), (.slice A0_1 l0_1.length c0_1), .int .i64 a0_2] 43 (0, 0))) ∧ Aside0 (w'.heap[gb229]? = some (.cells #[(.slice A1_0 l1_0.length c1_0), .bool a1_1] 115 (0, 0))) ∧ Aside0 (Below w.heap.size w w'))
 case atStart => exact ⟨(([] : List Int)), (0), (ry_), H', ⟨Nat.le_refl _⟩, ⟨by first | exact Kd.R_nil _ _ _ _ _ | exact Kd.N_nil _ _ _ _ _ | exact Kd.V_nil _ _ _ _ _ | exact Kd.Q_nil _ _ _ _ _ | exact Kd.S_nil _ _ _ _ _⟩, ⟨pk BK228.out⟩, ⟨pk BK229.out⟩, ⟨by repeat (first | exact HB.out | apply ba_ | apply bN_ | apply b1_ | refine below_set ?_ (Aside0.out (by assumption)))⟩⟩
 case round =>
  clear H'
  try clear c1
  try clear p2
  try clear c5
  try clear hcz6_0
  try clear hcz6_1
  try clear hfz6_0
  try clear hfz6_1
  obtain ⟨x5_1, x14_1, rfl, HA, HK1, HO_5, BK228, BK229, HB⟩ := hrel
  cases gk with
  | zero => exact absurd HA.out (by simp [spec_loRides.l0])
  | succ k1 =>
   have H := HA.out
   clear HA
   simp only [spec_loRides.l0] at H
   by_cases c7 : x14_1 < (l1_0.length : Int)
   ·
    rw [if_pos c7] at H
    have c7b0 : decide (x14_1 < (l1_0.length : Int)) = true := decide_eq_true c7
    clear c7
    by_cases c8 : 0 ≤ x14_1
    ·
     rw [if_pos c8] at H
     have c8b0 : decide (0 ≤ x14_1) = true := decide_eq_true c8
     clear c8
     by_cases c9 : x14_1 < (l1_0.length : Int)
     ·
      rw [if_pos c9] at H
      have c9b0 : decide (x14_1 < (l1_0.length : Int)) = true := decide_eq_true c9
      clear c9
      by_cases c10 : ((rdOf false l1_0 x14_1) == a1_1) = true
      ·
       rw [if_pos c10] at H
       have c10b0 : ((rdOf false l1_0 x14_1) == a1_1) = true := c10
       (try (have c10b1 : decide ((rdOf false l1_0 x14_1) = a1_1) = true := by simpa using c10))
       (try (have c10b2 : ((rdOf false l1_0 x14_1) == a1_1) = true := by simpa using c10))
       clear c10
       by_cases c11 : x5_1.length < 17592186044416
       ·
        rw [if_pos c11] at H
        have LMc11 := ak_ c11
        clear c11
        obtain ⟨y231, hy231⟩ : ∃ y_ : List Int, y_ = (x5_1 ++ [x14_1]) := ⟨_, rfl⟩
        replace H : (spec_loRides.l0 k1 y231 l1_0 (l1_0.length : Int) (wrap64 (x14_1 + 1)) l0_0 l0_1 a0_2 l1_0 a1_1) = some r := by first | (rw [hy231]; exact H) | exact H
        have Ny231 := ak_ hy231
        clear hy231
        have H' := ak_ H
        clear H
        have p230 : 0 ≤ (x14_1 : Int) := odt_ (by assumption)
        have q230 : x14_1 < (l1_0.length : Int) := odt_ (by assumption)
        obtain ⟨ad230, e230, hx230_0⟩ := Kd.at_bool HR1_0.out x14_1 p230 q230
        cases e230
        try replace hx230_0 := (HB.out.cell (World.block_lt_of_cell? w _ hx230_0)).trans hx230_0
        replace p230 := eq_true p230
        replace q230 := eq_true q230
        have hnb12 := NB229_228.out
        have hnc12 := NB228_229.out
        have hcz13_0 : wr.cell? ⟨gb229, 0, none⟩ = some (.slice (some ad230) l1_0.length c1_0) := (blk_cell BK229.out 0).trans rfl
        have hcz13_1 : wr.cell? ⟨gb229, 1, none⟩ = some (.bool a1_1) := (blk_cell BK229.out 1).trans rfl
        have hfz13_0 := blk_frozen BK229.out 0
        have hfz13_1 := blk_frozen BK229.out 1
        go_wp2_with (first | ((with_reducible refine gate_builtin (b := .append) (xs := #[.tmp 23, .tmp 25]) rfl ?_); at_builtin; refine Kd.R_append (Kd.int .i64) (w0 := w) w.heap.size rfl (.tmp 23) (.tmp 25) 29 3 (.int .i64 0) 8 rfl Try.underlying29 info3 rfl (by decide) (by omega) u5 x5_1 x14_1 [.int .i64 x14_1] (fun k_ => (w.heap.size ≤ k_)) (fun _ => False) rfl rfl ?aP (fun _ hk => hk.elim) ?aF ?aO ?aB ?aS ?aL ?_; (case aP => exact rfl); (case aB => exact bl_); (case aF => exact (fun k_ hk => (Nat.le_trans (bz_ bl_) hk))); (case aO => exact (Kd.pR HO_5.out)); (case aS => exact (bz_ bl_)); (case aL => have := LMc11.out; omega); intro v232 w14 ho hb hg hat; rw [← Ny231.out] at ho; have n0_ := ak_ (blk_grown (pk BK228.out) hg (Kd.R_ne HO_5.out BK228.out (by decide))); have n1_ := ak_ (blk_grown (pk BK229.out) hg (Kd.R_ne HO_5.out BK229.out (by decide))); have n2_ := ak_ (hb); have n3_ := ak_ (ho); clear BK228; clear BK229; clear HB; clear HO_5; have BK228 := n0_; have BK229 := n1_; have HB := n2_; have HO233 := n3_; clear n0_ n1_ n2_ n3_; clear ho hb hg hat))
        go_roundg k1
        case measure => have := HK1.out; omega
        case rel => exact ⟨(y231), (wrap64 (x14_1 + 1)), (ry_), H', ⟨by have := HK1.out; omega⟩, ⟨Kd.pR HO233.out⟩, ⟨pk BK228.out⟩, ⟨pk BK229.out⟩, ⟨by repeat (first | exact HB.out | apply ba_ | apply bN_ | apply b1_ | refine below_set ?_ (Aside0.out (by assumption)))⟩⟩
       ·
        rw [if_neg c11] at H
        exact absurd H (by simp)
      ·
       rw [if_neg c10] at H
       have c10b0 : ((rdOf false l1_0 x14_1) == a1_1) = false := by simpa using c10
       (try (have c10b1 : decide ((rdOf false l1_0 x14_1) = a1_1) = false := by simpa using c10))
       (try (have c10b2 : ((rdOf false l1_0 x14_1) == a1_1) = false := by simpa using c10))
       (try (have c10b3 : ¬ ((rdOf false l1_0 x14_1) = a1_1) := by simpa using c10))
       clear c10
       have H' := ak_ H
       clear H
       have p230 : 0 ≤ (x14_1 : Int) := odt_ (by assumption)
       have q230 : x14_1 < (l1_0.length : Int) := odt_ (by assumption)
       obtain ⟨ad230, e230, hx230_0⟩ := Kd.at_bool HR1_0.out x14_1 p230 q230
       cases e230
       try replace hx230_0 := (HB.out.cell (World.block_lt_of_cell? w _ hx230_0)).trans hx230_0
       replace p230 := eq_true p230
       replace q230 := eq_true q230
       have hnb15 := NB229_228.out
       have hnc15 := NB228_229.out
       have hcz16_0 : wr.cell? ⟨gb229, 0, none⟩ = some (.slice (some ad230) l1_0.length c1_0) := (blk_cell BK229.out 0).trans rfl
       have hcz16_1 : wr.cell? ⟨gb229, 1, none⟩ = some (.bool a1_1) := (blk_cell BK229.out 1).trans rfl
       have hfz16_0 := blk_frozen BK229.out 0
       have hfz16_1 := blk_frozen BK229.out 1
       go_wp2
       go_roundg k1
       case measure => have := HK1.out; omega
       case rel => exact ⟨(x5_1), (wrap64 (x14_1 + 1)), (ry_), H', ⟨by have := HK1.out; omega⟩, ⟨Kd.pR HO_5.out⟩, ⟨pk BK228.out⟩, ⟨pk BK229.out⟩, ⟨by repeat (first | exact HB.out | apply ba_ | apply bN_ | apply b1_ | refine below_set ?_ (Aside0.out (by assumption)))⟩⟩
     ·
      rw [if_neg c9] at H
      exact absurd H (by simp)
    ·
     rw [if_neg c8] at H
     exact absurd H (by simp)
   ·
    rw [if_neg c7] at H
    have c7b0 : decide (x14_1 < (l1_0.length : Int)) = false := decide_eq_false c7
    clear c7
    replace H := Option.bind_eq_some_iff.mp H
    obtain ⟨t234, A170, H⟩ := H
    replace H : (spec_loRides.l1 k1 ([] : List (List Int)) t234 (t234.length : Int) 0 l0_0 l0_1 a0_2 l1_0 a1_1) = some r := H
    have A17 := ak_ A170
    clear A170
    have H' := ak_ H
    clear H
    obtain ⟨Ao18, co18, eo18⟩ := Kd.R_slice HO_5.out
    subst eo18
    go_wp2_with (first | ((with_reducible refine gate_callee (f := 109) rfl ?_); refine goesL_ (some 31) rfl rfl Try.func109 (by kernel_rfl) rfl #[.slice Ao18 x5_1.length co18, .slice none 0 0, .int .i64 0, .int .i64 (x5_1.length : Int)] rfl (by first | rfl | (simp only [map_toArray, map_cons, map_nil]; try rfl)) ?_; (refine (spec_paGroups.calls k1 _ _ x5_1 _ _ ([] : List Int) 0 (x5_1.length : Int) t234 _ ?side1 ?side2 ?side3 ?side4 A17.out).mono ?_); (case side1 => repeat (first | exact (Kd.R_reads' HO_5.out).2.2 | (with_reducible refine Kd.C_alloc ?_ _) | (with_reducible refine Kd.C_drewN ?_ _) | (with_reducible refine Kd.C_drew ?_))); (case side2 => exact (Kd.R_reads' HO_5.out).2.1); (case side3 => exact Kd.C_nil _ _); (case side4 => exact Nat.le_refl _); rintro e w19 ⟨v235, rfl, ho0, hb⟩; refine ⟨_, rfl, ?_⟩; have n0_ := ak_ (Kd.R_below (Kd.pR HO_5.out) hb); have n1_ := ak_ (Kd.N_lower (Kd.N_mono (ok' := fun k_ => (w.heap.size ≤ k_) ∧ some k_ ≠ (.slice Ao18 x5_1.length co18 : Value).ownBlock ∧ k_ ≠ gb228 ∧ k_ ≠ gb229) ho0 (fun k_ hk_ => ⟨(Nat.le_trans (bz_ bl_) hk_), (Kd.fresh' (Kd.R_lt (Kd.pR HO_5.out)) k_ hk_), (Kd.freshB (pk BK228.out) k_ hk_), (Kd.freshB (pk BK229.out) k_ hk_)⟩)) (bz_ bl_)); have n2_ := ak_ (blk_below (pk BK228.out) hb); have n3_ := ak_ (blk_below (pk BK229.out) hb); have n4_ := ak_ (bs_ bl_ hb); clear HO_5; clear BK228; clear BK229; clear HB; have HO_5 := n0_; have HO236 := n1_; have BK228 := n2_; have BK229 := n3_; have HB := n4_; clear n0_ n1_ n2_ n3_ n4_; (try clear hb); (try clear hb2); (try clear hk); (try clear hi); (try clear ho0); obtain ⟨Ao20, co20, eo20⟩ := Kd.N_slice HO236.out; subst eo20))
    go_loopg [8, 33] k1 (fun kq v8 v33 w' => ∃ (x8_2 : List (List Int)) (x33_2 : Int), v33 = .int .i64 x33_2 ∧ Aside0 (spec_loRides.l1 kq x8_2 t234 (t234.length : Int) x33_2 l0_0 l0_1 a0_2 l1_0 a1_1 = some r) ∧ Aside0 (kq ≤ k1) ∧ Aside0 (Kd.N (Kd.slice 3 (Kd.int .i64)) 29 w' w.heap.size (fun k_ => (w.heap.size ≤ k_) ∧ some k_ ≠ ((.slice Ao20 t234.length co20) : Value).ownBlock ∧ k_ ≠ gb228 ∧ k_ ≠ gb229) v8 x8_2) ∧ Aside0 (Kd.N (Kd.slice 3 (Kd.int .i64)) 29 w' w.heap.size (fun k_ => (w.heap.size ≤ k_) ∧ some k_ ≠ (v8 : Value).ownBlock ∧ k_ ≠ gb228 ∧ k_ ≠ gb229) (.slice Ao20 t234.length co20) t234) ∧ Aside0 (w'.heap[gb228]? = some (.cells #[(.slice A0_0 l0_0.length c0_0), (.slice A0_1 l0_1.length c0_1), .int .i64 a0_2] 43 (0, 0))) ∧ Aside0 (w'.heap[gb229]? = some (.cells #[(.slice A1_0 l1_0.length c1_0), .bool a1_1] 115 (0, 0))) ∧ Aside0 (Below w.heap.size w w'))
    case atStart => exact ⟨(([] : List (List Int))), (0), (ry_), H', ⟨Nat.le_refl _⟩, ⟨by first | exact Kd.S_nil _ _ _ _ _ | exact Kd.N_nil _ _ _ _ _ | exact Kd.V_nil _ _ _ _ _ | exact Kd.Q_nil _ _ _ _ _ | exact Kd.R_nil _ _ _ _ _⟩, ⟨by (with_reducible repeat (first | apply Kd.N_alloc | apply Kd.N_drewN | apply Kd.N_drew)); exact Kd.N_mono HO236.out (fun _ hk => ⟨hk.1, ⟨(by simp [Value.ownBlock]), ⟨hk.2.2.1, hk.2.2.2⟩⟩⟩)⟩, ⟨pk BK228.out⟩, ⟨pk BK229.out⟩, ⟨by repeat (first | exact HB.out | apply ba_ | apply bN_ | apply b1_ | refine below_set ?_ (Aside0.out (by assumption)))⟩⟩
    case round =>
     clear H'
     try clear c1
     try clear p2
     try clear q2
     try clear hx2
     try clear c5
     try clear p6
     try clear c7
     try clear c7b0
     try clear c8
     try clear c8b0
     try clear c9
     try clear c9b0
     try clear c10
     try clear c10b0
     try clear c10b1
     try clear c10b2
     try clear c11
     try clear c12
     try clear c15
     try clear hcz13_0
     try clear hcz13_1
     try clear hcz16_0
     try clear hcz16_1
     try clear hcz6_0
     try clear hcz6_1
     try clear hfz13_0
     try clear hfz13_1
     try clear hfz16_0
     try clear hfz16_1
     try clear hfz6_0
     try clear hfz6_1
     try clear hx230_0
     try clear p2
     try clear p230
     try clear q230
     obtain ⟨x8_2, x33_2, rfl, HA, HK2, HO_8, HO_31, BK228, BK229, HB⟩ := hrel
     cases gk with
     | zero => exact absurd HA.out (by simp [spec_loRides.l1])
     | succ k2 =>
      have H := HA.out
      clear HA
      simp only [spec_loRides.l1] at H
      by_cases c21 : x33_2 < (t234.length : Int)
      ·
       rw [if_pos c21] at H
       have c21b0 : decide (x33_2 < (t234.length : Int)) = true := decide_eq_true c21
       clear c21
       by_cases c22 : 0 ≤ x33_2
       ·
        rw [if_pos c22] at H
        have c22b0 : decide (0 ≤ x33_2) = true := decide_eq_true c22
        clear c22
        by_cases c23 : x33_2 < (t234.length : Int)
        ·
         rw [if_pos c23] at H
         have c23b0 : decide (x33_2 < (t234.length : Int)) = true := decide_eq_true c23
         clear c23
         replace H := Option.bind_eq_some_iff.mp H
         obtain ⟨t238, A240, H⟩ := H
         replace H : (if t238 = true then (if x8_2.length < 5864062014805 then (spec_loRides.l1 k2 (x8_2 ++ [rd_L2 t234 x33_2]) t234 (t234.length : Int) (wrap64 (x33_2 + 1)) l0_0 l0_1 a0_2 l1_0 a1_1) else (none)) else (spec_loRides.l1 k2 x8_2 t234 (t234.length : Int) (wrap64 (x33_2 + 1)) l0_0 l0_1 a0_2 l1_0 a1_1)) = some r := H
         have A24 := ak_ A240
         clear A240
         by_cases c25 : t238 = true
         ·
          subst c25
          have H1 : (if x8_2.length < 5864062014805 then (spec_loRides.l1 k2 (x8_2 ++ [rd_L2 t234 x33_2]) t234 (t234.length : Int) (wrap64 (x33_2 + 1)) l0_0 l0_1 a0_2 l1_0 a1_1) else (none)) = some r := by rw [if_pos rfl] at H; exact H
          clear H
          have H := H1
          clear H1
          by_cases c26 : x8_2.length < 5864062014805
          ·
           rw [if_pos c26] at H
           have LMc26 := ak_ c26
           clear c26
           obtain ⟨y239, hy239⟩ : ∃ y_ : List (List Int), y_ = (x8_2 ++ [rd_L2 t234 x33_2]) := ⟨_, rfl⟩
           replace H : (spec_loRides.l1 k2 y239 t234 (t234.length : Int) (wrap64 (x33_2 + 1)) l0_0 l0_1 a0_2 l1_0 a1_1) = some r := by first | (rw [hy239]; exact H) | exact H
           have Ny239 := ak_ hy239
           clear hy239
           have H' := ak_ H
           clear H
           have p237 : 0 ≤ (x33_2 : Int) := odt_ (by assumption)
           have q237 : x33_2 < (t234.length : Int) := odt_ (by assumption)
           obtain ⟨ad237, A237_0, c237_0, e237, hx237_0, hl237_0, hi237_0⟩ := at_L2 (Kd.N_reads' HO_31.out).2.2 x33_2 p237 q237
           cases e237
           obtain ⟨ce237, hce237, hMe237, hcc237⟩ := Kd.N_get HO_31.out [] x33_2 p237 (by first | exact q237 | exact odt_ (by assumption) | (have e_ := (Kd.N_reads' HO_31.out).1; omega))
           obtain ⟨ua237_0, uc237_0, rfl, ul237_0, ge237_0⟩ := Kd.FK_slice_open hMe237
           have hv237_0 := hcc237 0 _ rfl
           rw [Nat.add_zero, show ((Kd.slice 3 (Kd.int .i64))).sz = 1 from rfl, Nat.mul_one] at hv237_0
           replace hv237_0 := Option.some.inj (hv237_0.symm.trans hx237_0)
           injection hv237_0 with hva_ hvn_ hvc_
           rw [hva_] at ge237_0
           rw [hvc_] at ul237_0
           have HL237_0 := ak_ (show Kd.V (Kd.int .i64) 3 _ w.heap.size _ _ (rd_L2 t234 x33_2) from Kd.V_mk ul237_0 ge237_0)
           clear hva_ hvn_ hvc_ ge237_0 ul237_0 hcc237 hce237
           have HR237_0 := ak_ hi237_0
           have HC237_0 := ak_ hl237_0
           clear hi237_0 hl237_0
           replace p237 := eq_true p237
           replace q237 := eq_true q237
           have hnb27 := NB228_229.out
           have hnc27 := NB229_228.out
           have hcz28_0 : wr.cell? ⟨gb228, 0, none⟩ = some (.slice A0_0 l0_0.length c0_0) := (blk_cell BK228.out 0).trans rfl
           have hcz28_1 : wr.cell? ⟨gb228, 1, none⟩ = some (.slice A0_1 l0_1.length c0_1) := (blk_cell BK228.out 1).trans rfl
           have hcz28_2 : wr.cell? ⟨gb228, 2, none⟩ = some (.int .i64 a0_2) := (blk_cell BK228.out 2).trans rfl
           have hfz28_0 := blk_frozen BK228.out 0
           have hfz28_1 := blk_frozen BK228.out 1
           have hfz28_2 := blk_frozen BK228.out 2
           have hcz29_0 : wr.cell? ⟨gb229, 0, none⟩ = some (.slice A1_0 l1_0.length c1_0) := (blk_cell BK229.out 0).trans rfl
           have hcz29_1 : wr.cell? ⟨gb229, 1, none⟩ = some (.bool a1_1) := (blk_cell BK229.out 1).trans rfl
           have hfz29_0 := blk_frozen BK229.out 0
           have hfz29_1 := blk_frozen BK229.out 1
           go_wp2_with (first | ((with_reducible refine gate_callee (f := 136) rfl ?_); refine goesL_ (some 40) rfl rfl Try.func136 (by kernel_rfl) rfl #[.agg #[.slice A0_0 l0_0.length c0_0, .slice A0_1 l0_1.length c0_1, .int .i64 a0_2], .agg #[.slice A1_0 l1_0.length c1_0, .bool a1_1], .slice A237_0 (rd_L2 t234 x33_2).length c237_0] rfl (by first | rfl | (simp only [map_toArray, map_cons, map_nil]; try rfl)) ?_; (with_reducible refine (spec_loCan.calls k2 _ _ l0_0 _ _ l0_1 a0_2 _ _ l1_0 a1_1 _ _ (rd_L2 t234 x33_2) true _ ?side1 ?side2 ?side3 ?side4 ?side5 ?side6 ?side7 ?side8 A24.out).mono ?_); (case side1 => repeat (first | exact (Kd.C_below HR0_0.out HB.out) | (with_reducible refine Kd.C_alloc ?_ _) | (with_reducible refine Kd.C_drewN ?_ _) | (with_reducible refine Kd.C_drew ?_))); (case side2 => exact HC0_0.out); (case side3 => repeat (first | exact (Kd.C_below HR0_1.out HB.out) | (with_reducible refine Kd.C_alloc ?_ _) | (with_reducible refine Kd.C_drewN ?_ _) | (with_reducible refine Kd.C_drew ?_))); (case side4 => exact HC0_1.out); (case side5 => repeat (first | exact (Kd.C_below HR1_0.out HB.out) | (with_reducible refine Kd.C_alloc ?_ _) | (with_reducible refine Kd.C_drewN ?_ _) | (with_reducible refine Kd.C_drew ?_))); (case side6 => exact HC1_0.out); (case side7 => repeat (first | exact (by repeat (first | (with_reducible exact HR237_0.out) | (with_reducible refine Kd.C_alloc ?_ _) | (with_reducible refine Kd.C_drewN ?_ _) | (with_reducible refine Kd.C_drew ?_) | exact HR237_0.out)) | (with_reducible refine Kd.C_alloc ?_ _) | (with_reducible refine Kd.C_drewN ?_ _) | (with_reducible refine Kd.C_drew ?_))); (case side8 => exact HC237_0.out); rintro e w30 ⟨rfl, hb⟩; refine ⟨_, rfl, ?_⟩; have n0_ := ak_ (Kd.N_below (Kd.pN HO_8.out) hb); have n1_ := ak_ (Kd.N_below (Kd.pN HO_31.out) hb); have n2_ := ak_ (Kd.V_below (Kd.pV HL237_0.out) hb); have n3_ := ak_ (blk_below (pk BK228.out) hb); have n4_ := ak_ (blk_below (pk BK229.out) hb); have n5_ := ak_ (Kd.C_below (by repeat (first | (with_reducible exact HR237_0.out) | (with_reducible refine Kd.C_alloc ?_ _) | (with_reducible refine Kd.C_drewN ?_ _) | (with_reducible refine Kd.C_drew ?_) | exact HR237_0.out)) hb); have n6_ := ak_ (bs_ bl_ hb); clear HO_8; clear HO_31; clear HL237_0; clear BK228; clear BK229; clear HR237_0; clear HB; have HO_8 := n0_; have HO_31 := n1_; have HL237_0 := n2_; have BK228 := n3_; have BK229 := n4_; have HR237_0 := n5_; have HB := n6_; clear n0_ n1_ n2_ n3_ n4_ n5_ n6_; (try clear hb); (try clear hb2); (try clear hk); (try clear hi)) | ((with_reducible refine gate_builtin (b := .append) (xs := #[.tmp 41, .tmp 43]) rfl ?_); at_builtin; refine Kd.N_append (Kd.slice 3 (Kd.int .i64)) (w0 := w) w.heap.size rfl (.tmp 41) (.tmp 43) 47 29 (.slice none 0 0) 24 rfl Try.underlying47 info29 rfl (by decide) (by omega) u8 x8_2 (rd_L2 t234 x33_2) [.slice A237_0 (rd_L2 t234 x33_2).length c237_0] (fun k_ => (w.heap.size ≤ k_) ∧ some k_ ≠ (.slice (some ad237) t234.length co20 : Value).ownBlock ∧ k_ ≠ gb228 ∧ k_ ≠ gb229) (fun k_ => ((fun k_ => (w.heap.size ≤ k_) ∧ some k_ ≠ (.slice (some ad237) t234.length co20 : Value).ownBlock ∧ k_ ≠ gb228 ∧ k_ ≠ gb229)) k_ ∧ some k_ ≠ (u8 : Value).ownBlock) rfl rfl ?aP (fun _ hk => hk) ?aF ?aO ?aB ?aS ?aL ?_; (case aP => exact (Kd.FK_slice_mk (Kd.V_reads' (Kd.V_mono (ok' := (fun k_ => ((fun k_ => (w.heap.size ≤ k_) ∧ some k_ ≠ (.slice (some ad237) t234.length co20 : Value).ownBlock ∧ k_ ≠ gb228 ∧ k_ ≠ gb229)) k_ ∧ some k_ ≠ (u8 : Value).ownBlock)) (HL237_0.out) (fun k_ hk => ⟨⟨hk.1.1, ⟨hk.2, ⟨hk.1.2.2.1, hk.1.2.2.2⟩⟩⟩, hk.1.2.1⟩))).2.1 (Kd.V_F (Kd.V_mono (ok' := (fun k_ => ((fun k_ => (w.heap.size ≤ k_) ∧ some k_ ≠ (.slice (some ad237) t234.length co20 : Value).ownBlock ∧ k_ ≠ gb228 ∧ k_ ≠ gb229)) k_ ∧ some k_ ≠ (u8 : Value).ownBlock)) (HL237_0.out) (fun k_ hk => ⟨⟨hk.1.1, ⟨hk.2, ⟨hk.1.2.2.1, hk.1.2.2.2⟩⟩⟩, hk.1.2.1⟩))))); (case aB => exact bl_); (case aF => exact (fun k_ hk => ⟨(Nat.le_trans (bz_ bl_) hk), Kd.fresh' (Kd.N_lt (Kd.pN HO_31.out)) k_ hk, Kd.freshB (pk BK228.out) k_ hk, Kd.freshB (pk BK229.out) k_ hk⟩)); (case aO => exact (Kd.pN HO_8.out)); (case aS => exact (bz_ bl_)); (case aL => have := LMc26.out; omega); intro v240 w31 ho hb hg hat; rw [← Ny239.out] at ho; have n0_ := ak_ (Kd.N_afterv (ok := (fun k_ => (w.heap.size ≤ k_) ∧ k_ ≠ gb228 ∧ k_ ≠ gb229)) (by (with_reducible repeat (first | apply Kd.N_alloc | apply Kd.N_drewN | apply Kd.N_drew)); exact Kd.N_mono HO_31.out (fun _ hk => ⟨⟨hk.1, ⟨hk.2.2.1, hk.2.2.2⟩⟩, hk.2.1⟩)) hg hat); have n1_ := ak_ (blk_grown (pk BK228.out) hg (Kd.N_ne HO_8.out BK228.out (by decide))); have n2_ := ak_ (blk_grown (pk BK229.out) hg (Kd.N_ne HO_8.out BK229.out (by decide))); have n3_ := ak_ (Kd.V_afterv (ok := (fun k_ => (w.heap.size ≤ k_) ∧ some k_ ≠ (.slice (some ad237) t234.length co20 : Value).ownBlock ∧ k_ ≠ gb228 ∧ k_ ≠ gb229)) (by (with_reducible repeat (first | apply Kd.V_alloc | apply Kd.V_drewN | apply Kd.V_drew)); exact Kd.V_mono HL237_0.out (fun _ hk => ⟨⟨hk.1.1, ⟨hk.2, ⟨hk.1.2.2.1, hk.1.2.2.2⟩⟩⟩, hk.1.2.1⟩)) hg hat); have n4_ := ak_ (hb); have n5_ := ak_ (ho); clear HO_31; clear BK228; clear BK229; clear HL237_0; clear HB; clear HO_8; have HO_31 := n0_; have BK228 := n1_; have BK229 := n2_; have HL237_0 := n3_; have HB := n4_; have HO241 := n5_; clear n0_ n1_ n2_ n3_ n4_ n5_; clear ho hb hg hat))
           go_roundg k2
           case measure => have := HK1.out; have := HK2.out; omega
           case rel => exact ⟨(y239), (wrap64 (x33_2 + 1)), (ry_), H', ⟨by have := HK1.out; have := HK2.out; omega⟩, ⟨Kd.pN HO241.out⟩, ⟨by (with_reducible repeat (first | apply Kd.N_alloc | apply Kd.N_drewN | apply Kd.N_drew)); exact Kd.N_mono HO_31.out (fun _ hk => ⟨hk.1.1, ⟨hk.2, ⟨hk.1.2.1, hk.1.2.2⟩⟩⟩)⟩, ⟨pk BK228.out⟩, ⟨pk BK229.out⟩, ⟨by repeat (first | exact HB.out | apply ba_ | apply bN_ | apply b1_ | refine below_set ?_ (Aside0.out (by assumption)))⟩⟩
          ·
           rw [if_neg c26] at H
           exact absurd H (by simp)
         ·
          replace c25 := Bool.eq_false_iff.mpr c25
          subst c25
          have H1 : (spec_loRides.l1 k2 x8_2 t234 (t234.length : Int) (wrap64 (x33_2 + 1)) l0_0 l0_1 a0_2 l1_0 a1_1) = some r := by rw [if_neg (show ¬ (false = true) by decide)] at H; exact H
          clear H
          have H := H1
          clear H1
          have H' := ak_ H
          clear H
          have p237 : 0 ≤ (x33_2 : Int) := odt_ (by assumption)
          have q237 : x33_2 < (t234.length : Int) := odt_ (by assumption)
          obtain ⟨ad237, A237_0, c237_0, e237, hx237_0, hl237_0, hi237_0⟩ := at_L2 (Kd.N_reads' HO_31.out).2.2 x33_2 p237 q237
          cases e237
          obtain ⟨ce237, hce237, hMe237, hcc237⟩ := Kd.N_get HO_31.out [] x33_2 p237 (by first | exact q237 | exact odt_ (by assumption) | (have e_ := (Kd.N_reads' HO_31.out).1; omega))
          obtain ⟨ua237_0, uc237_0, rfl, ul237_0, ge237_0⟩ := Kd.FK_slice_open hMe237
          have hv237_0 := hcc237 0 _ rfl
          rw [Nat.add_zero, show ((Kd.slice 3 (Kd.int .i64))).sz = 1 from rfl, Nat.mul_one] at hv237_0
          replace hv237_0 := Option.some.inj (hv237_0.symm.trans hx237_0)
          injection hv237_0 with hva_ hvn_ hvc_
          rw [hva_] at ge237_0
          rw [hvc_] at ul237_0
          have HL237_0 := ak_ (show Kd.V (Kd.int .i64) 3 _ w.heap.size _ _ (rd_L2 t234 x33_2) from Kd.V_mk ul237_0 ge237_0)
          clear hva_ hvn_ hvc_ ge237_0 ul237_0 hcc237 hce237
          have HR237_0 := ak_ hi237_0
          have HC237_0 := ak_ hl237_0
          clear hi237_0 hl237_0
          replace p237 := eq_true p237
          replace q237 := eq_true q237
          have hnb32 := NB228_229.out
          have hnc32 := NB229_228.out
          have hcz33_0 : wr.cell? ⟨gb228, 0, none⟩ = some (.slice A0_0 l0_0.length c0_0) := (blk_cell BK228.out 0).trans rfl
          have hcz33_1 : wr.cell? ⟨gb228, 1, none⟩ = some (.slice A0_1 l0_1.length c0_1) := (blk_cell BK228.out 1).trans rfl
          have hcz33_2 : wr.cell? ⟨gb228, 2, none⟩ = some (.int .i64 a0_2) := (blk_cell BK228.out 2).trans rfl
          have hfz33_0 := blk_frozen BK228.out 0
          have hfz33_1 := blk_frozen BK228.out 1
          have hfz33_2 := blk_frozen BK228.out 2
          have hcz34_0 : wr.cell? ⟨gb229, 0, none⟩ = some (.slice A1_0 l1_0.length c1_0) := (blk_cell BK229.out 0).trans rfl
          have hcz34_1 : wr.cell? ⟨gb229, 1, none⟩ = some (.bool a1_1) := (blk_cell BK229.out 1).trans rfl
          have hfz34_0 := blk_frozen BK229.out 0
          have hfz34_1 := blk_frozen BK229.out 1
          go_wp2_with (first | ((with_reducible refine gate_callee (f := 136) rfl ?_); refine goesL_ (some 40) rfl rfl Try.func136 (by kernel_rfl) rfl #[.agg #[.slice A0_0 l0_0.length c0_0, .slice A0_1 l0_1.length c0_1, .int .i64 a0_2], .agg #[.slice A1_0 l1_0.length c1_0, .bool a1_1], .slice A237_0 (rd_L2 t234 x33_2).length c237_0] rfl (by first | rfl | (simp only [map_toArray, map_cons, map_nil]; try rfl)) ?_; (with_reducible refine (spec_loCan.calls k2 _ _ l0_0 _ _ l0_1 a0_2 _ _ l1_0 a1_1 _ _ (rd_L2 t234 x33_2) false _ ?side1 ?side2 ?side3 ?side4 ?side5 ?side6 ?side7 ?side8 A24.out).mono ?_); (case side1 => repeat (first | exact (Kd.C_below HR0_0.out HB.out) | (with_reducible refine Kd.C_alloc ?_ _) | (with_reducible refine Kd.C_drewN ?_ _) | (with_reducible refine Kd.C_drew ?_))); (case side2 => exact HC0_0.out); (case side3 => repeat (first | exact (Kd.C_below HR0_1.out HB.out) | (with_reducible refine Kd.C_alloc ?_ _) | (with_reducible refine Kd.C_drewN ?_ _) | (with_reducible refine Kd.C_drew ?_))); (case side4 => exact HC0_1.out); (case side5 => repeat (first | exact (Kd.C_below HR1_0.out HB.out) | (with_reducible refine Kd.C_alloc ?_ _) | (with_reducible refine Kd.C_drewN ?_ _) | (with_reducible refine Kd.C_drew ?_))); (case side6 => exact HC1_0.out); (case side7 => repeat (first | exact (by repeat (first | (with_reducible exact HR237_0.out) | (with_reducible refine Kd.C_alloc ?_ _) | (with_reducible refine Kd.C_drewN ?_ _) | (with_reducible refine Kd.C_drew ?_) | exact HR237_0.out)) | (with_reducible refine Kd.C_alloc ?_ _) | (with_reducible refine Kd.C_drewN ?_ _) | (with_reducible refine Kd.C_drew ?_))); (case side8 => exact HC237_0.out); rintro e w35 ⟨rfl, hb⟩; refine ⟨_, rfl, ?_⟩; have n0_ := ak_ (Kd.N_below (Kd.pN HO_8.out) hb); have n1_ := ak_ (Kd.N_below (Kd.pN HO_31.out) hb); have n2_ := ak_ (Kd.V_below (Kd.pV HL237_0.out) hb); have n3_ := ak_ (blk_below (pk BK228.out) hb); have n4_ := ak_ (blk_below (pk BK229.out) hb); have n5_ := ak_ (Kd.C_below (by repeat (first | (with_reducible exact HR237_0.out) | (with_reducible refine Kd.C_alloc ?_ _) | (with_reducible refine Kd.C_drewN ?_ _) | (with_reducible refine Kd.C_drew ?_) | exact HR237_0.out)) hb); have n6_ := ak_ (bs_ bl_ hb); clear HO_8; clear HO_31; clear HL237_0; clear BK228; clear BK229; clear HR237_0; clear HB; have HO_8 := n0_; have HO_31 := n1_; have HL237_0 := n2_; have BK228 := n3_; have BK229 := n4_; have HR237_0 := n5_; have HB := n6_; clear n0_ n1_ n2_ n3_ n4_ n5_ n6_; (try clear hb); (try clear hb2); (try clear hk); (try clear hi)))
          go_roundg k2
          case measure => have := HK1.out; have := HK2.out; omega
          case rel => exact ⟨(x8_2), (wrap64 (x33_2 + 1)), (ry_), H', ⟨by have := HK1.out; have := HK2.out; omega⟩, ⟨Kd.pN HO_8.out⟩, ⟨Kd.pN HO_31.out⟩, ⟨pk BK228.out⟩, ⟨pk BK229.out⟩, ⟨by repeat (first | exact HB.out | apply ba_ | apply bN_ | apply b1_ | refine below_set ?_ (Aside0.out (by assumption)))⟩⟩
        ·
         rw [if_neg c23] at H
         exact absurd H (by simp)
       ·
        rw [if_neg c22] at H
        exact absurd H (by simp)
      ·
       rw [if_neg c21] at H
       have c21b0 : decide (x33_2 < (t234.length : Int)) = false := decide_eq_false c21
       clear c21
       obtain rfl := Option.some.inj H
       go_wp2
       go_ret
       exact ⟨_, rx_, by (with_reducible repeat (first | apply Kd.N_alloc | apply Kd.N_drewN | apply Kd.N_drew)); exact Kd.N_mono HO_8.out (fun _ hk => hk.1), by repeat (first | exact HB.out | apply ba_ | apply bN_ | apply b1_ | refine below_set ?_ (Aside0.out (by assumption)))⟩
def spec_loCost.f (k : Nat) (l0_0 : List Int) (l0_1 : List Bool) (a0_2 : Int) (l1 : List Int) (a2 : Bool) : Option (Int) := if a2 = true then ((spec_loLoad.f k l0_0 l0_1 a0_2 l1).bind fun t243 => (some t243)) else (some 1)
theorem spec_loCost.mono : ∀ a0 a1 a2 a3 a4 k, LeO (spec_loCost.f k a0 a1 a2 a3 a4) (spec_loCost.f (k + 1) a0 a1 a2 a3 a4) := by
 intro a0 a1 a2 a3 a4 k
 unfold spec_loCost.f
 repeat' first
  | (with_reducible first | exact spec_loLoad.mono _ _ _ _ _ | exact LeO.refl _ | exact LeO.none _ | refine LeO.ite ?_ ?_ | refine LeO.bind ?_ (fun _ => ?_))
  | exact spec_loLoad.mono _ _ _ _ _
  | exact LeO.none _
  | refine LeO.ite ?_ ?_
  | refine LeO.bind ?_ (fun _ => ?_)
theorem spec_loCost.calls (k : Nat) (A0_0 : Option Addr) (c0_0 : Nat) (l0_0 : List Int) (A0_1 : Option Addr) (c0_1 : Nat) (l0_1 : List Bool) (a0_2 : Int) (A1 : Option Addr) (c1 : Nat) (l1 : List Int) (a2 : Bool) (r : Int) (w : World) (hr0_0 : Kd.C (Kd.int .i64) w A0_0 l0_0.length l0_0) (hc0_0 : l0_0.length ≤ c0_0) (hr0_1 : Kd.C Kd.bool w A0_1 l0_1.length l0_1) (hc0_1 : l0_1.length ≤ c0_1) (hr1 : Kd.C (Kd.int .i64) w A1 l1.length l1) (hc1 : l1.length ≤ c1) (h : spec_loCost.f k l0_0 l0_1 a0_2 l1 a2 = some r) :
  Calls Try.prog 101 #[.agg #[.slice A0_0 l0_0.length c0_0, .slice A0_1 l0_1.length c0_1, .int .i64 a0_2], .slice A1 l1.length c1, .bool a2] w fun e w' => e = .returned (.int .i64 r) ∧ Below w.heap.size w w' := by
 have hu43 := Try.underlying43
 have HR0_0 := ak_ hr0_0
 have HC0_0 := ak_ hc0_0
 clear hr0_0 hc0_0
 have HR0_1 := ak_ hr0_1
 have HC0_1 := ak_ hc0_1
 clear hr0_1 hc0_1
 have HR1 := ak_ hr1
 have HC1 := ak_ hc1
 clear hr1 hc1
 have HB := ak_ (Below.refl w.heap.size w)
 have H : (if a2 = true then ((spec_loLoad.f k l0_0 l0_1 a0_2 l1).bind fun t243 => (some t243)) else (some 1)) = some r := h
 clear h
 by_cases c4 : a2 = true
 ·
  subst c4
  have H1 : ((spec_loLoad.f k l0_0 l0_1 a0_2 l1).bind fun t243 => (some t243)) = some r := by rw [if_pos rfl] at H; exact H
  clear H
  have H := H1
  clear H1
  replace H := Option.bind_eq_some_iff.mp H
  obtain ⟨t243, A50, H⟩ := H
  replace H : (some t243) = some r := H
  have A5 := ak_ A50
  clear A50
  obtain rfl := Option.some.inj H
  go_enter Try.func101, Try.ntmps101
  go_wp2_with (first | ((with_reducible refine gate_dst (N := 3) rfl ?_); refine bx_ 3 #[.slice A0_0 l0_0.length c0_0, .slice A0_1 l0_1.length c0_1, .int .i64 a0_2] 43 ?_; intro gb242 hg w6 hbox hb; have n0_ := ak_ (bs_ (bb_ HB.out) hb); have n1_ := ak_ (hbox); have n2_ := ak_ ((by rw [hg]; exact (bz_ (bb_ HB.out)) : w.heap.size ≤ gb242)); have n3_ := n2_; clear HB; have HB := n0_; have BK242 := n1_; have GW242 := n2_; have GE242 := n3_; clear n0_ n1_ n2_ n3_; clear hb hbox hg; have hcz7_0 : w6.cell? ⟨gb242, 0, none⟩ = some (.slice A0_0 l0_0.length c0_0) := (blk_cell BK242.out 0).trans rfl; have hcz7_1 : w6.cell? ⟨gb242, 1, none⟩ = some (.slice A0_1 l0_1.length c0_1) := (blk_cell BK242.out 1).trans rfl; have hcz7_2 : w6.cell? ⟨gb242, 2, none⟩ = some (.int .i64 a0_2) := (blk_cell BK242.out 2).trans rfl; have hfz7_0 := blk_frozen BK242.out 0; have hfz7_1 := blk_frozen BK242.out 1; have hfz7_2 := blk_frozen BK242.out 2) | ((with_reducible refine gate_callee (f := 137) rfl ?_); refine goesL_ (some 10) rfl rfl Try.func137 (by kernel_rfl) rfl #[.agg #[.slice A0_0 l0_0.length c0_0, .slice A0_1 l0_1.length c0_1, .int .i64 a0_2], .slice A1 l1.length c1] rfl (by first | rfl | (simp only [map_toArray, map_cons, map_nil]; try rfl)) ?_; (with_reducible refine (spec_loLoad.calls k _ _ l0_0 _ _ l0_1 a0_2 _ _ l1 t243 _ ?side1 ?side2 ?side3 ?side4 ?side5 ?side6 A5.out).mono ?_); (case side1 => repeat (first | exact (Kd.C_below HR0_0.out HB.out) | (with_reducible refine Kd.C_alloc ?_ _) | (with_reducible refine Kd.C_drewN ?_ _) | (with_reducible refine Kd.C_drew ?_))); (case side2 => exact HC0_0.out); (case side3 => repeat (first | exact (Kd.C_below HR0_1.out HB.out) | (with_reducible refine Kd.C_alloc ?_ _) | (with_reducible refine Kd.C_drewN ?_ _) | (with_reducible refine Kd.C_drew ?_))); (case side4 => exact HC0_1.out); (case side5 => repeat (first | exact (Kd.C_below HR1.out HB.out) | (with_reducible refine Kd.C_alloc ?_ _) | (with_reducible refine Kd.C_drewN ?_ _) | (with_reducible refine Kd.C_drew ?_))); (case side6 => exact HC1.out); rintro e w8 ⟨rfl, hb⟩; refine ⟨_, rfl, ?_⟩; have n0_ := ak_ (blk_below (pk BK242.out) hb); have n1_ := ak_ (bs_ bl_ hb); clear BK242; clear HB; have BK242 := n0_; have HB := n1_; clear n0_ n1_; (try clear hb); (try clear hb2); (try clear hk); (try clear hi)))
  go_ret
  exact ⟨rx_, by repeat (first | exact HB.out | apply ba_ | apply bN_ | apply b1_ | refine below_set ?_ GE242.out)⟩
 ·
  replace c4 := Bool.eq_false_iff.mpr c4
  subst c4
  have H1 : (some 1) = some r := by rw [if_neg (show ¬ (false = true) by decide)] at H; exact H
  clear H
  have H := H1
  clear H1
  obtain rfl := Option.some.inj H
  go_enter Try.func101, Try.ntmps101
  go_wp2_with (first | ((with_reducible refine gate_dst (N := 3) rfl ?_); refine bx_ 3 #[.slice A0_0 l0_0.length c0_0, .slice A0_1 l0_1.length c0_1, .int .i64 a0_2] 43 ?_; intro gb242 hg w9 hbox hb; have n0_ := ak_ (bs_ (bb_ HB.out) hb); have n1_ := ak_ (hbox); have n2_ := ak_ ((by rw [hg]; exact (bz_ (bb_ HB.out)) : w.heap.size ≤ gb242)); have n3_ := n2_; clear HB; have HB := n0_; have BK242 := n1_; have GW242 := n2_; have GE242 := n3_; clear n0_ n1_ n2_ n3_; clear hb hbox hg))
  go_ret
  exact ⟨rx_, by repeat (first | exact HB.out | apply ba_ | apply bN_ | apply b1_ | refine below_set ?_ GE242.out)⟩
end Go.Proofs.Ythkchdfkeieabaa.QGr
