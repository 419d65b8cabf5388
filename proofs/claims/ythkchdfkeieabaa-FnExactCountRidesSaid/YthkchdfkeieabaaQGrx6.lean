/- Contracts of functions of the given program, walked: each call returns what its Lean function says. Conditions: those that stand at each theorem. (Written by a program of this session.) -/
import Derived.Test.YthkchdfkeieabaaQGrx0
import Derived.Test.YthkchdfkeieabaaQGrx1
import Derived.Test.YthkchdfkeieabaaQGrx4
import Derived.Test.YthkchdfkeieabaaQGrx5
namespace Go.Proofs.Ythkchdfkeieabaa.QGr
open Go.RowKit Go.Proofs.YthkchdfkeieabaaW.PrintWords Go.Proofs.YthkchdfkeieabaaW.PrintLast Go.Proofs.YthkchdfkeieabaaW.PrintMore
open List (setIfInBounds_toArray set_cons_zero set_cons_succ map_toArray map_cons map_nil)
attribute [local go_sem] max2_int min2_int max_two min_two max_three min_three max_four min_four
set_option linter.unusedVariables false
set_option maxHeartbeats 8000000
set_option maxRecDepth 100000
set_option linter.unusedSimpArgs false
mutual
def spec_keCan.j0 : Nat → List Int → Bool → Int → List (List Int) → Int → List Bool → Bool → Option (Bool)
 | 0, _, _, _, _, _, _, _ => none
 | k + 1, x2, x21, x194000, x194001, x194002, x195000, x195001 => if x21 = true then (some false) else (spec_keCan.l0 k x2 x2 (x2.length : Int) 0 x194000 x194001 x194002 x195000 x195001)
def spec_keCan.l0 : Nat → List Int → List Int → Int → Int → Int → List (List Int) → Int → List Bool → Bool → Option (Bool)
 | 0, _, _, _, _, _, _, _, _, _ => none
 | k + 1, x2, x22, x23, x24, x194000, x194001, x194002, x195000, x195001 => if x24 < x23 then (if 0 ≤ x24 then (if x24 < (x22.length : Int) then (if 0 ≤ (rd x22 x24) then (if (rd x22 x24) < (x195000.length : Int) then (if ((rdOf false x195000 (rd x22 x24)) != x195001) = true then (some false) else (spec_keCan.l0 k x2 x22 x23 (wrap64 (x24 + 1)) x194000 x194001 x194002 x195000 x195001)) else (none)) else (none)) else (none)) else (none)) else ((spec_keRide.f k x195000 x195001 x2).bind fun bt198 => ((spec_keNow.f k x194000 x194001 x194002 bt198.1 bt198.2).bind fun t202 => (some ((t202.length : Int) == 0))))
end
def spec_keCan.f (k : Nat) (a0_0 : Int) (l0_1 : List (List Int)) (a0_2 : Int) (l1_0 : List Bool) (a1_1 : Bool) (l2 : List Int) : Option (Bool) := if (l2.length : Int) > a0_2 then (spec_keCan.j0 k l2 true a0_0 l0_1 a0_2 l1_0 a1_1) else ((spec_l1Rising.f k l2 0 (wrap64 (a0_0 - 1))).bind fun t195 => (spec_keCan.j0 k l2 (!t195) a0_0 l0_1 a0_2 l1_0 a1_1))
theorem spec_keCan.mono_l : ∀ k, (∀ y0 y1 y2 y3 y4 y5 y6, LeO (spec_keCan.j0 k y0 y1 y2 y3 y4 y5 y6) (spec_keCan.j0 (k + 1) y0 y1 y2 y3 y4 y5 y6)) ∧ (∀ y0 y1 y2 y3 y4 y5 y6 y7 y8, LeO (spec_keCan.l0 k y0 y1 y2 y3 y4 y5 y6 y7 y8) (spec_keCan.l0 (k + 1) y0 y1 y2 y3 y4 y5 y6 y7 y8))
 | 0 => ⟨fun _ _ _ _ _ _ _ r h => by simp [spec_keCan.j0] at h, fun _ _ _ _ _ _ _ _ _ r h => by simp [spec_keCan.l0] at h⟩
 | k + 1 => by
  obtain ⟨ih0, ih1⟩ := spec_keCan.mono_l k
  refine ⟨?_, ?_⟩
  ·intro y0 y1 y2 y3 y4 y5 y6
   unfold spec_keCan.j0
   repeat' first
   | (with_reducible first | exact ih0 _ _ _ _ _ _ _ | exact ih1 _ _ _ _ _ _ _ _ _ | exact spec_keNow.mono _ _ _ _ _ _ | exact spec_keRide.mono _ _ _ _ | exact spec_l1Rising.mono _ _ _ _ | exact LeO.refl _ | exact LeO.none _ | refine LeO.ite ?_ ?_ | refine LeO.bind ?_ (fun _ => ?_))
   | exact ih0 _ _ _ _ _ _ _
   | exact ih1 _ _ _ _ _ _ _ _ _
   | exact spec_keNow.mono _ _ _ _ _ _
   | exact spec_keRide.mono _ _ _ _
   | exact spec_l1Rising.mono _ _ _ _
   | exact LeO.none _
   | refine LeO.ite ?_ ?_
   | refine LeO.bind ?_ (fun _ => ?_)
  ·intro y0 y1 y2 y3 y4 y5 y6 y7 y8
   unfold spec_keCan.l0
   repeat' first
   | (with_reducible first | exact ih0 _ _ _ _ _ _ _ | exact ih1 _ _ _ _ _ _ _ _ _ | exact spec_keNow.mono _ _ _ _ _ _ | exact spec_keRide.mono _ _ _ _ | exact spec_l1Rising.mono _ _ _ _ | exact LeO.refl _ | exact LeO.none _ | refine LeO.ite ?_ ?_ | refine LeO.bind ?_ (fun _ => ?_))
   | exact ih0 _ _ _ _ _ _ _
   | exact ih1 _ _ _ _ _ _ _ _ _
   | exact spec_keNow.mono _ _ _ _ _ _
   | exact spec_keRide.mono _ _ _ _
   | exact spec_l1Rising.mono _ _ _ _
   | exact LeO.none _
   | refine LeO.ite ?_ ?_
   | refine LeO.bind ?_ (fun _ => ?_)
theorem spec_keCan.mono : ∀ a0 a1 a2 a3 a4 a5 k, LeO (spec_keCan.f k a0 a1 a2 a3 a4 a5) (spec_keCan.f (k + 1) a0 a1 a2 a3 a4 a5) := by
 intro a0 a1 a2 a3 a4 a5 k
 obtain ⟨ih0, ih1⟩ := spec_keCan.mono_l k
 unfold spec_keCan.f
 repeat' first
  | (with_reducible first | exact ih0 _ _ _ _ _ _ _ | exact ih1 _ _ _ _ _ _ _ _ _ | exact spec_keNow.mono _ _ _ _ _ _ | exact spec_keRide.mono _ _ _ _ | exact spec_l1Rising.mono _ _ _ _ | exact LeO.refl _ | exact LeO.none _ | refine LeO.ite ?_ ?_ | refine LeO.bind ?_ (fun _ => ?_))
  | exact ih0 _ _ _ _ _ _ _
  | exact ih1 _ _ _ _ _ _ _ _ _
  | exact spec_keNow.mono _ _ _ _ _ _
  | exact spec_keRide.mono _ _ _ _
  | exact spec_l1Rising.mono _ _ _ _
  | exact LeO.none _
  | refine LeO.ite ?_ ?_
  | refine LeO.bind ?_ (fun _ => ?_)
def spec_keCan.T6 : Bool × List (List Nat × List Nat) := (true, [([], []), ([0], [0]), ([], []), ([1, 2], [1, 2]), ([3], [3]), ([], []), ([5], [5]), ([4, 6], [4, 6])])
def spec_keCan.B6 : List Nat := [0, 1, 0, 7, 15, 0, 32, 127]
theorem spec_keCan.tab6 : rtab .any (opsOf Try.f110 6) = spec_keCan.T6 := by kernel_rfl
theorem spec_keCan.bits6 : waitsOk spec_keCan.T6.2 spec_keCan.B6 = true := by kernel_rfl
def spec_keCan.T9 : Bool × List (List Nat × List Nat) := (true, [([], []), ([], []), ([], []), ([1, 2], [1, 2]), ([0, 3, 3], [0, 3]), ([4], [4]), ([5], [5]), ([6, 4, 0, 1, 2, 3, 4, 5, 6], [6])])
def spec_keCan.B9 : List Nat := [0, 0, 0, 6, 15, 31, 63, 127]
theorem spec_keCan.tab9 : rtab .any (opsOf Try.f110 9) = spec_keCan.T9 := by kernel_rfl
theorem spec_keCan.bits9 : waitsOk spec_keCan.T9.2 spec_keCan.B9 = true := by kernel_rfl
theorem spec_keCan.calls (k : Nat) (a0_0 : Int) (A0_1 : Option Addr) (c0_1 : Nat) (l0_1 : List (List Int)) (a0_2 : Int) (A1_0 : Option Addr) (c1_0 : Nat) (l1_0 : List Bool) (a1_1 : Bool) (A2 : Option Addr) (c2 : Nat) (l2 : List Int) (r : Bool) (w : World) (hr0_1 : Kd.C (Kd.slice 3 (Kd.int .i64)) w A0_1 l0_1.length l0_1) (hc0_1 : l0_1.length ≤ c0_1) (hr1_0 : Kd.C Kd.bool w A1_0 l1_0.length l1_0) (hc1_0 : l1_0.length ≤ c1_0) (hr2 : Kd.C (Kd.int .i64) w A2 l2.length l2) (hc2 : l2.length ≤ c2) (h : spec_keCan.f k a0_0 l0_1 a0_2 l1_0 a1_1 l2 = some r) :
  Calls Try.prog 110 #[.agg #[.int .i64 a0_0, .slice A0_1 l0_1.length c0_1, .int .i64 a0_2], .agg #[.slice A1_0 l1_0.length c1_0, .bool a1_1], .slice A2 l2.length c2] w fun e w' => e = .returned (.bool r) ∧ Below w.heap.size w w' := by
 have hu52 := Try.underlying52
 have hu90 := Try.underlying90
 have HR0_1 := ak_ hr0_1
 have HC0_1 := ak_ hc0_1
 clear hr0_1 hc0_1
 have HR1_0 := ak_ hr1_0
 have HC1_0 := ak_ hc1_0
 clear hr1_0 hc1_0
 have HR2 := ak_ hr2
 have HC2 := ak_ hc2
 clear hr2 hc2
 have HB := ak_ (Below.refl w.heap.size w)
 have H : (if (l2.length : Int) > a0_2 then (spec_keCan.j0 k l2 true a0_0 l0_1 a0_2 l1_0 a1_1) else ((spec_l1Rising.f k l2 0 (wrap64 (a0_0 - 1))).bind fun t195 => (spec_keCan.j0 k l2 (!t195) a0_0 l0_1 a0_2 l1_0 a1_1))) = some r := h
 clear h
 have HC4 := ak_ H
 clear H
 go_enter Try.func110, Try.ntmps110
 go_upto_region 1 with (first | ((with_reducible refine gate_dst (N := 3) rfl ?_); refine bx_ 3 #[.int .i64 a0_0, .slice A0_1 l0_1.length c0_1, .int .i64 a0_2] 52 ?_; intro gb193 hg w5 hbox hb; have n0_ := ak_ (bs_ (bb_ HB.out) hb); have n1_ := ak_ (hbox); have n2_ := ak_ ((by rw [hg]; exact (bz_ (bb_ HB.out)) : w.heap.size ≤ gb193)); have n3_ := n2_; clear HB; have HB := n0_; have BK193 := n1_; have GW193 := n2_; have GE193 := n3_; clear n0_ n1_ n2_ n3_; clear hb hbox hg) | ((with_reducible refine gate_dst (N := 4) rfl ?_); refine bx_ 4 #[.slice A1_0 l1_0.length c1_0, .bool a1_1] 90 ?_; intro gb194 hg w6 hbox hb; have n0_ := ak_ (blk_below (pk BK193.out) hb); have n1_ := ak_ (bs_ bl_ hb); have n2_ := ak_ (hbox); have n3_ := ak_ ((by rw [hg]; exact (bz_ bl_) : w.heap.size ≤ gb194)); have n4_ := n3_; have n5_ := ak_ ((by rw [hg]; exact Nat.ne_of_lt (blk_lt (pk BK193.out)) : gb193 ≠ gb194)); have n6_ := ak_ n5_.out.symm; clear BK193; clear HB; have BK193 := n0_; have HB := n1_; have BK194 := n2_; have GW194 := n3_; have GE194 := n4_; have NB193_194 := n5_; have NB194_193 := n6_; clear n0_ n1_ n2_ n3_ n4_ n5_ n6_; clear hb hbox hg))
 (try simp only [Act.put, setIfInBounds_toArray, set_cons_zero, set_cons_succ])
 go_cut [21] (fun v21 wc => ∃ (kq : Nat) (x21_3 : Bool), v21 = .bool x21_3 ∧ Aside0 (spec_keCan.j0 kq l2 x21_3 a0_0 l0_1 a0_2 l1_0 a1_1 = some r) ∧ Aside0 (kq ≤ k) ∧ Aside0 (wc.heap[gb193]? = some (.cells #[.int .i64 a0_0, (.slice A0_1 l0_1.length c0_1), .int .i64 a0_2] 52 (0, 0))) ∧ Aside0 (wc.heap[gb194]? = some (.cells #[(.slice A1_0 l1_0.length c1_0), .bool a1_1] 90 (0, 0))) ∧ Aside0 (Below w.heap.size w wc))
 case first =>
  have H := HC4.out
  clear HC4
  by_cases c7 : (l2.length : Int) > a0_2
  ·
   rw [if_pos c7] at H
   have c7b0 : decide (a0_2 < (l2.length : Int)) = true := decide_eq_true c7
   clear c7
   (first | rw [c7b0] | (simp only [i64_w, i32_w]; rw [c7b0]) | rw [c7b1] | skip)
   have H' := ak_ H
   clear H
   have hnb8 := NB193_194.out
   have hnc8 := NB194_193.out
   have hcz9_0 : w6.cell? ⟨gb193, 0, none⟩ = some (.int .i64 a0_0) := (blk_cell BK193.out 0).trans rfl
   have hcz9_1 : w6.cell? ⟨gb193, 1, none⟩ = some (.slice A0_1 l0_1.length c0_1) := (blk_cell BK193.out 1).trans rfl
   have hcz9_2 : w6.cell? ⟨gb193, 2, none⟩ = some (.int .i64 a0_2) := (blk_cell BK193.out 2).trans rfl
   have hfz9_0 := blk_frozen BK193.out 0
   have hfz9_1 := blk_frozen BK193.out 1
   have hfz9_2 := blk_frozen BK193.out 2
   go_wp2
   go_meet
   case rel => exact ⟨_, (true), (ry_), H', ⟨by first | omega | exact Nat.le_refl _⟩, ⟨pk BK193.out⟩, ⟨pk BK194.out⟩, ⟨by repeat (first | exact HB.out | apply ba_ | apply bN_ | apply b1_ | refine below_set ?_ (Aside0.out (by assumption)))⟩⟩
  ·
   rw [if_neg c7] at H
   have c7b0 : decide (a0_2 < (l2.length : Int)) = false := decide_eq_false c7
   clear c7
   (first | rw [c7b0] | (simp only [i64_w, i32_w]; rw [c7b0]) | rw [c7b1] | skip)
   replace H := Option.bind_eq_some_iff.mp H
   obtain ⟨t195, A100, H⟩ := H
   replace H : (spec_keCan.j0 k l2 (!t195) a0_0 l0_1 a0_2 l1_0 a1_1) = some r := H
   have A10 := ak_ A100
   clear A100
   have H' := ak_ H
   clear H
   have hnb11 := NB193_194.out
   have hnc11 := NB194_193.out
   have hcz12_0 : w6.cell? ⟨gb193, 0, none⟩ = some (.int .i64 a0_0) := (blk_cell BK193.out 0).trans rfl
   have hcz12_1 : w6.cell? ⟨gb193, 1, none⟩ = some (.slice A0_1 l0_1.length c0_1) := (blk_cell BK193.out 1).trans rfl
   have hcz12_2 : w6.cell? ⟨gb193, 2, none⟩ = some (.int .i64 a0_2) := (blk_cell BK193.out 2).trans rfl
   have hfz12_0 := blk_frozen BK193.out 0
   have hfz12_1 := blk_frozen BK193.out 1
   have hfz12_2 := blk_frozen BK193.out 2
   go_wp2_with (first | (go_at_call 103; (with_reducible refine (spec_l1Rising.calls k _ _ l2 0 (wrap64 (a0_0 - 1)) t195 _ ?side1 ?side2 A10.out).mono ?_); (case side1 => repeat (first | exact (Kd.C_below HR2.out HB.out) | (with_reducible refine Kd.C_alloc ?_ _) | (with_reducible refine Kd.C_drewN ?_ _) | (with_reducible refine Kd.C_drew ?_))); (case side2 => exact HC2.out); rintro e w' ⟨rfl, ⟨nd, rfl⟩⟩))
   go_meet
   case rel => exact ⟨_, (!t195), (ry_), H', ⟨by first | omega | exact Nat.le_refl _⟩, ⟨pk BK193.out⟩, ⟨pk BK194.out⟩, ⟨by repeat (first | exact HB.out | apply ba_ | apply bN_ | apply b1_ | refine below_set ?_ (Aside0.out (by assumption)))⟩⟩
 case rest =>
  clear HC4
  try clear c1
  try clear c2
  try clear p2
  try clear p6
  try clear c7
  try clear c7b0
  try clear c8
  try clear c11
  try clear hcz12_0
  try clear hcz12_1
  try clear hcz12_2
  try clear hcz9_0
  try clear hcz9_1
  try clear hcz9_2
  try clear hfz12_0
  try clear hfz12_1
  try clear hfz12_2
  try clear hfz9_0
  try clear hfz9_1
  try clear hfz9_2
  obtain ⟨kq, x21_3, rfl, HA, HJ3, BK193, BK194, HB⟩ := hcut
  cases kq with
  | zero => exact absurd HA.out (by simp [spec_keCan.j0])
  | succ kj3 =>
   have H := HA.out
   clear HA
   simp only [spec_keCan.j0] at H
   by_cases c13 : x21_3 = true
   ·
    subst c13
    have H1 : (some false) = some r := by rw [if_pos rfl] at H; exact H
    clear H
    have H := H1
    clear H1
    obtain rfl := Option.some.inj H
    go_wp2
    go_ret
    exact ⟨rx_, by repeat (first | exact HB.out | apply ba_ | apply bN_ | apply b1_ | refine below_set ?_ (Aside0.out (by assumption)))⟩
   ·
    replace c13 := Bool.eq_false_iff.mpr c13
    subst c13
    have H1 : (spec_keCan.l0 kj3 l2 l2 (l2.length : Int) 0 a0_0 l0_1 a0_2 l1_0 a1_1) = some r := by rw [if_neg (show ¬ (false = true) by decide)] at H; exact H
    clear H
    have H := H1
    clear H1
    have H' := ak_ H
    clear H
    go_wp2
    go_loopg [24] kj3 (fun kq v24 w' => ∃ (x24_2 : Int), v24 = .int .i64 x24_2 ∧ Aside0 (spec_keCan.l0 kq l2 l2 (l2.length : Int) x24_2 a0_0 l0_1 a0_2 l1_0 a1_1 = some r) ∧ Aside0 (kq ≤ kj3) ∧ Aside0 (w'.heap[gb193]? = some (.cells #[.int .i64 a0_0, (.slice A0_1 l0_1.length c0_1), .int .i64 a0_2] 52 (0, 0))) ∧ Aside0 (w'.heap[gb194]? = some (.cells #[(.slice A1_0 l1_0.length c1_0), .bool a1_1] 90 (0, 0))) ∧ Aside0 (Below w.heap.size w w'))
    case atStart => exact ⟨(0), (ry_), H', ⟨Nat.le_refl _⟩, ⟨pk BK193.out⟩, ⟨pk BK194.out⟩, ⟨by repeat (first | exact HB.out | apply ba_ | apply bN_ | apply b1_ | refine below_set ?_ (Aside0.out (by assumption)))⟩⟩
    case round =>
     clear H'
     try clear c1
     try clear c2
     try clear p2
     try clear p6
     try clear c7
     try clear c7b0
     try clear c8
     try clear c11
     try clear c13
     try clear hcz12_0
     try clear hcz12_1
     try clear hcz12_2
     try clear hcz9_0
     try clear hcz9_1
     try clear hcz9_2
     try clear hfz12_0
     try clear hfz12_1
     try clear hfz12_2
     try clear hfz9_0
     try clear hfz9_1
     try clear hfz9_2
     try clear p2
     try clear p6
     obtain ⟨x24_2, rfl, HA, HK2, BK193, BK194, HB⟩ := hrel
     cases gk with
     | zero => exact absurd HA.out (by simp [spec_keCan.l0])
     | succ k2 =>
      have H := HA.out
      clear HA
      simp only [spec_keCan.l0] at H
      by_cases c14 : x24_2 < (l2.length : Int)
      ·
       rw [if_pos c14] at H
       have c14b0 : decide (x24_2 < (l2.length : Int)) = true := decide_eq_true c14
       clear c14
       by_cases c15 : 0 ≤ x24_2
       ·
        rw [if_pos c15] at H
        have c15b0 : decide (0 ≤ x24_2) = true := decide_eq_true c15
        clear c15
        by_cases c16 : x24_2 < (l2.length : Int)
        ·
         rw [if_pos c16] at H
         have c16b0 : decide (x24_2 < (l2.length : Int)) = true := decide_eq_true c16
         clear c16
         by_cases c17 : 0 ≤ (rd l2 x24_2)
         ·
          rw [if_pos c17] at H
          have c17b0 : decide (0 ≤ (rd l2 x24_2)) = true := decide_eq_true c17
          clear c17
          by_cases c18 : (rd l2 x24_2) < (l1_0.length : Int)
          ·
           rw [if_pos c18] at H
           have c18b0 : decide ((rd l2 x24_2) < (l1_0.length : Int)) = true := decide_eq_true c18
           clear c18
           by_cases c19 : ((rdOf false l1_0 (rd l2 x24_2)) != a1_1) = true
           ·
            rw [if_pos c19] at H
            have c19b0 : ((rdOf false l1_0 (rd l2 x24_2)) != a1_1) = true := c19
            (try (have c19b1 : decide ((rdOf false l1_0 (rd l2 x24_2)) = a1_1) = false := by simpa using c19))
            (try (have c19b2 : ((rdOf false l1_0 (rd l2 x24_2)) == a1_1) = false := by simpa using c19))
            (try (have c19b3 : ¬ ((rdOf false l1_0 (rd l2 x24_2)) = a1_1) := by simpa using c19))
            clear c19
            obtain rfl := Option.some.inj H
            have p196 : 0 ≤ (x24_2 : Int) := odt_ (by assumption)
            have q196 : x24_2 < (l2.length : Int) := odt_ (by assumption)
            obtain ⟨ad196, e196, hx196_0⟩ := Kd.at_int HR2.out x24_2 p196 q196
            cases e196
            try replace hx196_0 := (HB.out.cell (World.block_lt_of_cell? w _ hx196_0)).trans hx196_0
            replace p196 := eq_true p196
            replace q196 := eq_true q196
            try go_wp2
            have n0_ := ak_ (k1_ BK193.out)
            have n1_ := ak_ (k1_ BK194.out)
            have n2_ := ak_ (b1_ HB.out)
            clear BK193 BK194 HB
            have BK193 := n0_; have BK194 := n1_; have HB := n2_
            clear n0_ n1_ n2_
            have p197 : 0 ≤ ((rd l2 x24_2) : Int) := odt_ (by assumption)
            have q197 : (rd l2 x24_2) < (l1_0.length : Int) := odt_ (by assumption)
            obtain ⟨ad197, e197, hx197_0⟩ := Kd.at_bool HR1_0.out (rd l2 x24_2) p197 q197
            have hw197_0 := hx197_0
            cases e197
            try replace hx197_0 := (HB.out.cell (World.block_lt_of_cell? w _ hx197_0)).trans hx197_0
            replace p197 := eq_true p197
            replace q197 := eq_true q197
            refine start_ (n := 8) (S := fun w' => w'.cell? ⟨gb194, 0, none⟩ = some (.slice (some ad197) l1_0.length c1_0) ∧ w'.cell? ⟨gb194, 1, none⟩ = some (.bool a1_1) ∧ w'.cell? (ad197.add ((rd l2 x24_2)).toNat) = some (.bool (rdOf false l1_0 (rd l2 x24_2)))) (ds := []) (mb_ 8 0) (by kernel_rfl) rfl rfl ⟨(blk_cell BK194.out 0).trans rfl, (blk_cell BK194.out 1).trans rfl, ((HB.out.cell (World.block_lt_of_cell? w _ hw197_0)).trans hw197_0)⟩ (fun hHeld => ?_); refine with_tabW spec_keCan.tab6 spec_keCan.bits6 (fun HT_ HW_ => ?_)
            generalize wr.drew = w20 at BK193 BK194 HB hx197_0 hHeld ⊢
            refine pu_ 0 28 8 1 ?_
            refine pu_ 2 30 8 5 ?_
            refine pu_ 5 33 8 37 ?_
            refine tk_ 1 29 8 39 ?_ (hy := by rintro w' ⟨s0, s1, s2⟩; go_simp; with_reducible rfl)
            refine pu_ 3 31 8 47 ?_
            refine tk_ 4 32 8 63 ?_ (hy := by rintro w' ⟨s0, s1, s2⟩; go_simp; with_reducible rfl)
            refine tk_ 6 34 8 127 ?_ (hy := by rintro w' ⟨s0, s1, s2⟩; go_simp; with_reducible rfl)
            refine pu_ 7 35 8 255 ?_
            refine done_ (done_of HT_.out (by kernel_rfl)) ?_
            try go_wp2
            go_ret
            exact ⟨rx_, by repeat (first | exact HB.out | apply ba_ | apply bN_ | apply b1_ | refine below_set ?_ (Aside0.out (by assumption)))⟩
           ·
            rw [if_neg c19] at H
            have c19b0 : ((rdOf false l1_0 (rd l2 x24_2)) != a1_1) = false := by simpa using c19
            (try (have c19b1 : decide ((rdOf false l1_0 (rd l2 x24_2)) = a1_1) = true := by simpa using c19))
            (try (have c19b2 : ((rdOf false l1_0 (rd l2 x24_2)) == a1_1) = true := by simpa using c19))
            clear c19
            have H' := ak_ H
            clear H
            have p196 : 0 ≤ (x24_2 : Int) := odt_ (by assumption)
            have q196 : x24_2 < (l2.length : Int) := odt_ (by assumption)
            obtain ⟨ad196, e196, hx196_0⟩ := Kd.at_int HR2.out x24_2 p196 q196
            cases e196
            try replace hx196_0 := (HB.out.cell (World.block_lt_of_cell? w _ hx196_0)).trans hx196_0
            replace p196 := eq_true p196
            replace q196 := eq_true q196
            try go_wp2
            have n0_ := ak_ (k1_ BK193.out)
            have n1_ := ak_ (k1_ BK194.out)
            have n2_ := ak_ (b1_ HB.out)
            clear BK193 BK194 HB
            have BK193 := n0_; have BK194 := n1_; have HB := n2_
            clear n0_ n1_ n2_
            have p197 : 0 ≤ ((rd l2 x24_2) : Int) := odt_ (by assumption)
            have q197 : (rd l2 x24_2) < (l1_0.length : Int) := odt_ (by assumption)
            obtain ⟨ad197, e197, hx197_0⟩ := Kd.at_bool HR1_0.out (rd l2 x24_2) p197 q197
            have hw197_0 := hx197_0
            cases e197
            try replace hx197_0 := (HB.out.cell (World.block_lt_of_cell? w _ hx197_0)).trans hx197_0
            replace p197 := eq_true p197
            replace q197 := eq_true q197
            refine start_ (n := 8) (S := fun w' => w'.cell? ⟨gb194, 0, none⟩ = some (.slice (some ad197) l1_0.length c1_0) ∧ w'.cell? ⟨gb194, 1, none⟩ = some (.bool a1_1) ∧ w'.cell? (ad197.add ((rd l2 x24_2)).toNat) = some (.bool (rdOf false l1_0 (rd l2 x24_2)))) (ds := []) (mb_ 8 0) (by kernel_rfl) rfl rfl ⟨(blk_cell BK194.out 0).trans rfl, (blk_cell BK194.out 1).trans rfl, ((HB.out.cell (World.block_lt_of_cell? w _ hw197_0)).trans hw197_0)⟩ (fun hHeld => ?_); refine with_tabW spec_keCan.tab6 spec_keCan.bits6 (fun HT_ HW_ => ?_)
            generalize wr.drew = w21 at BK193 BK194 HB hx197_0 hHeld ⊢
            refine pu_ 0 28 8 1 ?_
            refine pu_ 2 30 8 5 ?_
            refine pu_ 5 33 8 37 ?_
            refine tk_ 1 29 8 39 ?_ (hy := by rintro w' ⟨s0, s1, s2⟩; go_simp; with_reducible rfl)
            refine pu_ 3 31 8 47 ?_
            refine tk_ 4 32 8 63 ?_ (hy := by rintro w' ⟨s0, s1, s2⟩; go_simp; with_reducible rfl)
            refine tk_ 6 34 8 127 ?_ (hy := by rintro w' ⟨s0, s1, s2⟩; go_simp; with_reducible rfl)
            refine pu_ 7 35 8 255 ?_
            refine done_ (done_of HT_.out (by kernel_rfl)) ?_
            try go_wp2
            go_roundg k2
            case measure => have := HJ3.out; have := HK2.out; omega
            case rel => exact ⟨(wrap64 (x24_2 + 1)), (ry_), H', ⟨by have := HJ3.out; have := HK2.out; omega⟩, ⟨pk BK193.out⟩, ⟨pk BK194.out⟩, ⟨by repeat (first | exact HB.out | apply ba_ | apply bN_ | apply b1_ | refine below_set ?_ (Aside0.out (by assumption)))⟩⟩
          ·
           rw [if_neg c18] at H
           exact absurd H (by simp)
         ·
          rw [if_neg c17] at H
          exact absurd H (by simp)
        ·
         rw [if_neg c16] at H
         exact absurd H (by simp)
       ·
        rw [if_neg c15] at H
        exact absurd H (by simp)
      ·
       rw [if_neg c14] at H
       have c14b0 : decide (x24_2 < (l2.length : Int)) = false := decide_eq_false c14
       clear c14
       replace H := Option.bind_eq_some_iff.mp H
       obtain ⟨⟨t198, t201⟩, A220, H⟩ := H
       replace H : ((spec_keNow.f k2 a0_0 l0_1 a0_2 t198 t201).bind fun t202 => (some ((t202.length : Int) == 0))) = some r := H
       have A22 := ak_ A220
       clear A220
       replace H := Option.bind_eq_some_iff.mp H
       obtain ⟨t202, A230, H⟩ := H
       replace H : (some ((t202.length : Int) == 0)) = some r := H
       have A23 := ak_ A230
       clear A230
       obtain rfl := Option.some.inj H
       try go_wp2
       have n0_ := ak_ (k1_ BK193.out)
       have n1_ := ak_ (k1_ BK194.out)
       have n2_ := ak_ (b1_ HB.out)
       clear BK193 BK194 HB
       have BK193 := n0_; have BK194 := n1_; have HB := n2_
       clear n0_ n1_ n2_
       refine start_ (n := 8) (S := fun w' => w'.cell? ⟨gb193, 0, none⟩ = some (.int .i64 a0_0) ∧ w'.cell? ⟨gb193, 1, none⟩ = some (.slice A0_1 l0_1.length c0_1) ∧ w'.cell? ⟨gb193, 2, none⟩ = some (.int .i64 a0_2) ∧ w'.cell? ⟨gb194, 0, none⟩ = some (.slice A1_0 l1_0.length c1_0) ∧ w'.cell? ⟨gb194, 1, none⟩ = some (.bool a1_1)) (ds := []) (mb_ 8 0) (by kernel_rfl) rfl rfl ⟨(blk_cell BK193.out 0).trans rfl, (blk_cell BK193.out 1).trans rfl, (blk_cell BK193.out 2).trans rfl, (blk_cell BK194.out 0).trans rfl, (blk_cell BK194.out 1).trans rfl⟩ (fun hHeld => ?_); refine with_tabW spec_keCan.tab9 spec_keCan.bits9 (fun HT_ HW_ => ?_)
       generalize wr.drew = w24 at BK193 BK194 HB hHeld ⊢
       refine pu_ 2 39 8 4 ?_
       refine tk_ 0 37 8 5 ?_ (hy := by rintro w' ⟨s0, s1, s2, s3, s4⟩; go_simp; with_reducible rfl)
       refine tk_ 1 38 8 7 ?_ (hy := by rintro w' ⟨s0, s1, s2, s3, s4⟩; go_simp; with_reducible rfl)
       refine on_ 3 40 8 15 (fun K hK => ?_)
       refine goes_ Try.func75 (by kernel_rfl) rfl #[.agg #[.slice A1_0 l1_0.length c1_0, .bool a1_1], .slice A2 l2.length c2] (by rfl) rfl rfl (by first | rfl | (simp only [map_toArray, map_cons, map_nil]; try rfl)) ?_
       with_reducible refine (spec_keRide.calls k2 _ _ l1_0 a1_1 _ _ l2 t198 t201 _ ?side1 ?side2 ?side3 ?side4 A22.out).mono ?_
       (case side1 => repeat (first | exact (Kd.C_below HR1_0.out HB.out) | (with_reducible refine Kd.C_alloc ?_ _) | (with_reducible refine Kd.C_drewN ?_ _) | (with_reducible refine Kd.C_drew ?_)))
       (case side2 => exact HC1_0.out)
       (case side3 => repeat (first | exact (Kd.C_below HR2.out HB.out) | (with_reducible refine Kd.C_alloc ?_ _) | (with_reducible refine Kd.C_drewN ?_ _) | (with_reducible refine Kd.C_drew ?_)))
       (case side4 => exact HC2.out)
       rintro e w25 ⟨v199, rfl, ho0, hb⟩
       refine ⟨_, rfl, ?_⟩
       have n0_ := ak_ (Kd.R_lower ho0 (bz_ bl_))
       have n1_ := ak_ (blk_below (pk BK193.out) hb)
       have n2_ := ak_ (blk_below (pk BK194.out) hb)
       have n3_ := ak_ (bs_ bl_ hb)
       clear BK193 BK194 HB
       have HO200 := n0_; have BK193 := n1_; have BK194 := n2_; have HB := n3_
       clear n0_ n1_ n2_ n3_
       (try clear hb)
       (try clear hb2)
       (try clear hk)
       (try clear hi)
       (try clear ho0)
       obtain ⟨Ao26, co26, eo26⟩ := Kd.R_slice HO200.out
       (first | subst eo26 | (injection eo26 with f1_ f2_ f3_; have f4_ := f1_.symm; have f5_ := f3_.symm; clear f1_ f2_ f3_; subst f4_; subst f5_))
       refine hK.out _ _ ⟨(blk_cell BK193.out 0).trans rfl, (blk_cell BK193.out 1).trans rfl, (blk_cell BK193.out 2).trans rfl, (blk_cell BK194.out 0).trans rfl, (blk_cell BK194.out 1).trans rfl⟩ (fun hHeld => ?_)
       clear hK K
       refine nm_ ?_
       refine on_ 4 41 8 31 (fun K hK => ?_)
       refine goes_ Try.func145 (by kernel_rfl) rfl #[.agg #[.int .i64 a0_0, .slice A0_1 l0_1.length c0_1, .int .i64 a0_2], .agg #[.slice Ao26 t198.length co26, .bool t201]] (by rfl) rfl rfl (by first | rfl | (simp only [map_toArray, map_cons, map_nil]; try rfl)) ?_
       with_reducible refine (spec_keNow.calls k2 a0_0 _ _ l0_1 a0_2 _ _ t198 t201 t202 _ ?side1 ?side2 ?side3 ?side4 A23.out).mono ?_
       (case side1 => repeat (first | exact (Kd.C_below HR0_1.out HB.out) | (with_reducible refine Kd.C_alloc ?_ _) | (with_reducible refine Kd.C_drewN ?_ _) | (with_reducible refine Kd.C_drew ?_)))
       (case side2 => exact HC0_1.out)
       (case side3 => repeat (first | exact (Kd.R_reads' HO200.out).2.2 | (with_reducible refine Kd.C_alloc ?_ _) | (with_reducible refine Kd.C_drewN ?_ _) | (with_reducible refine Kd.C_drew ?_)))
       (case side4 => exact (Kd.R_reads' HO200.out).2.1)
       rintro e w27 ⟨v203, rfl, ho0, hb⟩
       refine ⟨_, rfl, ?_⟩
       have n0_ := ak_ (Kd.R_below (Kd.pR HO200.out) hb)
       have n1_ := ak_ (Kd.S_lower ho0 (bz_ bl_))
       have n2_ := ak_ (blk_below (pk BK193.out) hb)
       have n3_ := ak_ (blk_below (pk BK194.out) hb)
       have n4_ := ak_ (bs_ bl_ hb)
       clear HO200 BK193 BK194 HB
       have HO200 := n0_; have HO204 := n1_; have BK193 := n2_; have BK194 := n3_; have HB := n4_
       clear n0_ n1_ n2_ n3_ n4_
       (try clear hb)
       (try clear hb2)
       (try clear hk)
       (try clear hi)
       (try clear ho0)
       obtain ⟨Ao28, co28, eo28⟩ := Kd.S_slice HO204.out
       (first | subst eo28 | (injection eo28 with f1_ f2_ f3_; have f4_ := f1_.symm; have f5_ := f3_.symm; clear f1_ f2_ f3_; subst f4_; subst f5_))
       refine hK.out _ _ ⟨(blk_cell BK193.out 0).trans rfl, (blk_cell BK193.out 1).trans rfl, (blk_cell BK193.out 2).trans rfl, (blk_cell BK194.out 0).trans rfl, (blk_cell BK194.out 1).trans rfl⟩ (fun hHeld => ?_)
       clear hK K
       refine nm_ ?_
       refine pu_ 5 42 8 63 ?_
       refine pu_ 6 43 8 127 ?_
       refine pu_ 7 6 8 255 ?_
       refine done_ (done_of HT_.out (by kernel_rfl)) ?_
       try go_wp2
       go_ret
       exact ⟨rx_, by repeat (first | exact HB.out | apply ba_ | apply bN_ | apply b1_ | refine below_set ?_ (Aside0.out (by assumption)))⟩
end Go.Proofs.Ythkchdfkeieabaa.QGr
