/- Contracts of functions of the given program, walked: each call returns what its Lean function says. Conditions: those that stand at each theorem. (Written by a program of this session.) -/
import Derived.Test.YthkchdfkeieabaaQGrx0
import Derived.Test.YthkchdfkeieabaaQGrx5
import Derived.Test.YthkchdfkeieabaaQGrx6
namespace Go.Proofs.Ythkchdfkeieabaa.QGr
open Go.RowKit Go.Proofs.YthkchdfkeieabaaW.PrintWords Go.Proofs.YthkchdfkeieabaaW.PrintLast Go.Proofs.YthkchdfkeieabaaW.PrintMore
open List (setIfInBounds_toArray set_cons_zero set_cons_succ map_toArray map_cons map_nil)
attribute [local go_sem] max2_int min2_int max_two min_two max_three min_three max_four min_four
set_option linter.unusedVariables false
set_option maxHeartbeats 8000000
set_option maxRecDepth 100000
set_option linter.unusedSimpArgs false
mutual
def spec_loCan.j0 : Nat → List Int → Bool → List Int → List Bool → Int → List Bool → Bool → Option (Bool)
 | 0, _, _, _, _, _, _, _ => none
 | k + 1, x2, x29, x215000, x215001, x215002, x216000, x216001 => if x29 = true then (some false) else (spec_loCan.l0 k false x2 (x2.length : Int) 0 x215000 x215001 x215002 x216000 x216001)
def spec_loCan.l0 : Nat → Bool → List Int → Int → Int → List Int → List Bool → Int → List Bool → Bool → Option (Bool)
 | 0, _, _, _, _, _, _, _, _, _ => none
 | k + 1, x7, x30, x31, x32, x215000, x215001, x215002, x216000, x216001 => if x32 < x31 then (if 0 ≤ x32 then (if x32 < (x30.length : Int) then (if 0 ≤ (rd x30 x32) then (if (rd x30 x32) < (x216000.length : Int) then (if ((rdOf false x216000 (rd x30 x32)) != x216001) = true then (some false) else (if x7 = true then (spec_loCan.l0 k true x30 x31 (wrap64 (x32 + 1)) x215000 x215001 x215002 x216000 x216001) else (if (rd x30 x32) < (x215001.length : Int) then (spec_loCan.l0 k (rdOf false x215001 (rd x30 x32)) x30 x31 (wrap64 (x32 + 1)) x215000 x215001 x215002 x216000 x216001) else (none)))) else (none)) else (none)) else (none)) else (none)) else (some x7)
end
def spec_loCan.f (k : Nat) (l0_0 : List Int) (l0_1 : List Bool) (a0_2 : Int) (l1_0 : List Bool) (a1_1 : Bool) (l2 : List Int) : Option (Bool) := if (l2.length : Int) = 0 then (spec_loCan.j0 k l2 true l0_0 l0_1 a0_2 l1_0 a1_1) else ((spec_l1Rising.f k l2 0 (wrap64 ((l0_0.length : Int) - 1))).bind fun t216 => (if t216 = true then ((spec_loLoad.f k l0_0 l0_1 a0_2 l2).bind fun t217 => (spec_loCan.j0 k l2 (decide (t217 > a0_2)) l0_0 l0_1 a0_2 l1_0 a1_1)) else (spec_loCan.j0 k l2 true l0_0 l0_1 a0_2 l1_0 a1_1)))
theorem spec_loCan.mono_l : ∀ k, (∀ y0 y1 y2 y3 y4 y5 y6, LeO (spec_loCan.j0 k y0 y1 y2 y3 y4 y5 y6) (spec_loCan.j0 (k + 1) y0 y1 y2 y3 y4 y5 y6)) ∧ (∀ y0 y1 y2 y3 y4 y5 y6 y7 y8, LeO (spec_loCan.l0 k y0 y1 y2 y3 y4 y5 y6 y7 y8) (spec_loCan.l0 (k + 1) y0 y1 y2 y3 y4 y5 y6 y7 y8))
 | 0 => ⟨fun _ _ _ _ _ _ _ r h => by simp [spec_loCan.j0] at h, fun _ _ _ _ _ _ _ _ _ r h => by simp [spec_loCan.l0] at h⟩
 | k + 1 => by
  obtain ⟨ih0, ih1⟩ := spec_loCan.mono_l k
  refine ⟨?_, ?_⟩
  ·intro y0 y1 y2 y3 y4 y5 y6
   unfold spec_loCan.j0
   repeat' first
   | (with_reducible first | exact ih0 _ _ _ _ _ _ _ | exact ih1 _ _ _ _ _ _ _ _ _ | exact spec_l1Rising.mono _ _ _ _ | exact spec_loLoad.mono _ _ _ _ _ | exact LeO.refl _ | exact LeO.none _ | refine LeO.ite ?_ ?_ | refine LeO.bind ?_ (fun _ => ?_))
   | exact ih0 _ _ _ _ _ _ _
   | exact ih1 _ _ _ _ _ _ _ _ _
   | exact spec_l1Rising.mono _ _ _ _
   | exact spec_loLoad.mono _ _ _ _ _
   | exact LeO.none _
   | refine LeO.ite ?_ ?_
   | refine LeO.bind ?_ (fun _ => ?_)
  ·intro y0 y1 y2 y3 y4 y5 y6 y7 y8
   unfold spec_loCan.l0
   repeat' first
   | (with_reducible first | exact ih0 _ _ _ _ _ _ _ | exact ih1 _ _ _ _ _ _ _ _ _ | exact spec_l1Rising.mono _ _ _ _ | exact spec_loLoad.mono _ _ _ _ _ | exact LeO.refl _ | exact LeO.none _ | refine LeO.ite ?_ ?_ | refine LeO.bind ?_ (fun _ => ?_))
   | exact ih0 _ _ _ _ _ _ _
   | exact ih1 _ _ _ _ _ _ _ _ _
   | exact spec_l1Rising.mono _ _ _ _
   | exact spec_loLoad.mono _ _ _ _ _
   | exact LeO.none _
   | refine LeO.ite ?_ ?_
   | refine LeO.bind ?_ (fun _ => ?_)
theorem spec_loCan.mono : ∀ a0 a1 a2 a3 a4 a5 k, LeO (spec_loCan.f k a0 a1 a2 a3 a4 a5) (spec_loCan.f (k + 1) a0 a1 a2 a3 a4 a5) := by
 intro a0 a1 a2 a3 a4 a5 k
 obtain ⟨ih0, ih1⟩ := spec_loCan.mono_l k
 unfold spec_loCan.f
 repeat' first
  | (with_reducible first | exact ih0 _ _ _ _ _ _ _ | exact ih1 _ _ _ _ _ _ _ _ _ | exact spec_l1Rising.mono _ _ _ _ | exact spec_loLoad.mono _ _ _ _ _ | exact LeO.refl _ | exact LeO.none _ | refine LeO.ite ?_ ?_ | refine LeO.bind ?_ (fun _ => ?_))
  | exact ih0 _ _ _ _ _ _ _
  | exact ih1 _ _ _ _ _ _ _ _ _
  | exact spec_l1Rising.mono _ _ _ _
  | exact spec_loLoad.mono _ _ _ _ _
  | exact LeO.none _
  | refine LeO.ite ?_ ?_
  | refine LeO.bind ?_ (fun _ => ?_)
def spec_loCan.T1 : Bool × List (List Nat × List Nat) := (true, [([], []), ([0], [0]), ([1], [1]), ([2], [2]), ([3], [3]), ([3], [3]), ([5, 3], [3, 5]), ([6, 3], [3, 6]), ([7, 3], [3, 7]), ([4, 8, 3, 3], [3, 4, 8]), ([9, 3], [3, 9]), ([3, 10], [3, 10]), ([11, 9], [11]), ([12], [12]), ([12], [12]), ([13, 14, 12, 12], [12, 13, 14]), ([12], [12]), ([16, 12], [12, 16]), ([15, 17, 12], [12, 15, 17]), ([12, 18], [12, 18])])
def spec_loCan.B1 : List Nat := [0, 1, 3, 7, 15, 15, 47, 111, 239, 511, 1023, 2047, 4095, 8191, 8191, 32767, 8191, 73727, 262143, 524287]
theorem spec_loCan.tab1 : rtab .any (opsOf Try.f136 1) = spec_loCan.T1 := by kernel_rfl
theorem spec_loCan.bits1 : waitsOk spec_loCan.T1.2 spec_loCan.B1 = true := by kernel_rfl
def spec_loCan.T7 : Bool × List (List Nat × List Nat) := (true, [([], []), ([0], [0]), ([], []), ([1, 2], [1, 2]), ([3], [3]), ([], []), ([5], [5]), ([4, 6], [4, 6])])
def spec_loCan.B7 : List Nat := [0, 1, 0, 7, 15, 0, 32, 127]
theorem spec_loCan.tab7 : rtab .any (opsOf Try.f136 7) = spec_loCan.T7 := by kernel_rfl
theorem spec_loCan.bits7 : waitsOk spec_loCan.T7.2 spec_loCan.B7 = true := by kernel_rfl
theorem spec_loCan.calls (k : Nat) (A0_0 : Option Addr) (c0_0 : Nat) (l0_0 : List Int) (A0_1 : Option Addr) (c0_1 : Nat) (l0_1 : List Bool) (a0_2 : Int) (A1_0 : Option Addr) (c1_0 : Nat) (l1_0 : List Bool) (a1_1 : Bool) (A2 : Option Addr) (c2 : Nat) (l2 : List Int) (r : Bool) (w : World) (hr0_0 : Kd.C (Kd.int .i64) w A0_0 l0_0.length l0_0) (hc0_0 : l0_0.length ≤ c0_0) (hr0_1 : Kd.C Kd.bool w A0_1 l0_1.length l0_1) (hc0_1 : l0_1.length ≤ c0_1) (hr1_0 : Kd.C Kd.bool w A1_0 l1_0.length l1_0) (hc1_0 : l1_0.length ≤ c1_0) (hr2 : Kd.C (Kd.int .i64) w A2 l2.length l2) (hc2 : l2.length ≤ c2) (h : spec_loCan.f k l0_0 l0_1 a0_2 l1_0 a1_1 l2 = some r) :
  Calls Try.prog 136 #[.agg #[.slice A0_0 l0_0.length c0_0, .slice A0_1 l0_1.length c0_1, .int .i64 a0_2], .agg #[.slice A1_0 l1_0.length c1_0, .bool a1_1], .slice A2 l2.length c2] w fun e w' => e = .returned (.bool r) ∧ Below w.heap.size w w' := by
 have hu43 := Try.underlying43
 have hu115 := Try.underlying115
 have HR0_0 := ak_ hr0_0
 have HC0_0 := ak_ hc0_0
 clear hr0_0 hc0_0
 have HR0_1 := ak_ hr0_1
 have HC0_1 := ak_ hc0_1
 clear hr0_1 hc0_1
 have HR1_0 := ak_ hr1_0
 have HC1_0 := ak_ hc1_0
 clear hr1_0 hc1_0
 have HR2 := ak_ hr2
 have HC2 := ak_ hc2
 clear hr2 hc2
 have HB := ak_ (Below.refl w.heap.size w)
 have H : (if (l2.length : Int) = 0 then (spec_loCan.j0 k l2 true l0_0 l0_1 a0_2 l1_0 a1_1) else ((spec_l1Rising.f k l2 0 (wrap64 ((l0_0.length : Int) - 1))).bind fun t216 => (if t216 = true then ((spec_loLoad.f k l0_0 l0_1 a0_2 l2).bind fun t217 => (spec_loCan.j0 k l2 (decide (t217 > a0_2)) l0_0 l0_1 a0_2 l1_0 a1_1)) else (spec_loCan.j0 k l2 true l0_0 l0_1 a0_2 l1_0 a1_1)))) = some r := h
 clear h
 have HC4 := ak_ H
 clear H
 go_enter Try.func136, Try.ntmps136
 go_upto_region 1 with (first | ((with_reducible refine gate_dst (N := 3) rfl ?_); (try (refine gate_guard (by rfl) ?_; dsimp only)); refine bx_ 3 #[.slice A0_0 l0_0.length c0_0, .slice A0_1 l0_1.length c0_1, .int .i64 a0_2] 43 ?_; intro gb214 hg w5 hbox hb; have n0_ := ak_ (bs_ (bb_ HB.out) hb); have n1_ := ak_ (hbox); have n2_ := ak_ ((by rw [hg]; exact (bz_ (bb_ HB.out)) : w.heap.size ≤ gb214)); have n3_ := n2_; clear HB; have HB := n0_; have BK214 := n1_; have GW214 := n2_; have GE214 := n3_; clear n0_ n1_ n2_ n3_; clear hb hbox hg) | ((with_reducible refine gate_dst (N := 4) rfl ?_); (try (refine gate_guard (by rfl) ?_; dsimp only)); refine bx_ 4 #[.slice A1_0 l1_0.length c1_0, .bool a1_1] 115 ?_; intro gb215 hg w6 hbox hb; have n0_ := ak_ (blk_below (pk BK214.out) hb); have n1_ := ak_ (bs_ bl_ hb); have n2_ := ak_ (hbox); have n3_ := ak_ ((by rw [hg]; exact (bz_ bl_) : w.heap.size ≤ gb215)); have n4_ := n3_; have n5_ := ak_ ((by rw [hg]; exact Nat.ne_of_lt (blk_lt (pk BK214.out)) : gb214 ≠ gb215)); have n6_ := ak_ n5_.out.symm; clear BK214; clear HB; have BK214 := n0_; have HB := n1_; have BK215 := n2_; have GW215 := n3_; have GE215 := n4_; have NB214_215 := n5_; have NB215_214 := n6_; clear n0_ n1_ n2_ n3_ n4_ n5_ n6_; clear hb hbox hg))
 (try simp only [Act.put, setIfInBounds_toArray, set_cons_zero, set_cons_succ])
 go_cut [29] (fun v29 wc => ∃ (kq : Nat) (x29_3 : Bool), v29 = .bool x29_3 ∧ Aside0 (spec_loCan.j0 kq l2 x29_3 l0_0 l0_1 a0_2 l1_0 a1_1 = some r) ∧ Aside0 (kq ≤ k) ∧ Aside0 (wc.heap[gb214]? = some (.cells #[(.slice A0_0 l0_0.length c0_0), (.slice A0_1 l0_1.length c0_1), .int .i64 a0_2] 43 (0, 0))) ∧ Aside0 (wc.heap[gb215]? = some (.cells #[(.slice A1_0 l1_0.length c1_0), .bool a1_1] 115 (0, 0))) ∧ Aside0 (Below w.heap.size w wc))
 case first =>
  have H := HC4.out
  clear HC4
  by_cases c7 : (l2.length : Int) = 0
  ·
   rw [if_pos c7] at H
   have c7b0 : ((l2.length : Int) == 0) = true := beq_iff_eq.mpr c7
   have c7b1 : ((l2.length : Int) != 0) = false := bne_eq_false_iff_eq.mpr c7
   clear c7
   (first | rw [c7b0] | (simp only [i64_w, i32_w]; rw [c7b0]) | rw [c7b1] | skip)
   have H' := ak_ H
   clear H
   try go_wp2
   have n0_ := ak_ (k1_ BK214.out)
   have n1_ := ak_ (k1_ BK215.out)
   have n2_ := ak_ (b1_ HB.out)
   clear BK214 BK215 HB
   have BK214 := n0_; have BK215 := n1_; have HB := n2_
   clear n0_ n1_ n2_
   refine start_ (n := 20) (S := fun w' => True) (ds := []) (mb_ 20 0) (by kernel_rfl) rfl rfl trivial (fun hHeld => ?_); refine with_tabW spec_loCan.tab1 spec_loCan.bits1 (fun HT_ HW_ => ?_)
   generalize w6.drew = w8 at BK214 BK215 HB hHeld ⊢
   refine pu_ 0 10 20 1 ?_
   refine pu_ 1 11 20 3 ?_
   refine pu_ 2 12 20 7 ?_
   refine pu_ 3 13 20 15 ?_
   refine pure_ (i := 4) (N := some 14) (v := undef) (a' := ?_) (mb_ 20 31) rfl rfl (any_of HT_.out (by kernel_rfl)) (fun _ _ _ h => h) (Or.inr ⟨by rfl, rfl⟩) ?_ ?_
   rotate_left
   ·
    simp only [Act.put, setIfInBounds_toArray, set_cons_zero, set_cons_succ, i64_w, i32_w]
    rfl
   refine pure_ (i := 5) (N := some 15) (v := undef) (a' := ?_) (mb_ 20 63) rfl rfl (any_of HT_.out (by kernel_rfl)) (fun _ _ _ h => h) (Or.inr ⟨by rfl, rfl⟩) ?_ ?_
   rotate_left
   ·
    simp only [Act.put, setIfInBounds_toArray, set_cons_zero, set_cons_succ, i64_w, i32_w]
    rfl
   refine pure_ (i := 6) (N := some 16) (v := undef) (a' := ?_) (mb_ 20 127) rfl rfl (any_of HT_.out (by kernel_rfl)) (fun _ _ _ h => h) (Or.inr ⟨by rfl, rfl⟩) ?_ ?_
   rotate_left
   ·
    simp only [Act.put, setIfInBounds_toArray, set_cons_zero, set_cons_succ, i64_w, i32_w]
    rfl
   refine pure_ (i := 7) (N := some 17) (v := undef) (a' := ?_) (mb_ 20 255) rfl rfl (any_of HT_.out (by kernel_rfl)) (fun _ _ _ h => h) (Or.inr ⟨by rfl, rfl⟩) ?_ ?_
   rotate_left
   ·
    simp only [Act.put, setIfInBounds_toArray, set_cons_zero, set_cons_succ, i64_w, i32_w]
    rfl
   refine pure_ (i := 8) (N := some 18) (v := undef) (a' := ?_) (mb_ 20 511) rfl rfl (any_of HT_.out (by kernel_rfl)) (fun _ _ _ h => h) (Or.inr ⟨by rfl, rfl⟩) ?_ ?_
   rotate_left
   ·
    simp only [Act.put, setIfInBounds_toArray, set_cons_zero, set_cons_succ, i64_w, i32_w]
    rfl
   refine pure_ (i := 9) (N := some 19) (v := undef) (a' := ?_) (mb_ 20 1023) rfl rfl (any_of HT_.out (by kernel_rfl)) (fun _ _ _ h => h) (Or.inr ⟨by rfl, rfl⟩) ?_ ?_
   rotate_left
   ·
    simp only [Act.put, setIfInBounds_toArray, set_cons_zero, set_cons_succ, i64_w, i32_w]
    rfl
   refine pure_ (i := 10) (N := some 20) (v := undef) (a' := ?_) (mb_ 20 2047) rfl rfl (any_of HT_.out (by kernel_rfl)) (fun _ _ _ h => h) (Or.inr ⟨by rfl, rfl⟩) ?_ ?_
   rotate_left
   ·
    simp only [Act.put, setIfInBounds_toArray, set_cons_zero, set_cons_succ, i64_w, i32_w]
    rfl
   refine pu_ 11 21 20 4095 ?_
   refine pu_ 12 22 20 8191 ?_
   refine pure_ (i := 13) (N := some 23) (v := undef) (a' := ?_) (mb_ 20 16383) rfl rfl (any_of HT_.out (by kernel_rfl)) (fun _ _ _ h => h) (Or.inr ⟨by rfl, rfl⟩) ?_ ?_
   rotate_left
   ·
    simp only [Act.put, setIfInBounds_toArray, set_cons_zero, set_cons_succ, i64_w, i32_w]
    rfl
   refine pure_ (i := 14) (N := some 24) (v := undef) (a' := ?_) (mb_ 20 32767) rfl rfl (any_of HT_.out (by kernel_rfl)) (fun _ _ _ h => h) (Or.inr ⟨by rfl, rfl⟩) ?_ ?_
   rotate_left
   ·
    simp only [Act.put, setIfInBounds_toArray, set_cons_zero, set_cons_succ, i64_w, i32_w]
    rfl
   refine pure_ (i := 15) (N := some 25) (v := undef) (a' := ?_) (mb_ 20 65535) rfl rfl (any_of HT_.out (by kernel_rfl)) (fun _ _ _ h => h) (Or.inr ⟨by rfl, rfl⟩) ?_ ?_
   rotate_left
   ·
    simp only [Act.put, setIfInBounds_toArray, set_cons_zero, set_cons_succ, i64_w, i32_w]
    rfl
   refine pure_ (i := 16) (N := some 26) (v := undef) (a' := ?_) (mb_ 20 131071) rfl rfl (any_of HT_.out (by kernel_rfl)) (fun _ _ _ h => h) (Or.inr ⟨by rfl, rfl⟩) ?_ ?_
   rotate_left
   ·
    simp only [Act.put, setIfInBounds_toArray, set_cons_zero, set_cons_succ, i64_w, i32_w]
    rfl
   refine pure_ (i := 17) (N := some 27) (v := undef) (a' := ?_) (mb_ 20 262143) rfl rfl (any_of HT_.out (by kernel_rfl)) (fun _ _ _ h => h) (Or.inr ⟨by rfl, rfl⟩) ?_ ?_
   rotate_left
   ·
    simp only [Act.put, setIfInBounds_toArray, set_cons_zero, set_cons_succ, i64_w, i32_w]
    rfl
   refine pure_ (i := 18) (N := some 28) (v := undef) (a' := ?_) (mb_ 20 524287) rfl rfl (any_of HT_.out (by kernel_rfl)) (fun _ _ _ h => h) (Or.inr ⟨by rfl, rfl⟩) ?_ ?_
   rotate_left
   ·
    simp only [Act.put, setIfInBounds_toArray, set_cons_zero, set_cons_succ, i64_w, i32_w]
    rfl
   refine pu_ 19 29 20 1048575 ?_
   refine done_ (done_of HT_.out (by kernel_rfl)) ?_
   try go_wp2
   go_meet
   case rel => exact ⟨_, (true), (ry_), H', ⟨by first | omega | exact Nat.le_refl _⟩, ⟨pk BK214.out⟩, ⟨pk BK215.out⟩, ⟨by repeat (first | exact HB.out | apply ba_ | apply bN_ | apply b1_ | refine below_set ?_ (Aside0.out (by assumption)))⟩⟩
  ·
   rw [if_neg c7] at H
   have c7b0 : ((l2.length : Int) == 0) = false := beq_eq_false_iff_ne.mpr c7
   have c7b1 : ((l2.length : Int) != 0) = true := bne_iff_ne.mpr c7
   have c7b2 : ¬ (l2 = []) := fun h_ => c7 (by rw [h_]; rfl)
   (first | rw [c7b0] | (simp only [i64_w, i32_w]; rw [c7b0]) | rw [c7b1] | skip)
   replace H := Option.bind_eq_some_iff.mp H
   obtain ⟨t216, A90, H⟩ := H
   replace H : (if t216 = true then ((spec_loLoad.f k l0_0 l0_1 a0_2 l2).bind fun t217 => (spec_loCan.j0 k l2 (decide (t217 > a0_2)) l0_0 l0_1 a0_2 l1_0 a1_1)) else (spec_loCan.j0 k l2 true l0_0 l0_1 a0_2 l1_0 a1_1)) = some r := H
   have A9 := ak_ A90
   clear A90
   by_cases c10 : t216 = true
   ·
    subst c10
    have H1 : ((spec_loLoad.f k l0_0 l0_1 a0_2 l2).bind fun t217 => (spec_loCan.j0 k l2 (decide (t217 > a0_2)) l0_0 l0_1 a0_2 l1_0 a1_1)) = some r := by rw [if_pos rfl] at H; exact H
    clear H
    have H := H1
    clear H1
    replace H := Option.bind_eq_some_iff.mp H
    obtain ⟨t217, A110, H⟩ := H
    replace H : (spec_loCan.j0 k l2 (decide (t217 > a0_2)) l0_0 l0_1 a0_2 l1_0 a1_1) = some r := H
    have A11 := ak_ A110
    clear A110
    have H' := ak_ H
    clear H
    try go_wp2
    have n0_ := ak_ (k1_ BK214.out)
    have n1_ := ak_ (k1_ BK215.out)
    have n2_ := ak_ (b1_ HB.out)
    clear BK214 BK215 HB
    have BK214 := n0_; have BK215 := n1_; have HB := n2_
    clear n0_ n1_ n2_
    refine start_ (n := 20) (S := fun w' => w'.cell? ⟨gb214, 0, none⟩ = some (.slice A0_0 l0_0.length c0_0) ∧ w'.cell? ⟨gb214, 1, none⟩ = some (.slice A0_1 l0_1.length c0_1) ∧ w'.cell? ⟨gb214, 2, none⟩ = some (.int .i64 a0_2)) (ds := []) (mb_ 20 0) (by kernel_rfl) rfl rfl ⟨(blk_cell BK214.out 0).trans rfl, (blk_cell BK214.out 1).trans rfl, (blk_cell BK214.out 2).trans rfl⟩ (fun hHeld => ?_); refine with_tabW spec_loCan.tab1 spec_loCan.bits1 (fun HT_ HW_ => ?_)
    generalize w6.drew = w12 at BK214 BK215 HB hHeld ⊢
    refine pu_ 0 10 20 1 ?_
    refine pu_ 1 11 20 3 ?_
    refine pu_ 2 12 20 7 ?_
    refine pu_ 3 13 20 15 ?_
    refine pu_ 4 14 20 31 ?_
    refine pu_ 5 15 20 63 ?_
    refine tk_ 6 16 20 127 ?_ (hy := by rintro w' ⟨s0, s1, s2⟩; go_simp; with_reducible rfl)
    refine pu_ 7 17 20 255 ?_
    refine pu_ 8 18 20 511 ?_
    refine on_ 9 19 20 1023 (fun K hK => ?_)
    refine goes_ Try.func103 (by kernel_rfl) rfl #[.slice A2 l2.length c2, .int .i64 0, .int .i64 (wrap64 ((l0_0.length : Int) - 1))] (by rfl) rfl rfl (by first | rfl | (simp only [map_toArray, map_cons, map_nil]; try rfl)) ?_
    with_reducible refine (spec_l1Rising.calls k _ _ l2 0 (wrap64 ((l0_0.length : Int) - 1)) true _ ?side1 ?side2 A9.out).mono ?_
    (case side1 => repeat (first | exact (Kd.C_below HR2.out HB.out) | (with_reducible refine Kd.C_alloc ?_ _) | (with_reducible refine Kd.C_drewN ?_ _) | (with_reducible refine Kd.C_drew ?_)))
    (case side2 => exact HC2.out)
    rintro e w' ⟨rfl, ⟨nd, rfl⟩⟩
    refine ⟨_, rfl, ?_⟩
    refine hK.out _ _ ⟨(blk_cell BK214.out 0).trans rfl, (blk_cell BK214.out 1).trans rfl, (blk_cell BK214.out 2).trans rfl⟩ (fun hHeld => ?_)
    clear hK K
    refine nm_ ?_
    refine pu_ 10 20 20 2047 ?_
    refine pu_ 11 21 20 4095 ?_
    refine pu_ 12 22 20 8191 ?_
    refine pu_ 14 24 20 24575 ?_
    refine pu_ 16 26 20 90111 ?_
    refine tk_ 13 23 20 98303 ?_ (hy := by rintro w' ⟨s0, s1, s2⟩; go_simp; with_reducible rfl)
    refine tk_ 17 27 20 229375 ?_ (hy := by rintro w' ⟨s0, s1, s2⟩; go_simp; with_reducible rfl)
    refine on_ 15 25 20 262143 (fun K hK => ?_)
    refine goes_ Try.func137 (by kernel_rfl) rfl #[.agg #[.slice A0_0 l0_0.length c0_0, .slice A0_1 l0_1.length c0_1, .int .i64 a0_2], .slice A2 l2.length c2] (by rfl) rfl rfl (by first | rfl | (simp only [map_toArray, map_cons, map_nil]; try rfl)) ?_
    with_reducible refine (spec_loLoad.calls k _ _ l0_0 _ _ l0_1 a0_2 _ _ l2 t217 _ ?side1 ?side2 ?side3 ?side4 ?side5 ?side6 A11.out).mono ?_
    (case side1 => repeat (first | exact (Kd.C_below HR0_0.out bl_) | (with_reducible refine Kd.C_alloc ?_ _) | (with_reducible refine Kd.C_drewN ?_ _) | (with_reducible refine Kd.C_drew ?_)))
    (case side2 => exact HC0_0.out)
    (case side3 => repeat (first | exact (Kd.C_below HR0_1.out bl_) | (with_reducible refine Kd.C_alloc ?_ _) | (with_reducible refine Kd.C_drewN ?_ _) | (with_reducible refine Kd.C_drew ?_)))
    (case side4 => exact HC0_1.out)
    (case side5 => repeat (first | exact (Kd.C_below HR2.out bl_) | (with_reducible refine Kd.C_alloc ?_ _) | (with_reducible refine Kd.C_drewN ?_ _) | (with_reducible refine Kd.C_drew ?_)))
    (case side6 => exact HC2.out)
    rintro e w13 ⟨rfl, hb⟩
    refine ⟨_, rfl, ?_⟩
    have n0_ := ak_ (blk_below (pk BK214.out) hb)
    have n1_ := ak_ (blk_below (pk BK215.out) hb)
    have n2_ := ak_ (bs_ bl_ hb)
    clear BK214 BK215 HB
    have BK214 := n0_; have BK215 := n1_; have HB := n2_
    clear n0_ n1_ n2_
    (try clear hb)
    (try clear hb2)
    (try clear hk)
    (try clear hi)
    refine hK.out _ _ ⟨(blk_cell BK214.out 0).trans rfl, (blk_cell BK214.out 1).trans rfl, (blk_cell BK214.out 2).trans rfl⟩ (fun hHeld => ?_)
    clear hK K
    refine nm_ ?_
    refine pu_ 18 28 20 524287 ?_
    refine pu_ 19 29 20 1048575 ?_
    refine done_ (done_of HT_.out (by kernel_rfl)) ?_
    try go_wp2
    go_meet
    case rel => exact ⟨_, (decide (t217 > a0_2)), (ry_), H', ⟨by first | omega | exact Nat.le_refl _⟩, ⟨pk BK214.out⟩, ⟨pk BK215.out⟩, ⟨by repeat (first | exact HB.out | apply ba_ | apply bN_ | apply b1_ | refine below_set ?_ (Aside0.out (by assumption)))⟩⟩
   ·
    replace c10 := Bool.eq_false_iff.mpr c10
    subst c10
    have H1 : (spec_loCan.j0 k l2 true l0_0 l0_1 a0_2 l1_0 a1_1) = some r := by rw [if_neg (show ¬ (false = true) by decide)] at H; exact H
    clear H
    have H := H1
    clear H1
    have H' := ak_ H
    clear H
    try go_wp2
    have n0_ := ak_ (k1_ BK214.out)
    have n1_ := ak_ (k1_ BK215.out)
    have n2_ := ak_ (b1_ HB.out)
    clear BK214 BK215 HB
    have BK214 := n0_; have BK215 := n1_; have HB := n2_
    clear n0_ n1_ n2_
    refine start_ (n := 20) (S := fun w' => w'.cell? ⟨gb214, 0, none⟩ = some (.slice A0_0 l0_0.length c0_0) ∧ w'.cell? ⟨gb214, 1, none⟩ = some (.slice A0_1 l0_1.length c0_1) ∧ w'.cell? ⟨gb214, 2, none⟩ = some (.int .i64 a0_2)) (ds := []) (mb_ 20 0) (by kernel_rfl) rfl rfl ⟨(blk_cell BK214.out 0).trans rfl, (blk_cell BK214.out 1).trans rfl, (blk_cell BK214.out 2).trans rfl⟩ (fun hHeld => ?_); refine with_tabW spec_loCan.tab1 spec_loCan.bits1 (fun HT_ HW_ => ?_)
    generalize w6.drew = w14 at BK214 BK215 HB hHeld ⊢
    refine pu_ 0 10 20 1 ?_
    refine pu_ 1 11 20 3 ?_
    refine pu_ 2 12 20 7 ?_
    refine pu_ 3 13 20 15 ?_
    refine pu_ 4 14 20 31 ?_
    refine pu_ 5 15 20 63 ?_
    refine tk_ 6 16 20 127 ?_ (hy := by rintro w' ⟨s0, s1, s2⟩; go_simp; with_reducible rfl)
    refine pu_ 7 17 20 255 ?_
    refine pu_ 8 18 20 511 ?_
    refine on_ 9 19 20 1023 (fun K hK => ?_)
    refine goes_ Try.func103 (by kernel_rfl) rfl #[.slice A2 l2.length c2, .int .i64 0, .int .i64 (wrap64 ((l0_0.length : Int) - 1))] (by rfl) rfl rfl (by first | rfl | (simp only [map_toArray, map_cons, map_nil]; try rfl)) ?_
    with_reducible refine (spec_l1Rising.calls k _ _ l2 0 (wrap64 ((l0_0.length : Int) - 1)) false _ ?side1 ?side2 A9.out).mono ?_
    (case side1 => repeat (first | exact (Kd.C_below HR2.out HB.out) | (with_reducible refine Kd.C_alloc ?_ _) | (with_reducible refine Kd.C_drewN ?_ _) | (with_reducible refine Kd.C_drew ?_)))
    (case side2 => exact HC2.out)
    rintro e w' ⟨rfl, ⟨nd, rfl⟩⟩
    refine ⟨_, rfl, ?_⟩
    refine hK.out _ _ ⟨(blk_cell BK214.out 0).trans rfl, (blk_cell BK214.out 1).trans rfl, (blk_cell BK214.out 2).trans rfl⟩ (fun hHeld => ?_)
    clear hK K
    refine nm_ ?_
    refine pu_ 10 20 20 2047 ?_
    refine pu_ 11 21 20 4095 ?_
    refine pu_ 12 22 20 8191 ?_
    refine pure_ (i := 13) (N := some 23) (v := undef) (a' := ?_) (mb_ 20 16383) rfl rfl (any_of HT_.out (by kernel_rfl)) (fun _ _ _ h => h) (Or.inr ⟨by rfl, rfl⟩) ?_ ?_
    rotate_left
    ·
     simp only [Act.put, setIfInBounds_toArray, set_cons_zero, set_cons_succ, i64_w, i32_w]
     rfl
    refine pure_ (i := 14) (N := some 24) (v := undef) (a' := ?_) (mb_ 20 32767) rfl rfl (any_of HT_.out (by kernel_rfl)) (fun _ _ _ h => h) (Or.inr ⟨by rfl, rfl⟩) ?_ ?_
    rotate_left
    ·
     simp only [Act.put, setIfInBounds_toArray, set_cons_zero, set_cons_succ, i64_w, i32_w]
     rfl
    refine pure_ (i := 15) (N := some 25) (v := undef) (a' := ?_) (mb_ 20 65535) rfl rfl (any_of HT_.out (by kernel_rfl)) (fun _ _ _ h => h) (Or.inr ⟨by rfl, rfl⟩) ?_ ?_
    rotate_left
    ·
     simp only [Act.put, setIfInBounds_toArray, set_cons_zero, set_cons_succ, i64_w, i32_w]
     rfl
    refine pure_ (i := 16) (N := some 26) (v := undef) (a' := ?_) (mb_ 20 131071) rfl rfl (any_of HT_.out (by kernel_rfl)) (fun _ _ _ h => h) (Or.inr ⟨by rfl, rfl⟩) ?_ ?_
    rotate_left
    ·
     simp only [Act.put, setIfInBounds_toArray, set_cons_zero, set_cons_succ, i64_w, i32_w]
     rfl
    refine pure_ (i := 17) (N := some 27) (v := undef) (a' := ?_) (mb_ 20 262143) rfl rfl (any_of HT_.out (by kernel_rfl)) (fun _ _ _ h => h) (Or.inr ⟨by rfl, rfl⟩) ?_ ?_
    rotate_left
    ·
     simp only [Act.put, setIfInBounds_toArray, set_cons_zero, set_cons_succ, i64_w, i32_w]
     rfl
    refine pure_ (i := 18) (N := some 28) (v := undef) (a' := ?_) (mb_ 20 524287) rfl rfl (any_of HT_.out (by kernel_rfl)) (fun _ _ _ h => h) (Or.inr ⟨by rfl, rfl⟩) ?_ ?_
    rotate_left
    ·
     simp only [Act.put, setIfInBounds_toArray, set_cons_zero, set_cons_succ, i64_w, i32_w]
     rfl
    refine pu_ 19 29 20 1048575 ?_
    refine done_ (done_of HT_.out (by kernel_rfl)) ?_
    try go_wp2
    go_meet
    case rel => exact ⟨_, (true), (ry_), H', ⟨by first | omega | exact Nat.le_refl _⟩, ⟨pk BK214.out⟩, ⟨pk BK215.out⟩, ⟨by repeat (first | exact HB.out | apply ba_ | apply bN_ | apply b1_ | refine below_set ?_ (Aside0.out (by assumption)))⟩⟩
 case rest =>
  clear HC4
  try clear c1
  try clear c2
  try clear p2
  try clear p6
  try clear c7
  try clear c7b0
  try clear c7b1
  try clear c7b2
  try clear c10
  try clear c13
  obtain ⟨kq, x29_3, rfl, HA, HJ3, BK214, BK215, HB⟩ := hcut
  cases kq with
  | zero => exact absurd HA.out (by simp [spec_loCan.j0])
  | succ kj3 =>
   have H := HA.out
   clear HA
   simp only [spec_loCan.j0] at H
   by_cases c15 : x29_3 = true
   ·
    subst c15
    have H1 : (some false) = some r := by rw [if_pos rfl] at H; exact H
    clear H
    have H := H1
    clear H1
    obtain rfl := Option.some.inj H
    go_wp2
    go_ret
    exact ⟨rx_, by repeat (first | exact HB.out | apply ba_ | apply bN_ | apply b1_ | refine below_set ?_ (Aside0.out (by assumption)))⟩
   ·
    replace c15 := Bool.eq_false_iff.mpr c15
    subst c15
    have H1 : (spec_loCan.l0 kj3 false l2 (l2.length : Int) 0 l0_0 l0_1 a0_2 l1_0 a1_1) = some r := by rw [if_neg (show ¬ (false = true) by decide)] at H; exact H
    clear H
    have H := H1
    clear H1
    have H' := ak_ H
    clear H
    go_wp2
    go_loopg [7, 32] kj3 (fun kq v7 v32 w' => ∃ (x7_2 : Bool) (x32_2 : Int), v7 = .bool x7_2 ∧ v32 = .int .i64 x32_2 ∧ Aside0 (spec_loCan.l0 kq x7_2 l2 (l2.length : Int) x32_2 l0_0 l0_1 a0_2 l1_0 a1_1 = some r) ∧ Aside0 (kq ≤ kj3) ∧ Aside0 (w'.heap[gb214]? = some (.cells #[(.slice A0_0 l0_0.length c0_0), (.slice A0_1 l0_1.length c0_1), .int .i64 a0_2] 43 (0, 0))) ∧ Aside0 (w'.heap[gb215]? = some (.cells #[(.slice A1_0 l1_0.length c1_0), .bool a1_1] 115 (0, 0))) ∧ Aside0 (Below w.heap.size w w'))
    case atStart => exact ⟨(false), (0), (ry_), (ry_), H', ⟨Nat.le_refl _⟩, ⟨pk BK214.out⟩, ⟨pk BK215.out⟩, ⟨by repeat (first | exact HB.out | apply ba_ | apply bN_ | apply b1_ | refine below_set ?_ (Aside0.out (by assumption)))⟩⟩
    case round =>
     clear H'
     try clear c1
     try clear c2
     try clear p2
     try clear p6
     try clear c7
     try clear c7b0
     try clear c7b1
     try clear c7b2
     try clear c10
     try clear c13
     try clear c15
     try clear p2
     try clear p6
     obtain ⟨x7_2, x32_2, rfl, rfl, HA, HK2, BK214, BK215, HB⟩ := hrel
     cases gk with
     | zero => exact absurd HA.out (by simp [spec_loCan.l0])
     | succ k2 =>
      have H := HA.out
      clear HA
      simp only [spec_loCan.l0] at H
      by_cases c16 : x32_2 < (l2.length : Int)
      ·
       rw [if_pos c16] at H
       have c16b0 : decide (x32_2 < (l2.length : Int)) = true := decide_eq_true c16
       clear c16
       by_cases c17 : 0 ≤ x32_2
       ·
        rw [if_pos c17] at H
        have c17b0 : decide (0 ≤ x32_2) = true := decide_eq_true c17
        clear c17
        by_cases c18 : x32_2 < (l2.length : Int)
        ·
         rw [if_pos c18] at H
         have c18b0 : decide (x32_2 < (l2.length : Int)) = true := decide_eq_true c18
         clear c18
         by_cases c19 : 0 ≤ (rd l2 x32_2)
         ·
          rw [if_pos c19] at H
          have c19b0 : decide (0 ≤ (rd l2 x32_2)) = true := decide_eq_true c19
          clear c19
          by_cases c20 : (rd l2 x32_2) < (l1_0.length : Int)
          ·
           rw [if_pos c20] at H
           have c20b0 : decide ((rd l2 x32_2) < (l1_0.length : Int)) = true := decide_eq_true c20
           clear c20
           by_cases c21 : ((rdOf false l1_0 (rd l2 x32_2)) != a1_1) = true
           ·
            rw [if_pos c21] at H
            have c21b0 : ((rdOf false l1_0 (rd l2 x32_2)) != a1_1) = true := c21
            (try (have c21b1 : decide ((rdOf false l1_0 (rd l2 x32_2)) = a1_1) = false := by simpa using c21))
            (try (have c21b2 : ((rdOf false l1_0 (rd l2 x32_2)) == a1_1) = false := by simpa using c21))
            (try (have c21b3 : ¬ ((rdOf false l1_0 (rd l2 x32_2)) = a1_1) := by simpa using c21))
            clear c21
            obtain rfl := Option.some.inj H
            have p218 : 0 ≤ (x32_2 : Int) := odt_ (by assumption)
            have q218 : x32_2 < (l2.length : Int) := odt_ (by assumption)
            obtain ⟨ad218, e218, hx218_0⟩ := Kd.at_int HR2.out x32_2 p218 q218
            cases e218
            try replace hx218_0 := (HB.out.cell (World.block_lt_of_cell? w _ hx218_0)).trans hx218_0
            replace p218 := eq_true p218
            replace q218 := eq_true q218
            try go_wp2
            have n0_ := ak_ (k1_ BK214.out)
            have n1_ := ak_ (k1_ BK215.out)
            have n2_ := ak_ (b1_ HB.out)
            clear BK214 BK215 HB
            have BK214 := n0_; have BK215 := n1_; have HB := n2_
            clear n0_ n1_ n2_
            have p219 : 0 ≤ ((rd l2 x32_2) : Int) := odt_ (by assumption)
            have q219 : (rd l2 x32_2) < (l1_0.length : Int) := odt_ (by assumption)
            obtain ⟨ad219, e219, hx219_0⟩ := Kd.at_bool HR1_0.out (rd l2 x32_2) p219 q219
            have hw219_0 := hx219_0
            cases e219
            try replace hx219_0 := (HB.out.cell (World.block_lt_of_cell? w _ hx219_0)).trans hx219_0
            replace p219 := eq_true p219
            replace q219 := eq_true q219
            refine start_ (n := 8) (S := fun w' => w'.cell? ⟨gb215, 0, none⟩ = some (.slice (some ad219) l1_0.length c1_0) ∧ w'.cell? ⟨gb215, 1, none⟩ = some (.bool a1_1) ∧ w'.cell? (ad219.add ((rd l2 x32_2)).toNat) = some (.bool (rdOf false l1_0 (rd l2 x32_2)))) (ds := []) (mb_ 8 0) (by kernel_rfl) rfl rfl ⟨(blk_cell BK215.out 0).trans rfl, (blk_cell BK215.out 1).trans rfl, ((HB.out.cell (World.block_lt_of_cell? w _ hw219_0)).trans hw219_0)⟩ (fun hHeld => ?_); refine with_tabW spec_loCan.tab7 spec_loCan.bits7 (fun HT_ HW_ => ?_)
            generalize wr.drew = w22 at BK214 BK215 HB hx219_0 hHeld ⊢
            refine pu_ 0 36 8 1 ?_
            refine pu_ 2 38 8 5 ?_
            refine pu_ 5 41 8 37 ?_
            refine tk_ 1 37 8 39 ?_ (hy := by rintro w' ⟨s0, s1, s2⟩; go_simp; with_reducible rfl)
            refine pu_ 3 39 8 47 ?_
            refine tk_ 4 40 8 63 ?_ (hy := by rintro w' ⟨s0, s1, s2⟩; go_simp; with_reducible rfl)
            refine tk_ 6 42 8 127 ?_ (hy := by rintro w' ⟨s0, s1, s2⟩; go_simp; with_reducible rfl)
            refine pu_ 7 43 8 255 ?_
            refine done_ (done_of HT_.out (by kernel_rfl)) ?_
            try go_wp2
            go_ret
            exact ⟨rx_, by repeat (first | exact HB.out | apply ba_ | apply bN_ | apply b1_ | refine below_set ?_ (Aside0.out (by assumption)))⟩
           ·
            rw [if_neg c21] at H
            have c21b0 : ((rdOf false l1_0 (rd l2 x32_2)) != a1_1) = false := by simpa using c21
            (try (have c21b1 : decide ((rdOf false l1_0 (rd l2 x32_2)) = a1_1) = true := by simpa using c21))
            (try (have c21b2 : ((rdOf false l1_0 (rd l2 x32_2)) == a1_1) = true := by simpa using c21))
            clear c21
            by_cases c23 : x7_2 = true
            ·
             subst c23
             have H1 : (spec_loCan.l0 k2 true l2 (l2.length : Int) (wrap64 (x32_2 + 1)) l0_0 l0_1 a0_2 l1_0 a1_1) = some r := by rw [if_pos rfl] at H; exact H
             clear H
             have H := H1
             clear H1
             have H' := ak_ H
             clear H
             have p218 : 0 ≤ (x32_2 : Int) := odt_ (by assumption)
             have q218 : x32_2 < (l2.length : Int) := odt_ (by assumption)
             obtain ⟨ad218, e218, hx218_0⟩ := Kd.at_int HR2.out x32_2 p218 q218
             cases e218
             try replace hx218_0 := (HB.out.cell (World.block_lt_of_cell? w _ hx218_0)).trans hx218_0
             replace p218 := eq_true p218
             replace q218 := eq_true q218
             try go_wp2
             have n0_ := ak_ (k1_ BK214.out)
             have n1_ := ak_ (k1_ BK215.out)
             have n2_ := ak_ (b1_ HB.out)
             clear BK214 BK215 HB
             have BK214 := n0_; have BK215 := n1_; have HB := n2_
             clear n0_ n1_ n2_
             have p219 : 0 ≤ ((rd l2 x32_2) : Int) := odt_ (by assumption)
             have q219 : (rd l2 x32_2) < (l1_0.length : Int) := odt_ (by assumption)
             obtain ⟨ad219, e219, hx219_0⟩ := Kd.at_bool HR1_0.out (rd l2 x32_2) p219 q219
             have hw219_0 := hx219_0
             cases e219
             try replace hx219_0 := (HB.out.cell (World.block_lt_of_cell? w _ hx219_0)).trans hx219_0
             replace p219 := eq_true p219
             replace q219 := eq_true q219
             refine start_ (n := 8) (S := fun w' => w'.cell? ⟨gb215, 0, none⟩ = some (.slice (some ad219) l1_0.length c1_0) ∧ w'.cell? ⟨gb215, 1, none⟩ = some (.bool a1_1) ∧ w'.cell? (ad219.add ((rd l2 x32_2)).toNat) = some (.bool (rdOf false l1_0 (rd l2 x32_2)))) (ds := []) (mb_ 8 0) (by kernel_rfl) rfl rfl ⟨(blk_cell BK215.out 0).trans rfl, (blk_cell BK215.out 1).trans rfl, ((HB.out.cell (World.block_lt_of_cell? w _ hw219_0)).trans hw219_0)⟩ (fun hHeld => ?_); refine with_tabW spec_loCan.tab7 spec_loCan.bits7 (fun HT_ HW_ => ?_)
             generalize wr.drew = w24 at BK214 BK215 HB hx219_0 hHeld ⊢
             refine pu_ 0 36 8 1 ?_
             refine pu_ 2 38 8 5 ?_
             refine pu_ 5 41 8 37 ?_
             refine tk_ 1 37 8 39 ?_ (hy := by rintro w' ⟨s0, s1, s2⟩; go_simp; with_reducible rfl)
             refine pu_ 3 39 8 47 ?_
             refine tk_ 4 40 8 63 ?_ (hy := by rintro w' ⟨s0, s1, s2⟩; go_simp; with_reducible rfl)
             refine tk_ 6 42 8 127 ?_ (hy := by rintro w' ⟨s0, s1, s2⟩; go_simp; with_reducible rfl)
             refine pu_ 7 43 8 255 ?_
             refine done_ (done_of HT_.out (by kernel_rfl)) ?_
             try go_wp2
             go_roundg k2
             case measure => have := HJ3.out; have := HK2.out; omega
             case rel => exact ⟨(true), (wrap64 (x32_2 + 1)), (ry_), (ry_), H', ⟨by have := HJ3.out; have := HK2.out; omega⟩, ⟨pk BK214.out⟩, ⟨pk BK215.out⟩, ⟨by repeat (first | exact HB.out | apply ba_ | apply bN_ | apply b1_ | refine below_set ?_ (Aside0.out (by assumption)))⟩⟩
            ·
             replace c23 := Bool.eq_false_iff.mpr c23
             subst c23
             have H1 : (if (rd l2 x32_2) < (l0_1.length : Int) then (spec_loCan.l0 k2 (rdOf false l0_1 (rd l2 x32_2)) l2 (l2.length : Int) (wrap64 (x32_2 + 1)) l0_0 l0_1 a0_2 l1_0 a1_1) else (none)) = some r := by rw [if_neg (show ¬ (false = true) by decide)] at H; exact H
             clear H
             have H := H1
             clear H1
             by_cases c25 : (rd l2 x32_2) < (l0_1.length : Int)
             ·
              rw [if_pos c25] at H
              have c25b0 : decide ((rd l2 x32_2) < (l0_1.length : Int)) = true := decide_eq_true c25
              clear c25
              have H' := ak_ H
              clear H
              have p218 : 0 ≤ (x32_2 : Int) := odt_ (by assumption)
              have q218 : x32_2 < (l2.length : Int) := odt_ (by assumption)
              obtain ⟨ad218, e218, hx218_0⟩ := Kd.at_int HR2.out x32_2 p218 q218
              cases e218
              try replace hx218_0 := (HB.out.cell (World.block_lt_of_cell? w _ hx218_0)).trans hx218_0
              replace p218 := eq_true p218
              replace q218 := eq_true q218
              try go_wp2
              have n0_ := ak_ (k1_ BK214.out)
              have n1_ := ak_ (k1_ BK215.out)
              have n2_ := ak_ (b1_ HB.out)
              clear BK214 BK215 HB
              have BK214 := n0_; have BK215 := n1_; have HB := n2_
              clear n0_ n1_ n2_
              have p219 : 0 ≤ ((rd l2 x32_2) : Int) := odt_ (by assumption)
              have q219 : (rd l2 x32_2) < (l1_0.length : Int) := odt_ (by assumption)
              obtain ⟨ad219, e219, hx219_0⟩ := Kd.at_bool HR1_0.out (rd l2 x32_2) p219 q219
              have hw219_0 := hx219_0
              cases e219
              try replace hx219_0 := (HB.out.cell (World.block_lt_of_cell? w _ hx219_0)).trans hx219_0
              replace p219 := eq_true p219
              replace q219 := eq_true q219
              refine start_ (n := 8) (S := fun w' => w'.cell? ⟨gb215, 0, none⟩ = some (.slice (some ad219) l1_0.length c1_0) ∧ w'.cell? ⟨gb215, 1, none⟩ = some (.bool a1_1) ∧ w'.cell? (ad219.add ((rd l2 x32_2)).toNat) = some (.bool (rdOf false l1_0 (rd l2 x32_2)))) (ds := []) (mb_ 8 0) (by kernel_rfl) rfl rfl ⟨(blk_cell BK215.out 0).trans rfl, (blk_cell BK215.out 1).trans rfl, ((HB.out.cell (World.block_lt_of_cell? w _ hw219_0)).trans hw219_0)⟩ (fun hHeld => ?_); refine with_tabW spec_loCan.tab7 spec_loCan.bits7 (fun HT_ HW_ => ?_)
              generalize wr.drew = w26 at BK214 BK215 HB hx219_0 hHeld ⊢
              refine pu_ 0 36 8 1 ?_
              refine pu_ 2 38 8 5 ?_
              refine pu_ 5 41 8 37 ?_
              refine tk_ 1 37 8 39 ?_ (hy := by rintro w' ⟨s0, s1, s2⟩; go_simp; with_reducible rfl)
              refine pu_ 3 39 8 47 ?_
              refine tk_ 4 40 8 63 ?_ (hy := by rintro w' ⟨s0, s1, s2⟩; go_simp; with_reducible rfl)
              refine tk_ 6 42 8 127 ?_ (hy := by rintro w' ⟨s0, s1, s2⟩; go_simp; with_reducible rfl)
              refine pu_ 7 43 8 255 ?_
              refine done_ (done_of HT_.out (by kernel_rfl)) ?_
              have hnb27 := NB214_215.out
              have hnc27 := NB215_214.out
              have hcz28_0 : w26.cell? ⟨gb214, 0, none⟩ = some (.slice A0_0 l0_0.length c0_0) := (blk_cell BK214.out 0).trans rfl
              have hcz28_1 : w26.cell? ⟨gb214, 1, none⟩ = some (.slice A0_1 l0_1.length c0_1) := (blk_cell BK214.out 1).trans rfl
              have hcz28_2 : w26.cell? ⟨gb214, 2, none⟩ = some (.int .i64 a0_2) := (blk_cell BK214.out 2).trans rfl
              have hfz28_0 := blk_frozen BK214.out 0
              have hfz28_1 := blk_frozen BK214.out 1
              have hfz28_2 := blk_frozen BK214.out 2
              have p220 : 0 ≤ ((rd l2 x32_2) : Int) := odt_ (by assumption)
              have q220 : (rd l2 x32_2) < (l0_1.length : Int) := odt_ (by assumption)
              obtain ⟨ad220, e220, hx220_0⟩ := Kd.at_bool HR0_1.out (rd l2 x32_2) p220 q220
              cases e220
              try replace hx220_0 := (HB.out.cell (World.block_lt_of_cell? w _ hx220_0)).trans hx220_0
              replace p220 := eq_true p220
              replace q220 := eq_true q220
              try go_wp2
              go_roundg k2
              case measure => have := HJ3.out; have := HK2.out; omega
              case rel => exact ⟨(rdOf false l0_1 (rd l2 x32_2)), (wrap64 (x32_2 + 1)), (ry_), (ry_), H', ⟨by have := HJ3.out; have := HK2.out; omega⟩, ⟨pk BK214.out⟩, ⟨pk BK215.out⟩, ⟨by repeat (first | exact HB.out | apply ba_ | apply bN_ | apply b1_ | refine below_set ?_ (Aside0.out (by assumption)))⟩⟩
             ·
              rw [if_neg c25] at H
              exact absurd H (by simp)
          ·
           rw [if_neg c20] at H
           exact absurd H (by simp)
         ·
          rw [if_neg c19] at H
          exact absurd H (by simp)
        ·
         rw [if_neg c18] at H
         exact absurd H (by simp)
       ·
        rw [if_neg c17] at H
        exact absurd H (by simp)
      ·
       rw [if_neg c16] at H
       have c16b0 : decide (x32_2 < (l2.length : Int)) = false := decide_eq_false c16
       clear c16
       obtain rfl := Option.some.inj H
       go_wp2
       go_ret
       exact ⟨rx_, by repeat (first | exact HB.out | apply ba_ | apply bN_ | apply b1_ | refine below_set ?_ (Aside0.out (by assumption)))⟩
end Go.Proofs.Ythkchdfkeieabaa.QGr
