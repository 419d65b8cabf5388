/- Contracts of functions of the given program, walked: each call returns what its Lean function says. Conditions: those that stand at each theorem. (Written by a program of this session.) -/
import Derived.Test.YtmdbhpbogbekmaaQNtx0
import Derived.Test.YtmdbhpbogbekmaaQNtx6
import Derived.Test.YtmdbhpbogbekmaaQNtx8
namespace Go.Proofs.Ytmdbhpbogbekmaa.QNt
open Go.RowKit Go.Proofs.YtmdbhpbogbekmaaW.PrintWords Go.Proofs.YtmdbhpbogbekmaaW.PrintLast Go.Proofs.YtmdbhpbogbekmaaW.PrintMore
open List (setIfInBounds_toArray set_cons_zero set_cons_succ map_toArray map_cons map_nil)
attribute [local go_sem] max2_int min2_int max_two min_two max_three min_three max_four min_four
set_option linter.unusedVariables false
set_option maxHeartbeats 8000000
set_option maxRecDepth 100000
set_option linter.unusedSimpArgs false
def impl_Night_together.f (k : Nat) (l0_0 : List Int) (a0_1 : Int) (a0_2 : Int) (l1_0 : List Bool) (a1_1 : Int) (l2 : List Int) (l3 : List Int) : Option (Bool) := if 0 < (l2.length : Int) then (if 0 ≤ (rd l2 0) then (if (rd l2 0) < (l1_0.length : Int) then ((impl_share.f k l2 l3).bind fun t346 => (if t346 = true then (some false) else (if 0 < (l3.length : Int) then (if 0 ≤ (rd l3 0) then (if (rd l3 0) < (l1_0.length : Int) then (if ((rdOf false l1_0 (rd l2 0)) != (rdOf false l1_0 (rd l3 0))) = true then (some true) else ((impl_Night_torches.f l0_0 a0_1 a0_2 l1_0 a1_1 (rdOf false l1_0 (rd l2 0))).bind fun t349 => (some (decide (t349 > 1))))) else (none)) else (none)) else (none)))) else (none)) else (none)) else (none)
def impl_Night_together.T1 : Bool × List (List Nat × List Nat) := (true, [([], []), ([0], [0]), ([], []), ([2], [2]), ([3], [3]), ([1, 4], [1, 4]), ([5], [5]), ([6, 0, 1, 2, 3, 4, 5, 6], [6])])
def impl_Night_together.B1 : List Nat := [0, 1, 0, 4, 12, 31, 63, 127]
theorem impl_Night_together.tab1 : rtab .any (opsOf Try.f71 1) = impl_Night_together.T1 := by kernel_rfl
theorem impl_Night_together.bits1 : waitsOk impl_Night_together.T1.2 impl_Night_together.B1 = true := by kernel_rfl
def impl_Night_together.T2 : Bool × List (List Nat × List Nat) := (true, [([], []), ([], []), ([0, 1], [0, 1]), ([2], [2]), ([3, 2], [3]), ([4], [4]), ([4], [4]), ([6, 4], [4, 6]), ([4], [4]), ([8, 4], [4, 8]), ([9, 4], [4, 9]), ([7, 10, 4], [4, 7, 10]), ([11, 4], [4, 11]), ([5, 12, 4], [4, 5, 12]), ([13, 4, 4], [4, 13]), ([14], [14]), ([14], [14]), ([14], [14]), ([15, 16, 17, 14, 14], [14, 15, 16, 17]), ([18, 14], [14, 18]), ([14, 19, 4], [4, 14, 19]), ([4, 20], [4, 20]), ([21, 18, 0, 1, 2, 3, 4, 5, 6, 7, 8, 9, 10, 11, 12, 13, 14, 15, 16, 17, 18, 19, 20, 21], [21])])
def impl_Night_together.B2 : List Nat := [0, 0, 3, 7, 15, 31, 31, 95, 31, 287, 799, 2015, 4063, 8191, 16383, 32767, 32767, 32767, 262143, 524287, 1048575, 2097151, 4194303]
theorem impl_Night_together.tab2 : rtab .any (opsOf Try.f71 2) = impl_Night_together.T2 := by kernel_rfl
theorem impl_Night_together.bits2 : waitsOk impl_Night_together.T2.2 impl_Night_together.B2 = true := by kernel_rfl
theorem impl_Night_together.calls (k : Nat) (A0_0 : Option Addr) (c0_0 : Nat) (l0_0 : List Int) (a0_1 : Int) (a0_2 : Int) (A1_0 : Option Addr) (c1_0 : Nat) (l1_0 : List Bool) (a1_1 : Int) (A2 : Option Addr) (c2 : Nat) (l2 : List Int) (A3 : Option Addr) (c3 : Nat) (l3 : List Int) (r : Bool) (w : World) (hr0_0 : Kd.C (Kd.int .i64) w A0_0 l0_0.length l0_0) (hc0_0 : l0_0.length ≤ c0_0) (hr1_0 : Kd.C Kd.bool w A1_0 l1_0.length l1_0) (hc1_0 : l1_0.length ≤ c1_0) (hr2 : Kd.C (Kd.int .i64) w A2 l2.length l2) (hc2 : l2.length ≤ c2) (hr3 : Kd.C (Kd.int .i64) w A3 l3.length l3) (hc3 : l3.length ≤ c3) (h : impl_Night_together.f k l0_0 a0_1 a0_2 l1_0 a1_1 l2 l3 = some r) :
  Calls Try.prog 71 #[.agg #[.slice A0_0 l0_0.length c0_0, .int .i64 a0_1, .int .i64 a0_2], .agg #[.slice A1_0 l1_0.length c1_0, .int .i64 a1_1], .slice A2 l2.length c2, .slice A3 l3.length c3] w fun e w' => e = .returned (.bool r) ∧ Below w.heap.size w w' := by
 have hu33 := Try.underlying33
 have hu35 := Try.underlying35
 have HR0_0 := ak_ hr0_0
 have HC0_0 := ak_ hc0_0
 clear hr0_0 hc0_0
 have HR1_0 := ak_ hr1_0
 have HC1_0 := ak_ hc1_0
 clear hr1_0 hc1_0
 have HR2 := ak_ hr2
 have HC2 := ak_ hc2
 clear hr2 hc2
 have HR3 := ak_ hr3
 have HC3 := ak_ hc3
 clear hr3 hc3
 have HB := ak_ (Below.refl w.heap.size w)
 have H : (if 0 < (l2.length : Int) then (if 0 ≤ (rd l2 0) then (if (rd l2 0) < (l1_0.length : Int) then ((impl_share.f k l2 l3).bind fun t346 => (if t346 = true then (some false) else (if 0 < (l3.length : Int) then (if 0 ≤ (rd l3 0) then (if (rd l3 0) < (l1_0.length : Int) then (if ((rdOf false l1_0 (rd l2 0)) != (rdOf false l1_0 (rd l3 0))) = true then (some true) else ((impl_Night_torches.f l0_0 a0_1 a0_2 l1_0 a1_1 (rdOf false l1_0 (rd l2 0))).bind fun t349 => (some (decide (t349 > 1))))) else (none)) else (none)) else (none)))) else (none)) else (none)) else (none)) = some r := h
 clear h
 by_cases c5 : 0 < (l2.length : Int)
 ·
  rw [if_pos c5] at H
  have c5b0 : decide (0 < (l2.length : Int)) = true := decide_eq_true c5
  have c5b1 : decide (0 < l2.length) = true := decide_eq_true (by omega)
  clear c5
  by_cases c6 : 0 ≤ (rd l2 0)
  ·
   rw [if_pos c6] at H
   have c6b0 : decide (0 ≤ (rd l2 0)) = true := decide_eq_true c6
   clear c6
   by_cases c7 : (rd l2 0) < (l1_0.length : Int)
   ·
    rw [if_pos c7] at H
    have c7b0 : decide ((rd l2 0) < (l1_0.length : Int)) = true := decide_eq_true c7
    clear c7
    have HC8 := ak_ H
    clear H
    go_enter Try.func71, Try.ntmps71
    try go_wp2_with (first | ((with_reducible refine gate_dst (N := 4) rfl ?_); refine bx_ 4 #[.slice A0_0 l0_0.length c0_0, .int .i64 a0_1, .int .i64 a0_2] 33 ?_; intro gb342 hg w9 hbox hb; have n0_ := ak_ (bs_ (bb_ HB.out) hb); have n1_ := ak_ (hbox); have n2_ := ak_ ((by rw [hg]; exact (bz_ (bb_ HB.out)) : w.heap.size ≤ gb342)); have n3_ := n2_; clear HB; have HB := n0_; have BK342 := n1_; have GW342 := n2_; have GE342 := n3_; clear n0_ n1_ n2_ n3_; clear hb hbox hg) | ((with_reducible refine gate_dst (N := 5) rfl ?_); refine bx_ 5 #[.slice A1_0 l1_0.length c1_0, .int .i64 a1_1] 35 ?_; intro gb343 hg w10 hbox hb; have n0_ := ak_ (blk_below (pk BK342.out) hb); have n1_ := ak_ (bs_ bl_ hb); have n2_ := ak_ (hbox); have n3_ := ak_ ((by rw [hg]; exact (bz_ bl_) : w.heap.size ≤ gb343)); have n4_ := n3_; have n5_ := ak_ ((by rw [hg]; exact Nat.ne_of_lt (blk_lt (pk BK342.out)) : gb342 ≠ gb343)); have n6_ := ak_ n5_.out.symm; clear BK342; clear HB; have BK342 := n0_; have HB := n1_; have BK343 := n2_; have GW343 := n3_; have GE343 := n4_; have NB342_343 := n5_; have NB343_342 := n6_; clear n0_ n1_ n2_ n3_ n4_ n5_ n6_; clear hb hbox hg))
    have n0_ := ak_ (k1_ BK342.out)
    have n1_ := ak_ (k1_ BK343.out)
    have n2_ := ak_ (b1_ HB.out)
    clear BK342 BK343 HB
    have BK342 := n0_; have BK343 := n1_; have HB := n2_
    clear n0_ n1_ n2_
    have p344 : 0 ≤ (0 : Int) := (by omega)
    have q344 : 0 < (l2.length : Int) := odt_ (by assumption)
    obtain ⟨ad344, e344, hx344_0⟩ := Kd.at_int HR2.out 0 p344 q344
    have hw344_0 := hx344_0
    (try rw [show ((0 : Int)).toNat = 0 from rfl] at hw344_0)
    (try rw [show 0 * 1 = 0 from rfl] at hw344_0)
    (try rw [Addr.add_zero'] at hw344_0)
    cases e344
    have qi344 : (0 < l2.length) = True := eq_true (by omega)
    (try rw [show ((0 : Int)).toNat = 0 from rfl] at hx344_0)
    (try rw [Addr.add_zero'] at hx344_0)
    try replace hx344_0 := (HB.out.cell (World.block_lt_of_cell? w _ hx344_0)).trans hx344_0
    replace p344 := eq_true p344
    replace q344 := eq_true q344
    have p345 : 0 ≤ ((rd l2 0) : Int) := odt_ (by assumption)
    have q345 : (rd l2 0) < (l1_0.length : Int) := odt_ (by assumption)
    obtain ⟨ad345, e345, hx345_0⟩ := Kd.at_bool HR1_0.out (rd l2 0) p345 q345
    have hw345_0 := hx345_0
    cases e345
    try replace hx345_0 := (HB.out.cell (World.block_lt_of_cell? w _ hx345_0)).trans hx345_0
    replace p345 := eq_true p345
    replace q345 := eq_true q345
    refine start_ (n := 8) (S := fun w' => w'.cell? ⟨gb343, 0, none⟩ = some (.slice (some ad345) l1_0.length c1_0) ∧ w'.cell? ⟨gb343, 1, none⟩ = some (.int .i64 a1_1) ∧ w'.cell? ad344 = some (.int .i64 (rd l2 0)) ∧ w'.cell? (ad345.add ((rd l2 0)).toNat) = some (.bool (rdOf false l1_0 (rd l2 0)))) (ds := []) (mb_ 8 0) (by kernel_rfl) rfl rfl ⟨(blk_cell BK343.out 0).trans rfl, (blk_cell BK343.out 1).trans rfl, ((HB.out.cell (World.block_lt_of_cell? w _ hw344_0)).trans hw344_0), ((HB.out.cell (World.block_lt_of_cell? w _ hw345_0)).trans hw345_0)⟩ (fun hHeld => ?_); refine with_tabW impl_Night_together.tab1 impl_Night_together.bits1 (fun HT_ HW_ => ?_)
    generalize w10.drew = w11 at BK342 BK343 HB hx344_0 hx345_0 hHeld ⊢
    refine pu_ 0 10 8 1 ?_
    refine pu_ 2 12 8 5 ?_
    refine pu_ 3 13 8 13 ?_
    refine tk_ 1 11 8 15 ?_ (hy := by rintro w' ⟨s0, s1, s2, s3⟩; go_simp; with_reducible rfl)
    refine tk_ 4 14 8 31 ?_ (hy := by rintro w' ⟨s0, s1, s2, s3⟩; go_simp; with_reducible rfl)
    refine pu_ 5 15 8 63 ?_
    refine tk_ 6 16 8 127 ?_ (hy := by rintro w' ⟨s0, s1, s2, s3⟩; go_simp; with_reducible rfl)
    refine pu_ 7 9 8 255 ?_
    refine done_ (done_of HT_.out (by kernel_rfl)) ?_
    go_upto_region 2 with (fail)
    have H := HC8.out
    clear HC8
    replace H := Option.bind_eq_some_iff.mp H
    obtain ⟨t346, A120, H⟩ := H
    replace H : (if t346 = true then (some false) else (if 0 < (l3.length : Int) then (if 0 ≤ (rd l3 0) then (if (rd l3 0) < (l1_0.length : Int) then (if ((rdOf false l1_0 (rd l2 0)) != (rdOf false l1_0 (rd l3 0))) = true then (some true) else ((impl_Night_torches.f l0_0 a0_1 a0_2 l1_0 a1_1 (rdOf false l1_0 (rd l2 0))).bind fun t349 => (some (decide (t349 > 1))))) else (none)) else (none)) else (none))) = some r := H
    have A12 := ak_ A120
    clear A120
    by_cases c13 : t346 = true
    ·
     subst c13
     have H1 : (some false) = some r := by rw [if_pos rfl] at H; exact H
     clear H
     have H := H1
     clear H1
     obtain rfl := Option.some.inj H
     try go_wp2
     have n0_ := ak_ (k1_ BK342.out)
     have n1_ := ak_ (k1_ BK343.out)
     have n2_ := ak_ (b1_ HB.out)
     clear BK342 BK343 HB
     have BK342 := n0_; have BK343 := n1_; have HB := n2_
     clear n0_ n1_ n2_
     refine start_ (n := 23) (S := fun w' => True) (ds := []) (mb_ 23 0) (by kernel_rfl) rfl rfl trivial (fun hHeld => ?_); refine with_tabW impl_Night_together.tab2 impl_Night_together.bits2 (fun HT_ HW_ => ?_)
     generalize w11.drew = w14 at BK342 BK343 HB hHeld ⊢
     refine pu_ 0 17 23 1 ?_
     refine pu_ 1 18 23 3 ?_
     refine on_ 2 19 23 7 (fun K hK => ?_)
     refine goes_ Try.func93 (by kernel_rfl) rfl #[.slice (some ad344) l2.length c2, .slice A3 l3.length c3] (by rfl) rfl rfl (by first | rfl | (simp only [map_toArray, map_cons, map_nil]; try rfl)) ?_
     with_reducible refine (impl_share.calls k _ _ l2 _ _ l3 true _ ?side1 ?side2 ?side3 ?side4 A12.out).mono ?_
     (case side1 => repeat (first | exact (Kd.C_below HR2.out HB.out) | (with_reducible refine Kd.C_alloc ?_ _) | (with_reducible refine Kd.C_drewN ?_ _) | (with_reducible refine Kd.C_drew ?_)))
     (case side2 => exact HC2.out)
     (case side3 => repeat (first | exact (Kd.C_below HR3.out HB.out) | (with_reducible refine Kd.C_alloc ?_ _) | (with_reducible refine Kd.C_drewN ?_ _) | (with_reducible refine Kd.C_drew ?_)))
     (case side4 => exact HC3.out)
     rintro e w15 ⟨rfl, hb⟩
     refine ⟨_, rfl, ?_⟩
     have n0_ := ak_ (blk_below (pk BK342.out) hb)
     have n1_ := ak_ (blk_below (pk BK343.out) hb)
     have n2_ := ak_ (bs_ bl_ hb)
     clear BK342 BK343 HB
     have BK342 := n0_; have BK343 := n1_; have HB := n2_
     clear n0_ n1_ n2_
     (try clear hb)
     (try clear hb2)
     (try clear hk)
     (try clear hi)
     refine hK.out _ _ trivial (fun hHeld => ?_)
     clear hK K
     refine nm_ ?_
     refine pu_ 3 20 23 15 ?_
     refine pu_ 4 21 23 31 ?_
     refine pure_ (i := 5) (N := some 22) (v := undef) (a' := ?_) (mb_ 23 63) rfl rfl (any_of HT_.out (by kernel_rfl)) (fun _ _ _ h => h) (Or.inr ⟨by rfl, rfl⟩) ?_ ?_
     rotate_left
     ·
      simp only [Act.put, setIfInBounds_toArray, set_cons_zero, set_cons_succ, i64_w, i32_w]
      rfl
     refine pure_ (i := 6) (N := some 23) (v := undef) (a' := ?_) (mb_ 23 127) rfl rfl (any_of HT_.out (by kernel_rfl)) (fun _ _ _ h => h) (Or.inr ⟨by rfl, rfl⟩) ?_ ?_
     rotate_left
     ·
      simp only [Act.put, setIfInBounds_toArray, set_cons_zero, set_cons_succ, i64_w, i32_w]
      rfl
     refine pure_ (i := 7) (N := some 24) (v := undef) (a' := ?_) (mb_ 23 255) rfl rfl (any_of HT_.out (by kernel_rfl)) (fun _ _ _ h => h) (Or.inr ⟨by rfl, rfl⟩) ?_ ?_
     rotate_left
     ·
      simp only [Act.put, setIfInBounds_toArray, set_cons_zero, set_cons_succ, i64_w, i32_w]
      rfl
     refine pure_ (i := 8) (N := some 25) (v := undef) (a' := ?_) (mb_ 23 511) rfl rfl (any_of HT_.out (by kernel_rfl)) (fun _ _ _ h => h) (Or.inr ⟨by rfl, rfl⟩) ?_ ?_
     rotate_left
     ·
      simp only [Act.put, setIfInBounds_toArray, set_cons_zero, set_cons_succ, i64_w, i32_w]
      rfl
     refine pure_ (i := 9) (N := some 26) (v := undef) (a' := ?_) (mb_ 23 1023) rfl rfl (any_of HT_.out (by kernel_rfl)) (fun _ _ _ h => h) (Or.inr ⟨by rfl, rfl⟩) ?_ ?_
     rotate_left
     ·
      simp only [Act.put, setIfInBounds_toArray, set_cons_zero, set_cons_succ, i64_w, i32_w]
      rfl
     refine pure_ (i := 10) (N := some 27) (v := undef) (a' := ?_) (mb_ 23 2047) rfl rfl (any_of HT_.out (by kernel_rfl)) (fun _ _ _ h => h) (Or.inr ⟨by rfl, rfl⟩) ?_ ?_
     rotate_left
     ·
      simp only [Act.put, setIfInBounds_toArray, set_cons_zero, set_cons_succ, i64_w, i32_w]
      rfl
     refine pure_ (i := 11) (N := some 28) (v := undef) (a' := ?_) (mb_ 23 4095) rfl rfl (any_of HT_.out (by kernel_rfl)) (fun _ _ _ h => h) (Or.inr ⟨by rfl, rfl⟩) ?_ ?_
     rotate_left
     ·
      simp only [Act.put, setIfInBounds_toArray, set_cons_zero, set_cons_succ, i64_w, i32_w]
      rfl
     refine pure_ (i := 12) (N := some 29) (v := undef) (a' := ?_) (mb_ 23 8191) rfl rfl (any_of HT_.out (by kernel_rfl)) (fun _ _ _ h => h) (Or.inr ⟨by rfl, rfl⟩) ?_ ?_
     rotate_left
     ·
      simp only [Act.put, setIfInBounds_toArray, set_cons_zero, set_cons_succ, i64_w, i32_w]
      rfl
     refine pure_ (i := 13) (N := some 30) (v := undef) (a' := ?_) (mb_ 23 16383) rfl rfl (any_of HT_.out (by kernel_rfl)) (fun _ _ _ h => h) (Or.inr ⟨by rfl, rfl⟩) ?_ ?_
     rotate_left
     ·
      simp only [Act.put, setIfInBounds_toArray, set_cons_zero, set_cons_succ, i64_w, i32_w]
      rfl
     refine pure_ (i := 14) (N := some 31) (v := undef) (a' := ?_) (mb_ 23 32767) rfl rfl (any_of HT_.out (by kernel_rfl)) (fun _ _ _ h => h) (Or.inr ⟨by rfl, rfl⟩) ?_ ?_
     rotate_left
     ·
      simp only [Act.put, setIfInBounds_toArray, set_cons_zero, set_cons_succ, i64_w, i32_w]
      rfl
     refine pure_ (i := 15) (N := some 32) (v := undef) (a' := ?_) (mb_ 23 65535) rfl rfl (any_of HT_.out (by kernel_rfl)) (fun _ _ _ h => h) (Or.inr ⟨by rfl, rfl⟩) ?_ ?_
     rotate_left
     ·
      simp only [Act.put, setIfInBounds_toArray, set_cons_zero, set_cons_succ, i64_w, i32_w]
      rfl
     refine pure_ (i := 16) (N := some 33) (v := undef) (a' := ?_) (mb_ 23 131071) rfl rfl (any_of HT_.out (by kernel_rfl)) (fun _ _ _ h => h) (Or.inr ⟨by rfl, rfl⟩) ?_ ?_
     rotate_left
     ·
      simp only [Act.put, setIfInBounds_toArray, set_cons_zero, set_cons_succ, i64_w, i32_w]
      rfl
     refine pure_ (i := 17) (N := some 34) (v := undef) (a' := ?_) (mb_ 23 262143) rfl rfl (any_of HT_.out (by kernel_rfl)) (fun _ _ _ h => h) (Or.inr ⟨by rfl, rfl⟩) ?_ ?_
     rotate_left
     ·
      simp only [Act.put, setIfInBounds_toArray, set_cons_zero, set_cons_succ, i64_w, i32_w]
      rfl
     refine pure_ (i := 18) (N := some 35) (v := undef) (a' := ?_) (mb_ 23 524287) rfl rfl (any_of HT_.out (by kernel_rfl)) (fun _ _ _ h => h) (Or.inr ⟨by rfl, rfl⟩) ?_ ?_
     rotate_left
     ·
      simp only [Act.put, setIfInBounds_toArray, set_cons_zero, set_cons_succ, i64_w, i32_w]
      rfl
     refine pure_ (i := 19) (N := some 36) (v := undef) (a' := ?_) (mb_ 23 1048575) rfl rfl (any_of HT_.out (by kernel_rfl)) (fun _ _ _ h => h) (Or.inr ⟨by rfl, rfl⟩) ?_ ?_
     rotate_left
     ·
      simp only [Act.put, setIfInBounds_toArray, set_cons_zero, set_cons_succ, i64_w, i32_w]
      rfl
     refine pure_ (i := 20) (N := some 37) (v := undef) (a' := ?_) (mb_ 23 2097151) rfl rfl (any_of HT_.out (by kernel_rfl)) (fun _ _ _ h => h) (Or.inr ⟨by rfl, rfl⟩) ?_ ?_
     rotate_left
     ·
      simp only [Act.put, setIfInBounds_toArray, set_cons_zero, set_cons_succ, i64_w, i32_w]
      rfl
     refine pu_ 21 38 23 4194303 ?_
     refine pu_ 22 8 23 8388607 ?_
     refine done_ (done_of HT_.out (by kernel_rfl)) ?_
     try go_wp2
     go_ret
     exact ⟨rx_, by repeat (with_reducible first | exact HB.out | apply ba_ | apply bN_ | apply b1_ | refine below_set ?_ (Aside0.out (by assumption)))⟩
    ·
     replace c13 := Bool.eq_false_iff.mpr c13
     subst c13
     have H1 : (if 0 < (l3.length : Int) then (if 0 ≤ (rd l3 0) then (if (rd l3 0) < (l1_0.length : Int) then (if ((rdOf false l1_0 (rd l2 0)) != (rdOf false l1_0 (rd l3 0))) = true then (some true) else ((impl_Night_torches.f l0_0 a0_1 a0_2 l1_0 a1_1 (rdOf false l1_0 (rd l2 0))).bind fun t349 => (some (decide (t349 > 1))))) else (none)) else (none)) else (none)) = some r := by rw [if_neg (show ¬ (false = true) by decide)] at H; exact H
     clear H
     have H := H1
     clear H1
     by_cases c16 : 0 < (l3.length : Int)
     ·
      rw [if_pos c16] at H
      have c16b0 : decide (0 < (l3.length : Int)) = true := decide_eq_true c16
      have c16b1 : decide (0 < l3.length) = true := decide_eq_true (by omega)
      clear c16
      by_cases c17 : 0 ≤ (rd l3 0)
      ·
       rw [if_pos c17] at H
       have c17b0 : decide (0 ≤ (rd l3 0)) = true := decide_eq_true c17
       clear c17
       by_cases c18 : (rd l3 0) < (l1_0.length : Int)
       ·
        rw [if_pos c18] at H
        have c18b0 : decide ((rd l3 0) < (l1_0.length : Int)) = true := decide_eq_true c18
        clear c18
        by_cases c19 : ((rdOf false l1_0 (rd l2 0)) != (rdOf false l1_0 (rd l3 0))) = true
        ·
         rw [if_pos c19] at H
         have c19b0 : ((rdOf false l1_0 (rd l2 0)) != (rdOf false l1_0 (rd l3 0))) = true := c19
         (try (have c19b1 : decide ((rdOf false l1_0 (rd l2 0)) = (rdOf false l1_0 (rd l3 0))) = false := by simpa using c19))
         (try (have c19b2 : ((rdOf false l1_0 (rd l2 0)) == (rdOf false l1_0 (rd l3 0))) = false := by simpa using c19))
         (try (have c19b7 : (!((rdOf false l1_0 (rd l2 0)) == (rdOf false l1_0 (rd l3 0)))) = true := by simp only [c19b2, Bool.not_true, Bool.not_false]))
         (try (have c19b3 : ¬ ((rdOf false l1_0 (rd l2 0)) = (rdOf false l1_0 (rd l3 0))) := by simpa using c19))
         clear c19
         obtain rfl := Option.some.inj H
         try go_wp2
         have n0_ := ak_ (k1_ BK342.out)
         have n1_ := ak_ (k1_ BK343.out)
         have n2_ := ak_ (b1_ HB.out)
         clear BK342 BK343 HB
         have BK342 := n0_; have BK343 := n1_; have HB := n2_
         clear n0_ n1_ n2_
         have p347 : 0 ≤ (0 : Int) := (by omega)
         have q347 : 0 < (l3.length : Int) := odt_ (by assumption)
         obtain ⟨ad347, e347, hx347_0⟩ := Kd.at_int HR3.out 0 p347 q347
         have hw347_0 := hx347_0
         (try rw [show ((0 : Int)).toNat = 0 from rfl] at hw347_0)
         (try rw [show 0 * 1 = 0 from rfl] at hw347_0)
         (try rw [Addr.add_zero'] at hw347_0)
         cases e347
         have qi347 : (0 < l3.length) = True := eq_true (by omega)
         (try rw [show ((0 : Int)).toNat = 0 from rfl] at hx347_0)
         (try rw [Addr.add_zero'] at hx347_0)
         try replace hx347_0 := (HB.out.cell (World.block_lt_of_cell? w _ hx347_0)).trans hx347_0
         replace p347 := eq_true p347
         replace q347 := eq_true q347
         have p348 : 0 ≤ ((rd l3 0) : Int) := odt_ (by assumption)
         have q348 : (rd l3 0) < (l1_0.length : Int) := odt_ (by assumption)
         obtain ⟨ad348, e348, hx348_0⟩ := Kd.at_bool HR1_0.out (rd l3 0) p348 q348
         have hw348_0 := hx348_0
         obtain rfl : ad345 = ad348 := (by injection e348)
         try replace hx348_0 := (HB.out.cell (World.block_lt_of_cell? w _ hx348_0)).trans hx348_0
         replace p348 := eq_true p348
         replace q348 := eq_true q348
         refine start_ (n := 23) (S := fun w' => w'.cell? ⟨gb343, 0, none⟩ = some (.slice (some ad345) l1_0.length c1_0) ∧ w'.cell? ⟨gb343, 1, none⟩ = some (.int .i64 a1_1) ∧ w'.cell? ad347 = some (.int .i64 (rd l3 0)) ∧ w'.cell? (ad345.add ((rd l3 0)).toNat) = some (.bool (rdOf false l1_0 (rd l3 0)))) (ds := []) (mb_ 23 0) (by kernel_rfl) rfl rfl ⟨(blk_cell BK343.out 0).trans rfl, (blk_cell BK343.out 1).trans rfl, ((HB.out.cell (World.block_lt_of_cell? w _ hw347_0)).trans hw347_0), ((HB.out.cell (World.block_lt_of_cell? w _ hw348_0)).trans hw348_0)⟩ (fun hHeld => ?_); refine with_tabW impl_Night_together.tab2 impl_Night_together.bits2 (fun HT_ HW_ => ?_)
         generalize w11.drew = w20 at BK342 BK343 HB hx347_0 hx348_0 hHeld ⊢
         refine pu_ 0 17 23 1 ?_
         refine pu_ 1 18 23 3 ?_
         refine on_ 2 19 23 7 (fun K hK => ?_)
         refine goes_ Try.func93 (by kernel_rfl) rfl #[.slice (some ad344) l2.length c2, .slice (some ad347) l3.length c3] (by rfl) rfl rfl (by first | rfl | (simp only [map_toArray, map_cons, map_nil]; try rfl)) ?_
         with_reducible refine (impl_share.calls k _ _ l2 _ _ l3 false _ ?side1 ?side2 ?side3 ?side4 A12.out).mono ?_
         (case side1 => repeat (first | exact (Kd.C_below HR2.out HB.out) | (with_reducible refine Kd.C_alloc ?_ _) | (with_reducible refine Kd.C_drewN ?_ _) | (with_reducible refine Kd.C_drew ?_)))
         (case side2 => exact HC2.out)
         (case side3 => repeat (first | exact (Kd.C_below HR3.out HB.out) | (with_reducible refine Kd.C_alloc ?_ _) | (with_reducible refine Kd.C_drewN ?_ _) | (with_reducible refine Kd.C_drew ?_)))
         (case side4 => exact HC3.out)
         rintro e w21 ⟨rfl, hb⟩
         refine ⟨_, rfl, ?_⟩
         have n0_ := ak_ (blk_below (pk BK342.out) hb)
         have n1_ := ak_ (blk_below (pk BK343.out) hb)
         have n2_ := ak_ (bs_ bl_ hb)
         clear BK342 BK343 HB
         have BK342 := n0_; have BK343 := n1_; have HB := n2_
         clear n0_ n1_ n2_
         (try clear hb)
         (try clear hb2)
         (try clear hk)
         (try clear hi)
         refine hK.out _ _ ⟨(blk_cell BK343.out 0).trans rfl, (blk_cell BK343.out 1).trans rfl, ((HB.out.cell (World.block_lt_of_cell? w _ hw347_0)).trans hw347_0), ((HB.out.cell (World.block_lt_of_cell? w _ hw348_0)).trans hw348_0)⟩ (fun hHeld => ?_)
         clear hK K
         refine nm_ ?_
         refine pu_ 3 20 23 15 ?_
         refine pu_ 4 21 23 31 ?_
         refine pu_ 5 22 23 63 ?_
         refine pu_ 6 23 23 127 ?_
         refine pu_ 8 25 23 383 ?_
         refine pu_ 9 26 23 895 ?_
         refine tk_ 7 24 23 1023 ?_ (hy := by rintro w' ⟨s0, s1, s2, s3⟩; go_simp; with_reducible rfl)
         refine tk_ 10 27 23 2047 ?_ (hy := by rintro w' ⟨s0, s1, s2, s3⟩; go_simp; with_reducible rfl)
         refine pu_ 11 28 23 4095 ?_
         refine tk_ 12 29 23 8191 ?_ (hy := by rintro w' ⟨s0, s1, s2, s3⟩; go_simp; with_reducible rfl)
         refine pu_ 13 30 23 16383 ?_
         refine pu_ 14 31 23 32767 ?_
         refine pure_ (i := 15) (N := some 32) (v := undef) (a' := ?_) (mb_ 23 65535) rfl rfl (any_of HT_.out (by kernel_rfl)) (fun _ _ _ h => h) (Or.inr ⟨by rfl, rfl⟩) ?_ ?_
         rotate_left
         ·
          simp only [Act.put, setIfInBounds_toArray, set_cons_zero, set_cons_succ, i64_w, i32_w]
          rfl
         refine pure_ (i := 16) (N := some 33) (v := undef) (a' := ?_) (mb_ 23 131071) rfl rfl (any_of HT_.out (by kernel_rfl)) (fun _ _ _ h => h) (Or.inr ⟨by rfl, rfl⟩) ?_ ?_
         rotate_left
         ·
          simp only [Act.put, setIfInBounds_toArray, set_cons_zero, set_cons_succ, i64_w, i32_w]
          rfl
         refine pure_ (i := 17) (N := some 34) (v := undef) (a' := ?_) (mb_ 23 262143) rfl rfl (any_of HT_.out (by kernel_rfl)) (fun _ _ _ h => h) (Or.inr ⟨by rfl, rfl⟩) ?_ ?_
         rotate_left
         ·
          simp only [Act.put, setIfInBounds_toArray, set_cons_zero, set_cons_succ, i64_w, i32_w]
          rfl
         refine pure_ (i := 18) (N := some 35) (v := undef) (a' := ?_) (mb_ 23 524287) rfl rfl (any_of HT_.out (by kernel_rfl)) (fun _ _ _ h => h) (Or.inr ⟨by rfl, rfl⟩) ?_ ?_
         rotate_left
         ·
          simp only [Act.put, setIfInBounds_toArray, set_cons_zero, set_cons_succ, i64_w, i32_w]
          rfl
         refine pure_ (i := 19) (N := some 36) (v := undef) (a' := ?_) (mb_ 23 1048575) rfl rfl (any_of HT_.out (by kernel_rfl)) (fun _ _ _ h => h) (Or.inr ⟨by rfl, rfl⟩) ?_ ?_
         rotate_left
         ·
          simp only [Act.put, setIfInBounds_toArray, set_cons_zero, set_cons_succ, i64_w, i32_w]
          rfl
         refine pu_ 20 37 23 2097151 ?_
         refine pu_ 21 38 23 4194303 ?_
         refine pu_ 22 8 23 8388607 ?_
         refine done_ (done_of HT_.out (by kernel_rfl)) ?_
         try go_wp2
         go_ret
         exact ⟨rx_, by repeat (with_reducible first | exact HB.out | apply ba_ | apply bN_ | apply b1_ | refine below_set ?_ (Aside0.out (by assumption)))⟩
        ·
         rw [if_neg c19] at H
         have c19b0 : ((rdOf false l1_0 (rd l2 0)) != (rdOf false l1_0 (rd l3 0))) = false := by simpa using c19
         (try (have c19b1 : decide ((rdOf false l1_0 (rd l2 0)) = (rdOf false l1_0 (rd l3 0))) = true := by simpa using c19))
         (try (have c19b2 : ((rdOf false l1_0 (rd l2 0)) == (rdOf false l1_0 (rd l3 0))) = true := by simpa using c19))
         (try (have c19b7 : (!((rdOf false l1_0 (rd l2 0)) == (rdOf false l1_0 (rd l3 0)))) = false := by simp only [c19b2, Bool.not_true, Bool.not_false]))
         clear c19
         replace H := Option.bind_eq_some_iff.mp H
         obtain ⟨t349, A220, H⟩ := H
         replace H : (some (decide (t349 > 1))) = some r := H
         have A22 := ak_ A220
         clear A220
         obtain rfl := Option.some.inj H
         try go_wp2
         have n0_ := ak_ (k1_ BK342.out)
         have n1_ := ak_ (k1_ BK343.out)
         have n2_ := ak_ (b1_ HB.out)
         clear BK342 BK343 HB
         have BK342 := n0_; have BK343 := n1_; have HB := n2_
         clear n0_ n1_ n2_
         have p347 : 0 ≤ (0 : Int) := (by omega)
         have q347 : 0 < (l3.length : Int) := odt_ (by assumption)
         obtain ⟨ad347, e347, hx347_0⟩ := Kd.at_int HR3.out 0 p347 q347
         have hw347_0 := hx347_0
         (try rw [show ((0 : Int)).toNat = 0 from rfl] at hw347_0)
         (try rw [show 0 * 1 = 0 from rfl] at hw347_0)
         (try rw [Addr.add_zero'] at hw347_0)
         cases e347
         have qi347 : (0 < l3.length) = True := eq_true (by omega)
         (try rw [show ((0 : Int)).toNat = 0 from rfl] at hx347_0)
         (try rw [Addr.add_zero'] at hx347_0)
         try replace hx347_0 := (HB.out.cell (World.block_lt_of_cell? w _ hx347_0)).trans hx347_0
         replace p347 := eq_true p347
         replace q347 := eq_true q347
         have p348 : 0 ≤ ((rd l3 0) : Int) := odt_ (by assumption)
         have q348 : (rd l3 0) < (l1_0.length : Int) := odt_ (by assumption)
         obtain ⟨ad348, e348, hx348_0⟩ := Kd.at_bool HR1_0.out (rd l3 0) p348 q348
         have hw348_0 := hx348_0
         obtain rfl : ad345 = ad348 := (by injection e348)
         try replace hx348_0 := (HB.out.cell (World.block_lt_of_cell? w _ hx348_0)).trans hx348_0
         replace p348 := eq_true p348
         replace q348 := eq_true q348
         refine start_ (n := 23) (S := fun w' => w'.cell? ⟨gb343, 0, none⟩ = some (.slice (some ad345) l1_0.length c1_0) ∧ w'.cell? ⟨gb343, 1, none⟩ = some (.int .i64 a1_1) ∧ w'.cell? ⟨gb342, 0, none⟩ = some (.slice A0_0 l0_0.length c0_0) ∧ w'.cell? ⟨gb342, 1, none⟩ = some (.int .i64 a0_1) ∧ w'.cell? ⟨gb342, 2, none⟩ = some (.int .i64 a0_2) ∧ w'.cell? ad347 = some (.int .i64 (rd l3 0)) ∧ w'.cell? (ad345.add ((rd l3 0)).toNat) = some (.bool (rdOf false l1_0 (rd l3 0)))) (ds := []) (mb_ 23 0) (by kernel_rfl) rfl rfl ⟨(blk_cell BK343.out 0).trans rfl, (blk_cell BK343.out 1).trans rfl, (blk_cell BK342.out 0).trans rfl, (blk_cell BK342.out 1).trans rfl, (blk_cell BK342.out 2).trans rfl, ((HB.out.cell (World.block_lt_of_cell? w _ hw347_0)).trans hw347_0), ((HB.out.cell (World.block_lt_of_cell? w _ hw348_0)).trans hw348_0)⟩ (fun hHeld => ?_); refine with_tabW impl_Night_together.tab2 impl_Night_together.bits2 (fun HT_ HW_ => ?_)
         generalize w11.drew = w23 at BK342 BK343 HB hx347_0 hx348_0 hHeld ⊢
         refine pu_ 0 17 23 1 ?_
         refine pu_ 1 18 23 3 ?_
         refine on_ 2 19 23 7 (fun K hK => ?_)
         refine goes_ Try.func93 (by kernel_rfl) rfl #[.slice (some ad344) l2.length c2, .slice (some ad347) l3.length c3] (by rfl) rfl rfl (by first | rfl | (simp only [map_toArray, map_cons, map_nil]; try rfl)) ?_
         with_reducible refine (impl_share.calls k _ _ l2 _ _ l3 false _ ?side1 ?side2 ?side3 ?side4 A12.out).mono ?_
         (case side1 => repeat (first | exact (Kd.C_below HR2.out HB.out) | (with_reducible refine Kd.C_alloc ?_ _) | (with_reducible refine Kd.C_drewN ?_ _) | (with_reducible refine Kd.C_drew ?_)))
         (case side2 => exact HC2.out)
         (case side3 => repeat (first | exact (Kd.C_below HR3.out HB.out) | (with_reducible refine Kd.C_alloc ?_ _) | (with_reducible refine Kd.C_drewN ?_ _) | (with_reducible refine Kd.C_drew ?_)))
         (case side4 => exact HC3.out)
         rintro e w24 ⟨rfl, hb⟩
         refine ⟨_, rfl, ?_⟩
         have n0_ := ak_ (blk_below (pk BK342.out) hb)
         have n1_ := ak_ (blk_below (pk BK343.out) hb)
         have n2_ := ak_ (bs_ bl_ hb)
         clear BK342 BK343 HB
         have BK342 := n0_; have BK343 := n1_; have HB := n2_
         clear n0_ n1_ n2_
         (try clear hb)
         (try clear hb2)
         (try clear hk)
         (try clear hi)
         refine hK.out _ _ ⟨(blk_cell BK343.out 0).trans rfl, (blk_cell BK343.out 1).trans rfl, (blk_cell BK342.out 0).trans rfl, (blk_cell BK342.out 1).trans rfl, (blk_cell BK342.out 2).trans rfl, ((HB.out.cell (World.block_lt_of_cell? w _ hw347_0)).trans hw347_0), ((HB.out.cell (World.block_lt_of_cell? w _ hw348_0)).trans hw348_0)⟩ (fun hHeld => ?_)
         clear hK K
         refine nm_ ?_
         refine pu_ 3 20 23 15 ?_
         refine pu_ 4 21 23 31 ?_
         refine pu_ 5 22 23 63 ?_
         refine pu_ 6 23 23 127 ?_
         refine pu_ 8 25 23 383 ?_
         refine pu_ 9 26 23 895 ?_
         refine tk_ 7 24 23 1023 ?_ (hy := by rintro w' ⟨s0, s1, s2, s3, s4, s5, s6⟩; go_simp; with_reducible rfl)
         refine tk_ 10 27 23 2047 ?_ (hy := by rintro w' ⟨s0, s1, s2, s3, s4, s5, s6⟩; go_simp; with_reducible rfl)
         refine pu_ 11 28 23 4095 ?_
         refine tk_ 12 29 23 8191 ?_ (hy := by rintro w' ⟨s0, s1, s2, s3, s4, s5, s6⟩; go_simp; with_reducible rfl)
         refine pu_ 13 30 23 16383 ?_
         refine pu_ 14 31 23 32767 ?_
         refine pu_ 17 34 23 163839 ?_
         refine tk_ 15 32 23 196607 ?_ (hy := by rintro w' ⟨s0, s1, s2, s3, s4, s5, s6⟩; go_simp; with_reducible rfl)
         refine tk_ 16 33 23 262143 ?_ (hy := by rintro w' ⟨s0, s1, s2, s3, s4, s5, s6⟩; go_simp; with_reducible rfl)
         refine on_ 18 35 23 524287 (fun K hK => ?_)
         refine goes_ Try.func87 (by kernel_rfl) rfl #[.agg #[.slice A0_0 l0_0.length c0_0, .int .i64 a0_1, .int .i64 a0_2], .agg #[.slice (some ad345) l1_0.length c1_0, .int .i64 a1_1], .bool (rdOf false l1_0 (rd l2 0))] (by rfl) rfl rfl (by first | rfl | (simp only [map_toArray, map_cons, map_nil]; try rfl)) ?_
         with_reducible refine (impl_Night_torches.calls _ _ l0_0 a0_1 a0_2 _ _ l1_0 a1_1 (rdOf false l1_0 (rd l2 0)) t349 _ ?side1 ?side2 ?side3 ?side4 A22.out).mono ?_
         (case side1 => repeat (first | exact (Kd.C_below HR0_0.out HB.out) | (with_reducible refine Kd.C_alloc ?_ _) | (with_reducible refine Kd.C_drewN ?_ _) | (with_reducible refine Kd.C_drew ?_)))
         (case side2 => exact HC0_0.out)
         (case side3 => repeat (first | exact (Kd.C_below HR1_0.out HB.out) | (with_reducible refine Kd.C_alloc ?_ _) | (with_reducible refine Kd.C_drewN ?_ _) | (with_reducible refine Kd.C_drew ?_)))
         (case side4 => exact HC1_0.out)
         rintro e w25 ⟨rfl, hb⟩
         refine ⟨_, rfl, ?_⟩
         have n0_ := ak_ (blk_below (pk BK342.out) hb)
         have n1_ := ak_ (blk_below (pk BK343.out) hb)
         have n2_ := ak_ (bs_ bl_ hb)
         clear BK342 BK343 HB
         have BK342 := n0_; have BK343 := n1_; have HB := n2_
         clear n0_ n1_ n2_
         (try clear hb)
         (try clear hb2)
         (try clear hk)
         (try clear hi)
         refine hK.out _ _ ⟨(blk_cell BK343.out 0).trans rfl, (blk_cell BK343.out 1).trans rfl, (blk_cell BK342.out 0).trans rfl, (blk_cell BK342.out 1).trans rfl, (blk_cell BK342.out 2).trans rfl, ((HB.out.cell (World.block_lt_of_cell? w _ hw347_0)).trans hw347_0), ((HB.out.cell (World.block_lt_of_cell? w _ hw348_0)).trans hw348_0)⟩ (fun hHeld => ?_)
         clear hK K
         refine nm_ ?_
         refine pu_ 19 36 23 1048575 ?_
         refine pu_ 20 37 23 2097151 ?_
         refine pu_ 21 38 23 4194303 ?_
         refine pu_ 22 8 23 8388607 ?_
         refine done_ (done_of HT_.out (by kernel_rfl)) ?_
         try go_wp2
         go_ret
         exact ⟨rx_, by repeat (with_reducible first | exact HB.out | apply ba_ | apply bN_ | apply b1_ | refine below_set ?_ (Aside0.out (by assumption)))⟩
       ·
        rw [if_neg c18] at H
        exact absurd H (by simp)
      ·
       rw [if_neg c17] at H
       exact absurd H (by simp)
     ·
      rw [if_neg c16] at H
      exact absurd H (by simp)
   ·
    rw [if_neg c7] at H
    exact absurd H (by simp)
  ·
   rw [if_neg c6] at H
   exact absurd H (by simp)
 ·
  rw [if_neg c5] at H
  exact absurd H (by simp)
end Go.Proofs.Ytmdbhpbogbekmaa.QNt
