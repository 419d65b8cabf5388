/- Contracts of functions of the given program, walked. Conditions: those at each theorem. -/
import Derived.Test.YtmdbhpbogbekmaaQNtx0
import Derived.Test.YtmdbhpbogbekmaaQNtx9
namespace Go.Proofs.Ytmdbhpbogbekmaa.QNt
open Go.RowKit Go.Proofs.YtmdbhpbogbekmaaW.PrintWords Go.Proofs.YtmdbhpbogbekmaaW.PrintLast Go.Proofs.YtmdbhpbogbekmaaW.PrintMore
open List (setIfInBounds_toArray set_cons_zero set_cons_succ map_toArray map_cons map_nil)
attribute [local go_sem] max2_int min2_int max_two min_two max_three min_three max_four min_four
set_option linter.unusedVariables false
set_option maxHeartbeats 8000000
set_option maxRecDepth 100000
set_option linter.unusedSimpArgs false
def impl_Night_together.f (k : Nat) (l0_0 : List Int) (a0_1 : Int) (a0_2 : Int) (l1_0 : List Bool) (a1_1 : Int) (l2 : List Int) (l3 : List Int) : Option (Bool) := if 0 < (l2.length : Int) then (if 0 ≤ (rd l2 0) then (if (rd l2 0) < (l1_0.length : Int) then ((impl_share.f k l2 l3).bind fun t418 => (if t418 = true then (some false) else (if 0 < (l3.length : Int) then (if 0 ≤ (rd l3 0) then (if (rd l3 0) < (l1_0.length : Int) then (if ((rdOf false l1_0 (rd l2 0)) != (rdOf false l1_0 (rd l3 0))) = true then (some true) else ((impl_Night_torches.f l0_0 a0_1 a0_2 l1_0 a1_1 (rdOf false l1_0 (rd l2 0))).bind fun t421 => (some (decide (t421 > 1))))) else (none)) else (none)) else (none)))) else (none)) else (none)) else (none)
def impl_Night_together.T1 : Bool × List (List Nat × List Nat) := (true, [([], []), ([0], [0]), ([], []), ([2], [2]), ([3], [3]), ([1, 4], [1, 4]), ([5], [5]), ([6, 0, 1, 2, 3, 4, 5, 6], [6])])
def impl_Night_together.B1 : List Nat := [0, 1, 0, 4, 12, 31, 63, 127]
theorem impl_Night_together.tab1 : rtab .any (opsOf Try.f71 1) = impl_Night_together.T1 := by kernel_rfl
theorem impl_Night_together.bits1 : waitsOk impl_Night_together.T1.2 impl_Night_together.B1 = true := by kernel_rfl
def impl_Night_together.T2 : Bool × List (List Nat × List Nat) := (true, [([], []), ([], []), ([0, 1], [0, 1]), ([2], [2]), ([3, 2], [3]), ([4], [4]), ([4], [4]), ([6, 4], [4, 6]), ([4], [4]), ([8, 4], [4, 8]), ([9, 4], [4, 9]), ([7, 10, 4], [4, 7, 10]), ([11, 4], [4, 11]), ([5, 12, 4], [4, 5, 12]), ([13, 4, 4], [4, 13]), ([14], [14]), ([14], [14]), ([14], [14]), ([15, 16, 17, 14, 14], [14, 15, 16, 17]), ([18, 14], [14, 18]), ([14, 19, 4], [4, 14, 19]), ([4, 20], [4, 20]), ([21, 18, 0, 1, 2, 3, 4, 5, 6, 7, 8, 9, 10, 11, 12, 13, 14, 15, 16, 17, 18, 19, 20, 21], [21])])
def impl_Night_together.B2 : List Nat := [0, 0, 3, 7, 15, 31, 31, 95, 31, 287, 799, 2015, 4063, 8191, 16383, 32767, 32767, 32767, 262143, 524287, 1048575, 2097151, 4194303]
theorem impl_Night_together.tab2 : rtab .any (opsOf Try.f71 2) = impl_Night_together.T2 := by kernel_rfl
theorem impl_Night_together.bits2 : waitsOk impl_Night_together.T2.2 impl_Night_together.B2 = true := by kernel_rfl
theorem impl_Night_together.calls (k : Nat) (A0_0 : Option Addr) (c0_0 : Nat) (l0_0 : List Int) (a0_1 : Int) (a0_2 : Int) (A1_0 : Option Addr) (c1_0 : Nat) (l1_0 : List Bool) (a1_1 : Int) (A2 : Option Addr) (c2 : Nat) (l2 : List Int) (A3 : Option Addr) (c3 : Nat) (l3 : List Int) (r : Bool) (w : World) (hr0_0 : Kd.C (Kd.int .i64) w A0_0 l0_0.length l0_0) (hc0_0 : l0_0.length ≤ c0_0) (hr1_0 : Kd.C Kd.bool w A1_0 l1_0.length l1_0) (hc1_0 : l1_0.length ≤ c1_0) (hr2 : Kd.C (Kd.int .i64) w A2 l2.length l2) (hc2 : l2.length ≤ c2) (hr3 : Kd.C (Kd.int .i64) w A3 l3.length l3) (hc3 : l3.length ≤ c3) (h : impl_Night_together.f k l0_0 a0_1 a0_2 l1_0 a1_1 l2 l3 = some r) :
  Calls Try.prog 71 #[.agg #[.slice A0_0 l0_0.length c0_0, .int .i64 a0_1, .int .i64 a0_2], .agg #[.slice A1_0 l1_0.length c1_0, .int .i64 a1_1], .slice A2 l2.length c2, .slice A3 l3.length c3] w fun e w' => e = .returned (.bool r) ∧ Below w.heap.size w w' := by
 have hu33 := Try.underlying33
 have hu35 := Try.underlying35
 have HR0_0 := ak_ hr0_0
 have HC0_0 := ak_ hc0_0
 clear hr0_0 hc0_0
 have HR1_0 := ak_ hr1_0
 have HC1_0 := ak_ hc1_0
 clear hr1_0 hc1_0
 have HR2 := ak_ hr2
 have HC2 := ak_ hc2
 clear hr2 hc2
 have HR3 := ak_ hr3
 have HC3 := ak_ hc3
 clear hr3 hc3
 have HB := ak_ (Below.refl w.heap.size w)
 have H : (if 0 < (l2.length : Int) then (if 0 ≤ (rd l2 0) then (if (rd l2 0) < (l1_0.length : Int) then ((impl_share.f k l2 l3).bind fun t418 => (if t418 = true then (some false) else (if 0 < (l3.length : Int) then (if 0 ≤ (rd l3 0) then (if (rd l3 0) < (l1_0.length : Int) then (if ((rdOf false l1_0 (rd l2 0)) != (rdOf false l1_0 (rd l3 0))) = true then (some true) else ((impl_Night_torches.f l0_0 a0_1 a0_2 l1_0 a1_1 (rdOf false l1_0 (rd l2 0))).bind fun t421 => (some (decide (t421 > 1))))) else (none)) else (none)) else (none)))) else (none)) else (none)) else (none)) = some r := h
 clear h
 by_cases c5 : 0 < (l2.length : Int)
 ·
  rw [if_pos c5] at H
  have c5b0 := decide_eq_true c5
  have c5b1 : decide (0 < l2.length) = true := decide_eq_true (by omega)
  clear c5
  by_cases c6 : 0 ≤ (rd l2 0)
  ·
   rw [if_pos c6] at H
   have c6b0 := decide_eq_true c6
   clear c6
   by_cases c7 : (rd l2 0) < (l1_0.length : Int)
   ·
    rw [if_pos c7] at H
    have c7b0 := decide_eq_true c7
    clear c7
    have HC8 := ak_ H
    clear H
    go_enter Try.func71, Try.ntmps71
    try go_wp2_with (first | ((with_reducible refine gate_dst (N := 4) rfl ?_); refine bx_ 4 #[.slice A0_0 l0_0.length c0_0, .int .i64 a0_1, .int .i64 a0_2] 33 ?_; intro gb414 hg w9 hbox hb; have BK414 := ak_ (hbox); have GW414 := ak_ ((by rw [hg]; exact (bz_ (bb_ HB.out)) : w.heap.size ≤ gb414)); replace HB := ak_ (bs_ (bb_ HB.out) hb); have GE414 := GW414; clear hb hbox hg) | ((with_reducible refine gate_dst (N := 5) rfl ?_); refine bx_ 5 #[.slice A1_0 l1_0.length c1_0, .int .i64 a1_1] 35 ?_; intro gb415 hg w10 hbox hb; have BK415 := ak_ (hbox); have GW415 := ak_ ((by rw [hg]; exact (bz_ bl_) : w.heap.size ≤ gb415)); replace HB := ak_ (bs_ bl_ hb); have GE415 := GW415; have NB414_415 := ak_ ((by rw [hg]; exact Nat.ne_of_lt (blk_lt (pk BK414.out)) : gb414 ≠ gb415)); replace BK414 := ak_ (blk_below (pk BK414.out) hb); have NB415_414 := ak_ NB414_415.out.symm; clear hb hbox hg))
    have n0_ := ak_ (k1_ BK414.out)
    have n1_ := ak_ (k1_ BK415.out)
    have n2_ := ak_ (b1_ HB.out)
    clear BK414 BK415 HB
    have BK414 := n0_; have BK415 := n1_; have HB := n2_
    clear n0_ n1_ n2_
    have p416 : 0 ≤ (0 : Int) := (by omega)
    have q416 : 0 < (l2.length : Int) := od_
    obtain ⟨ad416, e416, hx416_0⟩ := Kd.at_int HR2.out 0 p416 q416
    have hw416_0 := hx416_0
    (try rw [show ((0 : Int)).toNat = 0 from rfl] at hw416_0)
    (try rw [show 0 * 1 = 0 from rfl] at hw416_0)
    (try rw [Addr.add_zero'] at hw416_0)
    cases e416
    have qi416 : (0 < l2.length) = True := eq_true (by omega)
    (try rw [show ((0 : Int)).toNat = 0 from rfl] at hx416_0)
    (try rw [Addr.add_zero'] at hx416_0)
    try replace hx416_0 := (HB.out.cell (World.block_lt_of_cell? w _ hx416_0)).trans hx416_0
    replace p416 := eq_true p416
    replace q416 := eq_true q416
    have p417 : 0 ≤ ((rd l2 0) : Int) := od_
    have q417 : (rd l2 0) < (l1_0.length : Int) := od_
    obtain ⟨ad417, e417, hx417_0⟩ := Kd.at_bool HR1_0.out (rd l2 0) p417 q417
    have hw417_0 := hx417_0
    cases e417
    try replace hx417_0 := (HB.out.cell (World.block_lt_of_cell? w _ hx417_0)).trans hx417_0
    replace p417 := eq_true p417
    replace q417 := eq_true q417
    refine start_ (n := 8) (S := fun w' => w'.cell? ⟨gb415, 0, none⟩ = some (.slice (some ad417) l1_0.length c1_0) ∧ w'.cell? ⟨gb415, 1, none⟩ = some (.int .i64 a1_1) ∧ w'.cell? ad416 = some (.int .i64 (rd l2 0)) ∧ w'.cell? (ad417.add ((rd l2 0)).toNat) = some (.bool (rdOf false l1_0 (rd l2 0)))) (ds := []) (mb_ 8 0) (by kernel_rfl) rfl rfl ⟨(blk_cell BK415.out 0).trans rfl, (blk_cell BK415.out 1).trans rfl, ((HB.out.cell (World.block_lt_of_cell? w _ hw416_0)).trans hw416_0), ((HB.out.cell (World.block_lt_of_cell? w _ hw417_0)).trans hw417_0)⟩ (fun hHeld => ?_); refine with_tabW impl_Night_together.tab1 impl_Night_together.bits1 (fun HT_ HW_ => ?_)
    generalize w10.drew = w11 at BK414 BK415 HB hx416_0 hx417_0 hHeld ⊢
    refine pu_ 0 10 8 1 ?_
    refine pu_ 2 12 8 5 ?_
    refine pu_ 3 13 8 13 ?_
    refine tk_ 1 11 8 15 ?_ (hy := by rintro w' ⟨s0, s1, s2, s3⟩; go_simp; with_reducible rfl)
    refine tk_ 4 14 8 31 ?_ (hy := by rintro w' ⟨s0, s1, s2, s3⟩; go_simp; with_reducible rfl)
    refine pu_ 5 15 8 63 ?_
    refine tk_ 6 16 8 127 ?_ (hy := by rintro w' ⟨s0, s1, s2, s3⟩; go_simp; with_reducible rfl)
    refine pu_ 7 9 8 255 ?_
    refine done_ (done_of HT_.out (by kernel_rfl)) ?_
    go_upto_region 2 with (fail)
    have H := HC8.out
    clear HC8
    replace H := Option.bind_eq_some_iff.mp H
    obtain ⟨t418, A120, H⟩ := H
    replace H : (if t418 = true then (some false) else (if 0 < (l3.length : Int) then (if 0 ≤ (rd l3 0) then (if (rd l3 0) < (l1_0.length : Int) then (if ((rdOf false l1_0 (rd l2 0)) != (rdOf false l1_0 (rd l3 0))) = true then (some true) else ((impl_Night_torches.f l0_0 a0_1 a0_2 l1_0 a1_1 (rdOf false l1_0 (rd l2 0))).bind fun t421 => (some (decide (t421 > 1))))) else (none)) else (none)) else (none))) = some r := H
    have A12 := ak_ A120
    clear A120
    by_cases c13 : t418 = true
    ·
     subst c13
     have H1 : (some false) = some r := by rw [if_pos rfl] at H; exact H
     clear H
     have H := H1
     clear H1
     obtain rfl := Option.some.inj H
     try go_wp2
     have n0_ := ak_ (k1_ BK414.out)
     have n1_ := ak_ (k1_ BK415.out)
     have n2_ := ak_ (b1_ HB.out)
     clear BK414 BK415 HB
     have BK414 := n0_; have BK415 := n1_; have HB := n2_
     clear n0_ n1_ n2_
     refine start_ (n := 23) (S := fun w' => True) (ds := []) (mb_ 23 0) (by kernel_rfl) rfl rfl trivial (fun hHeld => ?_); refine with_tabW impl_Night_together.tab2 impl_Night_together.bits2 (fun HT_ HW_ => ?_)
     generalize w11.drew = w14 at BK414 BK415 HB hHeld ⊢
     refine pu_ 0 17 23 1 ?_
     refine pu_ 1 18 23 3 ?_
     refine on_ 2 19 23 7 (fun K hK => ?_)
     refine goes_ Try.func93 (by kernel_rfl) rfl #[.slice (some ad416) l2.length c2, .slice A3 l3.length c3] (by rfl) rfl rfl rs_ ?_
     with_reducible refine (impl_share.calls k _ _ l2 _ _ l3 true _ ?side1 ?side2 ?side3 ?side4 A12.out).mono ?_
     (case side1 => exact cs_ (Kd.C_below HR2.out HB.out))
     (case side2 => exact HC2.out)
     (case side3 => exact cs_ (Kd.C_below HR3.out HB.out))
     (case side4 => exact HC3.out)
     rintro e w15 ⟨rfl, hb⟩
     refine ⟨_, rfl, ?_⟩
     have n0_ := ak_ (blk_below (pk BK414.out) hb)
     have n1_ := ak_ (blk_below (pk BK415.out) hb)
     have n2_ := ak_ (bs_ bl_ hb)
     clear BK414 BK415 HB
     have BK414 := n0_; have BK415 := n1_; have HB := n2_
     clear n0_ n1_ n2_
     (try clear hb)
     (try clear hb2)
     (try clear hk)
     (try clear hi)
     refine hK.out _ _ trivial (fun hHeld => ?_)
     clear hK K
     refine nm_ ?_
     refine pu_ 3 20 23 15 ?_
     refine pu_ 4 21 23 31 ?_
     refine pure_ (i := 5) (N := some 22) (v := undef) (a' := ?_) (mb_ 23 63) rfl rfl (any_of HT_.out (by kernel_rfl)) (fun _ _ _ h => h) (Or.inr ⟨by rfl, rfl⟩) ?_ ?_
     rotate_left
     ·
      simp only [Act.put, setIfInBounds_toArray, set_cons_zero, set_cons_succ, i64_w, i32_w]
      rfl
     refine pure_ (i := 6) (N := some 23) (v := undef) (a' := ?_) (mb_ 23 127) rfl rfl (any_of HT_.out (by kernel_rfl)) (fun _ _ _ h => h) (Or.inr ⟨by rfl, rfl⟩) ?_ ?_
     rotate_left
     ·
      simp only [Act.put, setIfInBounds_toArray, set_cons_zero, set_cons_succ, i64_w, i32_w]
      rfl
     refine pure_ (i := 7) (N := some 24) (v := undef) (a' := ?_) (mb_ 23 255) rfl rfl (any_of HT_.out (by kernel_rfl)) (fun _ _ _ h => h) (Or.inr ⟨by rfl, rfl⟩) ?_ ?_
     rotate_left
     ·
      simp only [Act.put, setIfInBounds_toArray, set_cons_zero, set_cons_succ, i64_w, i32_w]
      rfl
     refine pure_ (i := 8) (N := some 25) (v := undef) (a' := ?_) (mb_ 23 511) rfl rfl (any_of HT_.out (by kernel_rfl)) (fun _ _ _ h => h) (Or.inr ⟨by rfl, rfl⟩) ?_ ?_
     rotate_left
     ·
      simp only [Act.put, setIfInBounds_toArray, set_cons_zero, set_cons_succ, i64_w, i32_w]
      rfl
     refine pure_ (i := 9) (N := some 26) (v := undef) (a' := ?_) (mb_ 23 1023) rfl rfl (any_of HT_.out (by kernel_rfl)) (fun _ _ _ h => h) (Or.inr ⟨by rfl, rfl⟩) ?_ ?_
     rotate_left
     ·
      simp only [Act.put, setIfInBounds_toArray, set_cons_zero, set_cons_succ, i64_w, i32_w]
      rfl
     refine pure_ (i := 10) (N := some 27) (v := undef) (a' := ?_) (mb_ 23 2047) rfl rfl (any_of HT_.out (by kernel_rfl)) (fun _ _ _ h => h) (Or.inr ⟨by rfl, rfl⟩) ?_ ?_
     rotate_left
     ·
      simp only [Act.put, setIfInBounds_toArray, set_cons_zero, set_cons_succ, i64_w, i32_w]
      rfl
     refine pure_ (i := 11) (N := some 28) (v := undef) (a' := ?_) (mb_ 23 4095) rfl rfl (any_of HT_.out (by kernel_rfl)) (fun _ _ _ h => h) (Or.inr ⟨by rfl, rfl⟩) ?_ ?_
     rotate_left
     ·
      simp only [Act.put, setIfInBounds_toArray, set_cons_zero, set_cons_succ, i64_w, i32_w]
      rfl
     refine pure_ (i := 12) (N := some 29) (v := undef) (a' := ?_) (mb_ 23 8191) rfl rfl (any_of HT_.out (by kernel_rfl)) (fun _ _ _ h => h) (Or.inr ⟨by rfl, rfl⟩) ?_ ?_
     rotate_left
     ·
      simp only [Act.put, setIfInBounds_toArray, set_cons_zero, set_cons_succ, i64_w, i32_w]
      rfl
     refine pure_ (i := 13) (N := some 30) (v := undef) (a' := ?_) (mb_ 23 16383) rfl rfl (any_of HT_.out (by kernel_rfl)) (fun _ _ _ h => h) (Or.inr ⟨by rfl, rfl⟩) ?_ ?_
     rotate_left
     ·
      simp only [Act.put, setIfInBounds_toArray, set_cons_zero, set_cons_succ, i64_w, i32_w]
      rfl
     refine pure_ (i := 14) (N := some 31) (v := undef) (a' := ?_) (mb_ 23 32767) rfl rfl (any_of HT_.out (by kernel_rfl)) (fun _ _ _ h => h) (Or.inr ⟨by rfl, rfl⟩) ?_ ?_
     rotate_left
     ·
      simp only [Act.put, setIfInBounds_toArray, set_cons_zero, set_cons_succ, i64_w, i32_w]
      rfl
     refine pure_ (i := 15) (N := some 32) (v := undef) (a' := ?_) (mb_ 23 65535) rfl rfl (any_of HT_.out (by kernel_rfl)) (fun _ _ _ h => h) (Or.inr ⟨by rfl, rfl⟩) ?_ ?_
     rotate_left
     ·
      simp only [Act.put, setIfInBounds_toArray, set_cons_zero, set_cons_succ, i64_w, i32_w]
      rfl
     refine pure_ (i := 16) (N := some 33) (v := undef) (a' := ?_) (mb_ 23 131071) rfl rfl (any_of HT_.out (by kernel_rfl)) (fun _ _ _ h => h) (Or.inr ⟨by rfl, rfl⟩) ?_ ?_
     rotate_left
     ·
      simp only [Act.put, setIfInBounds_toArray, set_cons_zero, set_cons_succ, i64_w, i32_w]
      rfl
     refine pure_ (i := 17) (N := some 34) (v := undef) (a' := ?_) (mb_ 23 262143) rfl rfl (any_of HT_.out (by kernel_rfl)) (fun _ _ _ h => h) (Or.inr ⟨by rfl, rfl⟩) ?_ ?_
     rotate_left
     ·
      simp only [Act.put, setIfInBounds_toArray, set_cons_zero, set_cons_succ, i64_w, i32_w]
      rfl
     refine pure_ (i := 18) (N := some 35) (v := undef) (a' := ?_) (mb_ 23 524287) rfl rfl (any_of HT_.out (by kernel_rfl)) (fun _ _ _ h => h) (Or.inr ⟨by rfl, rfl⟩) ?_ ?_
     rotate_left
     ·
      simp only [Act.put, setIfInBounds_toArray, set_cons_zero, set_cons_succ, i64_w, i32_w]
      rfl
     refine pure_ (i := 19) (N := some 36) (v := undef) (a' := ?_) (mb_ 23 1048575) rfl rfl (any_of HT_.out (by kernel_rfl)) (fun _ _ _ h => h) (Or.inr ⟨by rfl, rfl⟩) ?_ ?_
     rotate_left
     ·
      simp only [Act.put, setIfInBounds_toArray, set_cons_zero, set_cons_succ, i64_w, i32_w]
      rfl
     refine pure_ (i := 20) (N := some 37) (v := undef) (a' := ?_) (mb_ 23 2097151) rfl rfl (any_of HT_.out (by kernel_rfl)) (fun _ _ _ h => h) (Or.inr ⟨by rfl, rfl⟩) ?_ ?_
     rotate_left
     ·
      simp only [Act.put, setIfInBounds_toArray, set_cons_zero, set_cons_succ, i64_w, i32_w]
      rfl
     refine pu_ 21 38 23 4194303 ?_
     refine pu_ 22 8 23 8388607 ?_
     refine done_ (done_of HT_.out (by kernel_rfl)) ?_
     try go_wp2
     go_ret
     exact ⟨rx_, bl_⟩
    ·
     replace c13 := Bool.eq_false_iff.mpr c13
     subst c13
     have H1 : (if 0 < (l3.length : Int) then (if 0 ≤ (rd l3 0) then (if (rd l3 0) < (l1_0.length : Int) then (if ((rdOf false l1_0 (rd l2 0)) != (rdOf false l1_0 (rd l3 0))) = true then (some true) else ((impl_Night_torches.f l0_0 a0_1 a0_2 l1_0 a1_1 (rdOf false l1_0 (rd l2 0))).bind fun t421 => (some (decide (t421 > 1))))) else (none)) else (none)) else (none)) = some r := by rw [if_neg (show ¬ (false = true) by decide)] at H; exact H
     clear H
     have H := H1
     clear H1
     by_cases c16 : 0 < (l3.length : Int)
     ·
      rw [if_pos c16] at H
      have c16b0 := decide_eq_true c16
      have c16b1 : decide (0 < l3.length) = true := decide_eq_true (by omega)
      clear c16
      by_cases c17 : 0 ≤ (rd l3 0)
      ·
       rw [if_pos c17] at H
       have c17b0 := decide_eq_true c17
       clear c17
       by_cases c18 : (rd l3 0) < (l1_0.length : Int)
       ·
        rw [if_pos c18] at H
        have c18b0 := decide_eq_true c18
        clear c18
        by_cases c19 : ((rdOf false l1_0 (rd l2 0)) != (rdOf false l1_0 (rd l3 0))) = true
        ·
         rw [if_pos c19] at H
         have c19b0 : ((rdOf false l1_0 (rd l2 0)) != (rdOf false l1_0 (rd l3 0))) = true := c19
         (try (have c19b1 : decide ((rdOf false l1_0 (rd l2 0)) = (rdOf false l1_0 (rd l3 0))) = false := by simpa using c19))
         (try (have c19b2 : ((rdOf false l1_0 (rd l2 0)) == (rdOf false l1_0 (rd l3 0))) = false := by simpa using c19))
         (try (have c19b7 : (!((rdOf false l1_0 (rd l2 0)) == (rdOf false l1_0 (rd l3 0)))) = true := by simp only [c19b2, Bool.not_true, Bool.not_false]))
         (try (have c19b3 : ¬ ((rdOf false l1_0 (rd l2 0)) = (rdOf false l1_0 (rd l3 0))) := by simpa using c19))
         clear c19
         obtain rfl := Option.some.inj H
         try go_wp2
         have n0_ := ak_ (k1_ BK414.out)
         have n1_ := ak_ (k1_ BK415.out)
         have n2_ := ak_ (b1_ HB.out)
         clear BK414 BK415 HB
         have BK414 := n0_; have BK415 := n1_; have HB := n2_
         clear n0_ n1_ n2_
         have p419 : 0 ≤ (0 : Int) := (by omega)
         have q419 : 0 < (l3.length : Int) := od_
         obtain ⟨ad419, e419, hx419_0⟩ := Kd.at_int HR3.out 0 p419 q419
         have hw419_0 := hx419_0
         (try rw [show ((0 : Int)).toNat = 0 from rfl] at hw419_0)
         (try rw [show 0 * 1 = 0 from rfl] at hw419_0)
         (try rw [Addr.add_zero'] at hw419_0)
         cases e419
         have qi419 : (0 < l3.length) = True := eq_true (by omega)
         (try rw [show ((0 : Int)).toNat = 0 from rfl] at hx419_0)
         (try rw [Addr.add_zero'] at hx419_0)
         try replace hx419_0 := (HB.out.cell (World.block_lt_of_cell? w _ hx419_0)).trans hx419_0
         replace p419 := eq_true p419
         replace q419 := eq_true q419
         have p420 : 0 ≤ ((rd l3 0) : Int) := od_
         have q420 : (rd l3 0) < (l1_0.length : Int) := od_
         obtain ⟨ad420, e420, hx420_0⟩ := Kd.at_bool HR1_0.out (rd l3 0) p420 q420
         have hw420_0 := hx420_0
         obtain rfl : ad417 = ad420 := (by injection e420)
         try replace hx420_0 := (HB.out.cell (World.block_lt_of_cell? w _ hx420_0)).trans hx420_0
         replace p420 := eq_true p420
         replace q420 := eq_true q420
         refine start_ (n := 23) (S := fun w' => w'.cell? ⟨gb415, 0, none⟩ = some (.slice (some ad417) l1_0.length c1_0) ∧ w'.cell? ⟨gb415, 1, none⟩ = some (.int .i64 a1_1) ∧ w'.cell? ad419 = some (.int .i64 (rd l3 0)) ∧ w'.cell? (ad417.add ((rd l3 0)).toNat) = some (.bool (rdOf false l1_0 (rd l3 0)))) (ds := []) (mb_ 23 0) (by kernel_rfl) rfl rfl ⟨(blk_cell BK415.out 0).trans rfl, (blk_cell BK415.out 1).trans rfl, ((HB.out.cell (World.block_lt_of_cell? w _ hw419_0)).trans hw419_0), ((HB.out.cell (World.block_lt_of_cell? w _ hw420_0)).trans hw420_0)⟩ (fun hHeld => ?_); refine with_tabW impl_Night_together.tab2 impl_Night_together.bits2 (fun HT_ HW_ => ?_)
         generalize w11.drew = w20 at BK414 BK415 HB hx419_0 hx420_0 hHeld ⊢
         refine pu_ 0 17 23 1 ?_
         refine pu_ 1 18 23 3 ?_
         refine on_ 2 19 23 7 (fun K hK => ?_)
         refine goes_ Try.func93 (by kernel_rfl) rfl #[.slice (some ad416) l2.length c2, .slice (some ad419) l3.length c3] (by rfl) rfl rfl rs_ ?_
         with_reducible refine (impl_share.calls k _ _ l2 _ _ l3 false _ ?side1 ?side2 ?side3 ?side4 A12.out).mono ?_
         (case side1 => exact cs_ (Kd.C_below HR2.out HB.out))
         (case side2 => exact HC2.out)
         (case side3 => exact cs_ (Kd.C_below HR3.out HB.out))
         (case side4 => exact HC3.out)
         rintro e w21 ⟨rfl, hb⟩
         refine ⟨_, rfl, ?_⟩
         have n0_ := ak_ (blk_below (pk BK414.out) hb)
         have n1_ := ak_ (blk_below (pk BK415.out) hb)
         have n2_ := ak_ (bs_ bl_ hb)
         clear BK414 BK415 HB
         have BK414 := n0_; have BK415 := n1_; have HB := n2_
         clear n0_ n1_ n2_
         (try clear hb)
         (try clear hb2)
         (try clear hk)
         (try clear hi)
         refine hK.out _ _ ⟨(blk_cell BK415.out 0).trans rfl, (blk_cell BK415.out 1).trans rfl, ((HB.out.cell (World.block_lt_of_cell? w _ hw419_0)).trans hw419_0), ((HB.out.cell (World.block_lt_of_cell? w _ hw420_0)).trans hw420_0)⟩ (fun hHeld => ?_)
         clear hK K
         refine nm_ ?_
         refine pu_ 3 20 23 15 ?_
         refine pu_ 4 21 23 31 ?_
         refine pu_ 5 22 23 63 ?_
         refine pu_ 6 23 23 127 ?_
         refine pu_ 8 25 23 383 ?_
         refine pu_ 9 26 23 895 ?_
         refine tk_ 7 24 23 1023 ?_ (hy := by rintro w' ⟨s0, s1, s2, s3⟩; go_simp; with_reducible rfl)
         refine tk_ 10 27 23 2047 ?_ (hy := by rintro w' ⟨s0, s1, s2, s3⟩; go_simp; with_reducible rfl)
         refine pu_ 11 28 23 4095 ?_
         refine tk_ 12 29 23 8191 ?_ (hy := by rintro w' ⟨s0, s1, s2, s3⟩; go_simp; with_reducible rfl)
         refine pu_ 13 30 23 16383 ?_
         refine pu_ 14 31 23 32767 ?_
         refine pure_ (i := 15) (N := some 32) (v := undef) (a' := ?_) (mb_ 23 65535) rfl rfl (any_of HT_.out (by kernel_rfl)) (fun _ _ _ h => h) (Or.inr ⟨by rfl, rfl⟩) ?_ ?_
         rotate_left
         ·
          simp only [Act.put, setIfInBounds_toArray, set_cons_zero, set_cons_succ, i64_w, i32_w]
          rfl
         refine pure_ (i := 16) (N := some 33) (v := undef) (a' := ?_) (mb_ 23 131071) rfl rfl (any_of HT_.out (by kernel_rfl)) (fun _ _ _ h => h) (Or.inr ⟨by rfl, rfl⟩) ?_ ?_
         rotate_left
         ·
          simp only [Act.put, setIfInBounds_toArray, set_cons_zero, set_cons_succ, i64_w, i32_w]
          rfl
         refine pure_ (i := 17) (N := some 34) (v := undef) (a' := ?_) (mb_ 23 262143) rfl rfl (any_of HT_.out (by kernel_rfl)) (fun _ _ _ h => h) (Or.inr ⟨by rfl, rfl⟩) ?_ ?_
         rotate_left
         ·
          simp only [Act.put, setIfInBounds_toArray, set_cons_zero, set_cons_succ, i64_w, i32_w]
          rfl
         refine pure_ (i := 18) (N := some 35) (v := undef) (a' := ?_) (mb_ 23 524287) rfl rfl (any_of HT_.out (by kernel_rfl)) (fun _ _ _ h => h) (Or.inr ⟨by rfl, rfl⟩) ?_ ?_
         rotate_left
         ·
          simp only [Act.put, setIfInBounds_toArray, set_cons_zero, set_cons_succ, i64_w, i32_w]
          rfl
         refine pure_ (i := 19) (N := some 36) (v := undef) (a' := ?_) (mb_ 23 1048575) rfl rfl (any_of HT_.out (by kernel_rfl)) (fun _ _ _ h => h) (Or.inr ⟨by rfl, rfl⟩) ?_ ?_
         rotate_left
         ·
          simp only [Act.put, setIfInBounds_toArray, set_cons_zero, set_cons_succ, i64_w, i32_w]
          rfl
         refine pu_ 20 37 23 2097151 ?_
         refine pu_ 21 38 23 4194303 ?_
         refine pu_ 22 8 23 8388607 ?_
         refine done_ (done_of HT_.out (by kernel_rfl)) ?_
         try go_wp2
         go_ret
         exact ⟨rx_, bl_⟩
        ·
         rw [if_neg c19] at H
         have c19b0 : ((rdOf false l1_0 (rd l2 0)) != (rdOf false l1_0 (rd l3 0))) = false := by simpa using c19
         (try (have c19b1 : decide ((rdOf false l1_0 (rd l2 0)) = (rdOf false l1_0 (rd l3 0))) = true := by simpa using c19))
         (try (have c19b2 : ((rdOf false l1_0 (rd l2 0)) == (rdOf false l1_0 (rd l3 0))) = true := by simpa using c19))
         (try (have c19b7 : (!((rdOf false l1_0 (rd l2 0)) == (rdOf false l1_0 (rd l3 0)))) = false := by simp only [c19b2, Bool.not_true, Bool.not_false]))
         clear c19
         replace H := Option.bind_eq_some_iff.mp H
         obtain ⟨t421, A220, H⟩ := H
         replace H : (some (decide (t421 > 1))) = some r := H
         have A22 := ak_ A220
         clear A220
         obtain rfl := Option.some.inj H
         try go_wp2
         have n0_ := ak_ (k1_ BK414.out)
         have n1_ := ak_ (k1_ BK415.out)
         have n2_ := ak_ (b1_ HB.out)
         clear BK414 BK415 HB
         have BK414 := n0_; have BK415 := n1_; have HB := n2_
         clear n0_ n1_ n2_
         have p419 : 0 ≤ (0 : Int) := (by omega)
         have q419 : 0 < (l3.length : Int) := od_
         obtain ⟨ad419, e419, hx419_0⟩ := Kd.at_int HR3.out 0 p419 q419
         have hw419_0 := hx419_0
         (try rw [show ((0 : Int)).toNat = 0 from rfl] at hw419_0)
         (try rw [show 0 * 1 = 0 from rfl] at hw419_0)
         (try rw [Addr.add_zero'] at hw419_0)
         cases e419
         have qi419 : (0 < l3.length) = True := eq_true (by omega)
         (try rw [show ((0 : Int)).toNat = 0 from rfl] at hx419_0)
         (try rw [Addr.add_zero'] at hx419_0)
         try replace hx419_0 := (HB.out.cell (World.block_lt_of_cell? w _ hx419_0)).trans hx419_0
         replace p419 := eq_true p419
         replace q419 := eq_true q419
         have p420 : 0 ≤ ((rd l3 0) : Int) := od_
         have q420 : (rd l3 0) < (l1_0.length : Int) := od_
         obtain ⟨ad420, e420, hx420_0⟩ := Kd.at_bool HR1_0.out (rd l3 0) p420 q420
         have hw420_0 := hx420_0
         obtain rfl : ad417 = ad420 := (by injection e420)
         try replace hx420_0 := (HB.out.cell (World.block_lt_of_cell? w _ hx420_0)).trans hx420_0
         replace p420 := eq_true p420
         replace q420 := eq_true q420
         refine start_ (n := 23) (S := fun w' => w'.cell? ⟨gb415, 0, none⟩ = some (.slice (some ad417) l1_0.length c1_0) ∧ w'.cell? ⟨gb415, 1, none⟩ = some (.int .i64 a1_1) ∧ w'.cell? ⟨gb414, 0, none⟩ = some (.slice A0_0 l0_0.length c0_0) ∧ w'.cell? ⟨gb414, 1, none⟩ = some (.int .i64 a0_1) ∧ w'.cell? ⟨gb414, 2, none⟩ = some (.int .i64 a0_2) ∧ w'.cell? ad419 = some (.int .i64 (rd l3 0)) ∧ w'.cell? (ad417.add ((rd l3 0)).toNat) = some (.bool (rdOf false l1_0 (rd l3 0)))) (ds := []) (mb_ 23 0) (by kernel_rfl) rfl rfl ⟨(blk_cell BK415.out 0).trans rfl, (blk_cell BK415.out 1).trans rfl, (blk_cell BK414.out 0).trans rfl, (blk_cell BK414.out 1).trans rfl, (blk_cell BK414.out 2).trans rfl, ((HB.out.cell (World.block_lt_of_cell? w _ hw419_0)).trans hw419_0), ((HB.out.cell (World.block_lt_of_cell? w _ hw420_0)).trans hw420_0)⟩ (fun hHeld => ?_); refine with_tabW impl_Night_together.tab2 impl_Night_together.bits2 (fun HT_ HW_ => ?_)
         generalize w11.drew = w23 at BK414 BK415 HB hx419_0 hx420_0 hHeld ⊢
         refine pu_ 0 17 23 1 ?_
         refine pu_ 1 18 23 3 ?_
         refine on_ 2 19 23 7 (fun K hK => ?_)
         refine goes_ Try.func93 (by kernel_rfl) rfl #[.slice (some ad416) l2.length c2, .slice (some ad419) l3.length c3] (by rfl) rfl rfl rs_ ?_
         with_reducible refine (impl_share.calls k _ _ l2 _ _ l3 false _ ?side1 ?side2 ?side3 ?side4 A12.out).mono ?_
         (case side1 => exact cs_ (Kd.C_below HR2.out HB.out))
         (case side2 => exact HC2.out)
         (case side3 => exact cs_ (Kd.C_below HR3.out HB.out))
         (case side4 => exact HC3.out)
         rintro e w24 ⟨rfl, hb⟩
         refine ⟨_, rfl, ?_⟩
         have n0_ := ak_ (blk_below (pk BK414.out) hb)
         have n1_ := ak_ (blk_below (pk BK415.out) hb)
         have n2_ := ak_ (bs_ bl_ hb)
         clear BK414 BK415 HB
         have BK414 := n0_; have BK415 := n1_; have HB := n2_
         clear n0_ n1_ n2_
         (try clear hb)
         (try clear hb2)
         (try clear hk)
         (try clear hi)
         refine hK.out _ _ ⟨(blk_cell BK415.out 0).trans rfl, (blk_cell BK415.out 1).trans rfl, (blk_cell BK414.out 0).trans rfl, (blk_cell BK414.out 1).trans rfl, (blk_cell BK414.out 2).trans rfl, ((HB.out.cell (World.block_lt_of_cell? w _ hw419_0)).trans hw419_0), ((HB.out.cell (World.block_lt_of_cell? w _ hw420_0)).trans hw420_0)⟩ (fun hHeld => ?_)
         clear hK K
         refine nm_ ?_
         refine pu_ 3 20 23 15 ?_
         refine pu_ 4 21 23 31 ?_
         refine pu_ 5 22 23 63 ?_
         refine pu_ 6 23 23 127 ?_
         refine pu_ 8 25 23 383 ?_
         refine pu_ 9 26 23 895 ?_
         refine tk_ 7 24 23 1023 ?_ (hy := by rintro w' ⟨s0, s1, s2, s3, s4, s5, s6⟩; go_simp; with_reducible rfl)
         refine tk_ 10 27 23 2047 ?_ (hy := by rintro w' ⟨s0, s1, s2, s3, s4, s5, s6⟩; go_simp; with_reducible rfl)
         refine pu_ 11 28 23 4095 ?_
         refine tk_ 12 29 23 8191 ?_ (hy := by rintro w' ⟨s0, s1, s2, s3, s4, s5, s6⟩; go_simp; with_reducible rfl)
         refine pu_ 13 30 23 16383 ?_
         refine pu_ 14 31 23 32767 ?_
         refine pu_ 17 34 23 163839 ?_
         refine tk_ 15 32 23 196607 ?_ (hy := by rintro w' ⟨s0, s1, s2, s3, s4, s5, s6⟩; go_simp; with_reducible rfl)
         refine tk_ 16 33 23 262143 ?_ (hy := by rintro w' ⟨s0, s1, s2, s3, s4, s5, s6⟩; go_simp; with_reducible rfl)
         refine on_ 18 35 23 524287 (fun K hK => ?_)
         refine goes_ Try.func87 (by kernel_rfl) rfl #[.agg #[.slice A0_0 l0_0.length c0_0, .int .i64 a0_1, .int .i64 a0_2], .agg #[.slice (some ad417) l1_0.length c1_0, .int .i64 a1_1], .bool (rdOf false l1_0 (rd l2 0))] (by rfl) rfl rfl rs_ ?_
         with_reducible refine (impl_Night_torches.calls _ _ l0_0 a0_1 a0_2 _ _ l1_0 a1_1 (rdOf false l1_0 (rd l2 0)) t421 _ ?side1 ?side2 ?side3 ?side4 A22.out).mono ?_
         (case side1 => exact cs_ (Kd.C_below HR0_0.out HB.out))
         (case side2 => exact HC0_0.out)
         (case side3 => exact cs_ (Kd.C_below HR1_0.out HB.out))
         (case side4 => exact HC1_0.out)
         rintro e w25 ⟨rfl, hb⟩
         refine ⟨_, rfl, ?_⟩
         have n0_ := ak_ (blk_below (pk BK414.out) hb)
         have n1_ := ak_ (blk_below (pk BK415.out) hb)
         have n2_ := ak_ (bs_ bl_ hb)
         clear BK414 BK415 HB
         have BK414 := n0_; have BK415 := n1_; have HB := n2_
         clear n0_ n1_ n2_
         (try clear hb)
         (try clear hb2)
         (try clear hk)
         (try clear hi)
         refine hK.out _ _ ⟨(blk_cell BK415.out 0).trans rfl, (blk_cell BK415.out 1).trans rfl, (blk_cell BK414.out 0).trans rfl, (blk_cell BK414.out 1).trans rfl, (blk_cell BK414.out 2).trans rfl, ((HB.out.cell (World.block_lt_of_cell? w _ hw419_0)).trans hw419_0), ((HB.out.cell (World.block_lt_of_cell? w _ hw420_0)).trans hw420_0)⟩ (fun hHeld => ?_)
         clear hK K
         refine nm_ ?_
         refine pu_ 19 36 23 1048575 ?_
         refine pu_ 20 37 23 2097151 ?_
         refine pu_ 21 38 23 4194303 ?_
         refine pu_ 22 8 23 8388607 ?_
         refine done_ (done_of HT_.out (by kernel_rfl)) ?_
         try go_wp2
         go_ret
         exact ⟨rx_, bl_⟩
       ·
        rw [if_neg c18] at H
        exact absurd H (by simp)
      ·
       rw [if_neg c17] at H
       exact absurd H (by simp)
     ·
      rw [if_neg c16] at H
      exact absurd H (by simp)
   ·
    rw [if_neg c7] at H
    exact absurd H (by simp)
  ·
   rw [if_neg c6] at H
   exact absurd H (by simp)
 ·
  rw [if_neg c5] at H
  exact absurd H (by simp)
def sepK {α : Type} (e : Nat) (d : Kd α) : Kd (List α) where
 sz := 1
 E := e :: d.E
 K := (Kd.slice e d).K
 M := fun w base ok xs cs => ∃ v, cs = [v] ∧ Kd.S d e w base ok v xs
 K_len := (Kd.slice e d).K_len
 K_one := (Kd.slice e d).K_one
 K_below := (Kd.slice e d).K_below
 K_of_M := by
  rintro w base ok x cs ⟨v, rfl, h⟩
  exact (Kd.slice e d).K_of_M (base := base) (ok := ok) ⟨v, rfl, Kd.S_R h⟩
 M_mono := by
  rintro w base ok ok' x cs hok ⟨v, rfl, h⟩
  exact ⟨v, rfl, Kd.S_mono h hok⟩
 M_bound := by
  rintro w base ok x cs ⟨v, rfl, h⟩
  exact ⟨v, rfl, Kd.S_bound h⟩
 M_move := by
  rintro w w1 base ok x cs hm ⟨v, rfl, h⟩
  exact ⟨v, rfl, Kd.S_move h hm⟩
 M_lower := by
  rintro w base base' ok x cs hb ⟨v, rfl, h⟩
  exact ⟨v, rfl, Kd.S_lower h hb⟩
theorem sep_S {α : Type} {d : Kd α} {e e' base : Nat} {W : World} {ok : Nat → Prop} {v : Value} {xs : List (List α)} (h : Kd.S (sepK e d) e' W base ok v xs) : Kd.S (Kd.slice e d) e' W base ok v xs := by
 obtain ⟨f, h0, inner, ho, hr⟩ := h
 refine ⟨f, h0, inner, ho, hr.imp_ (fun p c hp => ?_)⟩
 obtain ⟨v, e_, hS⟩ := hp
 exact ⟨v, e_, Kd.S_R hS⟩
theorem row_lits {α : Type} (d : Kd α) {e base : Nat} {ok : Nat → Prop} {W : World} {xs : List α} {inner : List Value} (okj : Nat → Nat → Prop) (hl : inner.length = xs.length * d.sz) (hrep : ∀ j x, xs[j]? = some x → d.M W base (okj j) x ((inner.drop (j * d.sz)).take d.sz)) (hap : ∀ i j k, okj i k → okj j k → i = j) (hok : ∀ j k, okj j k → ok k) (hf : ok W.heap.size) (hb : base ≤ W.heap.size) (hm : xs.length ≤ 1000000) :
  Kd.S d e (W.alloc (.cells inner.toArray e)) base ok (.slice (some ⟨W.heap.size, 0, none⟩) xs.length xs.length) xs := by
 obtain ⟨f, hr⟩ := Kd.reps_tag (d := d) (w := W) (base := base) (ok := fun k => ok k ∧ k < W.heap.size) (fun j k => okj j k ∧ k < W.heap.size) (fun i j k h1 h2 => hap i j k h1.1 h2.1) (fun j k h => ⟨hok j k h.1, h.2⟩) hl (fun j x hx => d.M_mono (fun k hk => ⟨hk.1, hk.2.2.1⟩) (d.M_bound (hrep j x hx)))
 refine ⟨f, fun k hk => ?_, inner, ?_, hr.imp_ (fun p c hp => ?_)⟩
 ·have : W.heap.size = k := by simpa [Value.ownBlock] using hk
  rw [← this]; exact hf
 ·have h2 := World.ownsRow_lit (base := base) (e := e) (size := d.sz) W inner.toArray xs.length hb (by simp [maxLen]; omega) (by simpa using hl)
  rw [List.length_zipIdx]
  have h3 : (W.alloc (.cells inner.toArray e)).ownsRow base e d.sz (.slice (some ⟨W.heap.size, 0, none⟩) xs.length xs.length) xs.length inner := by simpa using h2
  exact h3
 ·refine (Kd.tag f d).M_mono (fun k hk => ⟨hk.1, fun e_ => ?_⟩) ((Kd.tag f d).M_move (fun k hk => (ba_ (Below.refl W.heap.size W) (.cells inner.toArray e)).block k hk.2) hp)
  have h3 : k = W.heap.size := by simpa [Value.ownBlock] using e_
  have := hk.2
  omega
theorem row_lit1 {α : Type} {d : Kd α} {e e' base z n c : Nat} {A : Option Addr} {W : World} {a : List α} (h : d.R e W base (fun k => z ≤ k) (.slice A n c) a) (hz : z ≤ W.heap.size) (hb : base ≤ W.heap.size) :
  Kd.S (Kd.slice e d) e' (W.alloc (.cells #[.slice A n c] e')) base (fun k => z ≤ k) (.slice (some ⟨W.heap.size, 0, none⟩) 1 1) [a] := by
 refine row_lits (Kd.slice e d) (xs := [a]) (inner := [.slice A n c]) (fun j k => j = 0 ∧ z ≤ k) rfl (fun j x hx => ?_) (fun i j k h1 h2 => h1.1.trans h2.1.symm) (fun j k h => h.2) hz hb (by simp)
 cases j with
 | zero =>
  obtain rfl : a = x := by simpa using hx
  exact ⟨_, rfl, Kd.R_mono h (fun k hk => ⟨rfl, hk⟩)⟩
 | succ j => simp at hx
theorem row_lit2 {α : Type} {d : Kd α} {e e' base z z2 n1 c1 n2 c2 : Nat} {A1 A2 : Option Addr} {W : World} {a b : List α} (h1 : d.R e W base (fun k => z ≤ k ∧ k < z2) (.slice A1 n1 c1) a) (h2 : d.R e W base (fun k => z2 ≤ k) (.slice A2 n2 c2) b) (hz : z ≤ z2) (hz2 : z2 ≤ W.heap.size) (hb : base ≤ W.heap.size) :
  Kd.S (Kd.slice e d) e' (W.alloc (.cells #[.slice A1 n1 c1, .slice A2 n2 c2] e')) base (fun k => z ≤ k) (.slice (some ⟨W.heap.size, 0, none⟩) 2 2) [a, b] := by
 refine row_lits (Kd.slice e d) (xs := [a, b]) (inner := [.slice A1 n1 c1, .slice A2 n2 c2]) (fun j k => (j = 0 ∧ z ≤ k ∧ k < z2) ∨ (j = 1 ∧ z2 ≤ k)) rfl (fun j x hx => ?_) (fun i j k h1 h2 => by omega) (fun j k h => by omega) (by omega) hb (by simp)
 match j with
 | 0 =>
  obtain rfl : a = x := by simpa using hx
  exact ⟨_, rfl, Kd.R_mono h1 (fun k hk => .inl ⟨rfl, hk⟩)⟩
 | 1 =>
  obtain rfl : b = x := by simpa using hx
  exact ⟨_, rfl, Kd.R_mono h2 (fun k hk => .inr ⟨rfl, hk⟩)⟩
 | j + 2 => simp at hx
structure AgW (s1 : Nat) (ws W : World) : Prop where
 sz : ws.heap.size ≤ W.heap.size
 at_ : ∀ k, s1 ≤ k → k < ws.heap.size → W.heap[k]? = ws.heap[k]?
theorem AgW.below {s1 : Nat} {ws W W1 : World} (h : AgW s1 ws W) (hb : Below W.heap.size W W1) : AgW s1 ws W1 := ⟨Nat.le_trans h.sz hb.size, fun k h1 h2 => (hb.block k (Nat.lt_of_lt_of_le h2 h.sz)).trans (h.at_ k h1 h2)⟩
theorem AgW.alloc {s1 : Nat} {ws W : World} (h : AgW s1 ws W) (o : Obj) : AgW s1 ws (W.alloc o) := h.below (ba_ (Below.refl _ _) o)
theorem AgW.grown {s1 : Nat} {ws W W1 : World} (h : AgW s1 ws W) {row : Option Nat} (hg : W.grownBy W1 row) (hr : ∀ k, row = some k → k < s1 ∨ ws.heap.size ≤ k) : AgW s1 ws W1 := by
 refine ⟨Nat.le_trans h.sz hg.size, fun k h1 h2 => (hg.block k (Nat.lt_of_lt_of_le h2 h.sz) (fun e => ?_)).trans (h.at_ k h1 h2)⟩
 have := hr k e.symm
 omega
theorem ro_get {ti ts s1 base gl cL : Nat} {ws : World} {ls : List (List Int)} (h : Kd.N (Kd.slice ti (Kd.int .i64)) ts ws base (fun k => s1 ≤ k) (.slice (some ⟨gl, 0, none⟩) ls.length cL) ls) (j : Nat) (hj : j < ls.length) :
  ∃ (Aj : Option Addr) (cj : Nat), (∀ W : World, AgW s1 ws W → W.cell? ⟨gl, j, none⟩ = some (.slice Aj (ls.getD j []).length cj) ∧ Kd.C (Kd.int .i64) W Aj (ls.getD j []).length (ls.getD j [])) ∧ (ls.getD j []).length ≤ cj := by
 obtain ⟨c, -, hFK, hcc, -⟩ := Kd.N_elem h [] (j : Int) (by omega) (by omega)
 rw [Int.toNat_natCast] at hFK hcc
 obtain ⟨Aj, cj, rfl, hle, hF⟩ := Kd.FK_slice_open hFK
 have h0 := hcc 0 _ rfl
 rw [show (Kd.slice ti (Kd.int .i64)).sz = 1 from rfl, Nat.mul_one, Nat.add_zero] at h0
 have hg1 : s1 ≤ gl := h.1 gl (by simp [Value.ownBlock])
 have hg2 : gl < ws.heap.size := Kd.N_lt h gl (by simp [Value.ownBlock])
 refine ⟨Aj, cj, fun W hW => ⟨?_, hF W (fun k hk hlt => hW.at_ k hk.1 hlt)⟩, hle⟩
 rw [← h0]
 simp [World.cell?, hW.at_ gl hg1 hg2]
def nrIn (k : Nat) (ts : List Int) (se tq : Int) (ov : List Bool) (t : Int) (a : List Int) : List (List Int) → List (List (List Int)) → Option (List (List (List Int)))
 | [], acc => some acc
 | b :: bs, acc => if 1 < tq then (impl_Night_together.f k ts se tq ov t a b).bind fun q => if q = true then (if acc.length < 1000000 ∧ b.length < 1000000 then nrIn k ts se tq ov t a bs (acc ++ [[a, b]]) else none) else nrIn k ts se tq ov t a bs acc else nrIn k ts se tq ov t a bs acc
def nrOut (k : Nat) (ts : List Int) (se tq : Int) (ov : List Bool) (t : Int) : List (List Int) → List (List (List Int)) → Option (List (List (List Int)))
 | [], acc => some acc
 | a :: ls, acc => if acc.length < 1000000 ∧ a.length < 1000000 then (nrIn k ts se tq ov t a ls (acc ++ [[a]])).bind (nrOut k ts se tq ov t ls) else none
def impl_Night_rounds.f (k : Nat) (ts : List Int) (se tq : Int) (ov : List Bool) (t : Int) : Option (List (List (List Int))) := (impl_Night_groups.f k ts se tq ov t).bind fun ls => if ls.length < 1000000 then nrOut k ts se tq ov t ls [] else none
theorem impl_Night_rounds.calls (k : Nat) (At : Option Addr) (ct : Nat) (ts : List Int) (se tq : Int) (Ao : Option Addr) (co : Nat) (ov : List Bool) (t : Int) (r : List (List (List Int))) (w : World)
  (ht : Kd.C (Kd.int .i64) w At ts.length ts) (hct : ts.length ≤ ct) (ho : Kd.C Kd.bool w Ao ov.length ov) (hco : ov.length ≤ co) (h : impl_Night_rounds.f k ts se tq ov t = some r) :
  Calls Try.prog 42 #[.agg #[.slice At ts.length ct, .int .i64 se, .int .i64 tq], .agg #[.slice Ao ov.length co, .int .i64 t]] w fun e w' => ∃ v0_ : Value, e = .returned v0_ ∧ Kd.S (sepK 22 (Kd.slice 3 (Kd.int .i64))) 57 w' w.heap.size (fun _ => True) v0_ r ∧ Below w.heap.size w w' := by
 have hu := Try.underlying33
 have hu2 := Try.underlying35
 unfold impl_Night_rounds.f at h
 obtain ⟨ls, h1, h⟩ := Option.bind_eq_some_iff.mp h
 by_cases hls : ls.length < 1000000
 rotate_left
 ·rw [if_neg hls] at h; exact absurd h (by simp)
 rw [if_pos hls] at h
 have AG1 := ak_ fun (W : World) (hb : Below w.heap.size w W) => impl_Night_groups.calls k At ct ts se tq Ao co ov t ls W (Kd.C_below ht hb) hct (Kd.C_below ho hb) hco h1
 have ATO := ak_ fun (a b : List Int) (q : Bool) (hq : impl_Night_together.f k ts se tq ov t a b = some q) (W : World) (hb : Below w.heap.size w W) (Aa : Option Addr) (ca : Nat) (Ab : Option Addr) (cb : Nat) (hA : Kd.C (Kd.int .i64) W Aa a.length a) (hca : a.length ≤ ca) (hB : Kd.C (Kd.int .i64) W Ab b.length b) (hcb : b.length ≤ cb) => impl_Night_together.calls k At ct ts se tq Ao co ov t Aa ca a Ab cb b q W (Kd.C_below ht hb) hct (Kd.C_below ho hb) hco hA hca hB hcb hq
 have HLS := ak_ hls
 have H := ak_ h
 have HB := ak_ (Below.refl w.heap.size w)
 clear h h1 hls ht hct ho hco
 go_enter Try.func42, Try.ntmps42
 go_wp2_with (first | ((with_reducible refine gate_dst (N := 2) rfl ?_); refine bx_ 2 #[.slice At ts.length ct, .int .i64 se, .int .i64 tq] 33 ?_; intro gb2 hg w2 hbox hb; have nb_ := ak_ (bs_ (bb_ HB.out) hb); have nc_ := ak_ hbox; have nd_ := ak_ ((by rw [hg]; exact (bz_ (bb_ HB.out)) : w.heap.size ≤ gb2)); clear HB hb hbox hg; have HB := nb_; have BK2 := nc_; have GE2 := nd_; clear nb_ nc_ nd_; have hz2_0 := (blk_cell BK2.out 0); have hf2_0 := (blk_frozen BK2.out 0); simp at hz2_0; have hz2_1 := (blk_cell BK2.out 1); have hf2_1 := (blk_frozen BK2.out 1); simp at hz2_1; have hz2_2 := (blk_cell BK2.out 2); have hf2_2 := (blk_frozen BK2.out 2); simp at hz2_2; skip) | ((with_reducible refine gate_dst (N := 3) rfl ?_); refine bx_ 3 #[.slice Ao ov.length co, .int .i64 t] 35 ?_; intro gb3 hg w3 hbox hb; have n0_ := ak_ (blk_below (pk BK2.out) hb); have m0_ := ak_ ((by rw [hg]; exact Nat.ne_of_lt (blk_lt (pk BK2.out)) : gb2 ≠ gb3)); have nb_ := ak_ (bs_ (bb_ HB.out) hb); have nc_ := ak_ hbox; have nd_ := ak_ ((by rw [hg]; exact (bz_ (bb_ HB.out)) : w.heap.size ≤ gb3)); clear HB hb hbox hg; clear BK2; have BK2 := n0_; have NE2_3 := m0_; have HB := nb_; have BK3 := nc_; have GE3 := nd_; clear nb_ nc_ nd_ n0_ m0_; have hz3_0 := (blk_cell BK3.out 0); have hf3_0 := (blk_frozen BK3.out 0); simp at hz3_0; have hz3_1 := (blk_cell BK3.out 1); have hf3_1 := (blk_frozen BK3.out 1); simp at hz3_1; have hq2_0 := blk_cell (ka_ BK2.out (.cells #[] 57)) 0; simp at hq2_0; have hq2_1 := blk_cell (ka_ BK2.out (.cells #[] 57)) 1; simp at hq2_1; have hq2_2 := blk_cell (ka_ BK2.out (.cells #[] 57)) 2; simp at hq2_2; have hq3_0 := blk_cell (ka_ BK3.out (.cells #[] 57)) 0; simp at hq3_0; have hq3_1 := blk_cell (ka_ BK3.out (.cells #[] 57)) 1; simp at hq3_1; skip) | (go_at_call 69; refine (AG1.out _ (bb_ HB.out)).mono ?_; rintro e ws ⟨v14, rfl, hn, hb⟩; obtain ⟨Al, cL, rfl⟩ := Kd.N_slice hn; obtain ⟨s1, hs1⟩ : ∃ s, s = (w3.alloc (.cells #[] 57)).heap.size := ⟨_, rfl⟩; rw [← hs1] at hn; have HL := ak_ hn; have AG := ak_ (AgW.mk (s1 := s1) (ws := ws) (W := ws) (Nat.le_refl _) (fun _ _ _ => rfl)); replace BK2 := ak_ (blk_below (pk BK2.out) hb); replace BK3 := ak_ (blk_below (pk BK3.out) hb); have OUT := ak_ (Kd.S_mono (ok' := fun k_ => k_ < s1 ∨ ws.heap.size ≤ k_) (Kd.S_below (Kd.S_bound (gp_lit0 (sepK 22 (Kd.slice 3 (Kd.int .i64))) 57 w3 (bz_ HB.out))) hb) (fun k_ hk_ => .inl (by rw [hs1]; exact hk_.2.2.1))); replace HB := ak_ (bs_ (bb_ HB.out) hb); clear hb hn hs1; clear AG1 hq2_0 hq2_1 hq2_2 hq3_0 hq3_1 hz2_0 hz2_1 hz2_2 hf2_0 hf2_1 hf2_2 hz3_0 hz3_1 hf3_0 hf3_1; generalize Value.slice (some ⟨w3.heap.size, 0, none⟩) 0 0 = v5 at OUT ⊢))
 go_loopg [5, 17] ls.length (fun gg v5 v17 wr => ∃ (j : Nat) (acc : List (List (List Int))), v17 = .int .i64 (j : Int) ∧ Aside0 (j ≤ ls.length ∧ ls.length - j ≤ gg) ∧ Aside0 (nrOut k ts se tq ov t (ls.drop j) acc = some r) ∧ Aside0 (Kd.S (sepK 22 (Kd.slice 3 (Kd.int .i64))) 57 wr w.heap.size (fun k_ => k_ < s1 ∨ ws.heap.size ≤ k_) v5 acc) ∧ Aside0 (AgW s1 ws wr) ∧ Aside0 (wr.heap[gb2]? = some (.cells #[.slice At ts.length ct, .int .i64 se, .int .i64 tq] 33 (0, 0))) ∧ Aside0 (wr.heap[gb3]? = some (.cells #[.slice Ao ov.length co, .int .i64 t] 35 (0, 0))) ∧ Aside0 (Below w.heap.size w wr))
 case atStart => exact ⟨0, [], rfl, ⟨⟨Nat.zero_le _, Nat.le_refl _⟩⟩, H, ⟨Kd.pS OUT.out⟩, ⟨(by repeat (first | exact AG.out | refine AgW.alloc ?_ _))⟩, ⟨pk BK2.out⟩, ⟨pk BK3.out⟩, ⟨(bb_ HB.out)⟩⟩
 case round =>
  clear H OUT AG BK2 BK3 HB
  obtain ⟨j, acc, rfl, HJ, H, OUT, AG, BK2, BK3, HB⟩ := hrel
  by_cases hj : j < ls.length
  ·have j1 : decide ((j : Int) < (ls.length : Int)) = true := decide_eq_true (by omega)
   have j1n : decide (j < ls.length) = true := decide_eq_true hj
   have j0p : ((0 : Int) ≤ (j : Int)) = True := eq_true (by omega)
   have j1p : ((j : Int) < (ls.length : Int)) = True := eq_true (by omega)
   obtain ⟨jn, hjn⟩ : ∃ x : Int, x = ((j + 1 : Nat) : Int) := ⟨_, rfl⟩
   have c19 : ((0 : Int) ≤ jn) = True := eq_true (by omega)
   have c20 : (jn ≤ (ls.length : Int)) = True := eq_true (by omega)
   have c19b : decide ((0 : Int) ≤ jn) = true := decide_eq_true (by omega)
   have c20b : decide (jn ≤ (ls.length : Int)) = true := decide_eq_true (by omega)
   obtain ⟨gl, cl2, eAl, -⟩ := Kd.N_form HL.out (by omega)
   injection eAl with eAl _ ecl
   subst eAl
   subst ecl
   obtain ⟨Aa, ca, hcA, hla⟩ := ro_get HL.out j hj
   obtain ⟨a, ha⟩ : ∃ a, a = ls.getD j [] := ⟨_, rfl⟩
   rw [← ha] at hcA hla
   have hlj : ls[j] = a := by rw [ha, List.getD_eq_getElem?_getD, List.getElem?_eq_getElem hj]; rfl
   have h := H.out
   rw [List.drop_eq_getElem_cons hj, hlj] at h
   simp only [nrOut] at h
   by_cases hac : acc.length < 1000000 ∧ a.length < 1000000
   rotate_left
   ·rw [if_neg hac] at h; exact absurd h (by simp)
   rw [if_pos hac] at h
   have hcell := (hcA wr AG.out).1
   have ACA := ak_ fun (W : World) (hw : AgW s1 ws W) => slices_Clone_int_int.calls Aa ca a a W (hcA W hw).2 hla (by unfold slices_Clone_int_int.f; rw [if_pos (by omega)])
   have HCA := ak_ hcA
   have HLA := ak_ hla
   have HH := ak_ h
   have HACC := ak_ hac
   have HJJ := ak_ hj
   have hw19 : IntKind.i64.wrap ((j : Int) + 1) = jn := by have := HLS.out; rw [IntWalk.i64_in _ ⟨by omega, by omega⟩]; omega
   obtain ⟨i27, hi27, _, hsz27, _⟩ := info_parts info22
   have hcut0 := cut_from (P := Try.prog) 57 22 .i64 Try.underlying57 hi27 1 hsz27 (some ⟨gl, 0, none⟩) ls.length cL jn (by omega) (by omega)
   obtain ⟨A31, hA31⟩ : ∃ A1, A1 = (if cL = jn.toNat then (some ⟨gl, 0, none⟩ : Option Addr) else (some (⟨gl, 0, none⟩ : Addr)).map (·.add (jn.toNat * 1))) := ⟨_, rfl⟩
   obtain ⟨c31, hc31⟩ : ∃ c1, c1 = cL - jn.toNat := ⟨_, rfl⟩
   obtain ⟨m31, hm31⟩ : ∃ m1, m1 = ls.length - (j + 1) := ⟨_, rfl⟩
   have hcut : ∀ W : World, (Instr.slice 57 (.slice (some ⟨gl, 0, none⟩) ls.length cL) (some (.int .i64 jn)) none none).run Try.prog W = .ok (.slice A31 m31 c31) W := by
    intro W
    rw [hcut0 W, ← hA31, ← hc31, hm31, show jn.toNat = j + 1 from by omega]
   have HA31 := ak_ (show m31 = 0 ∨ A31 = some ⟨gl, j + 1, none⟩ from by
    rcases Nat.eq_zero_or_pos m31 with h0 | h0
    ·exact .inl h0
    ·right
     have h2 := (Kd.N_reads' HL.out).2.1
     rw [hA31, if_neg (by omega), show jn.toNat = j + 1 from by omega]
     simp [Addr.add])
   have HM31 := ak_ hm31
   have HJN := ak_ hjn
   have HAS := ak_ (Kd.S_mono (Kd.S_bound OUT.out) (fun k_ hk_ => (⟨hk_.1, hk_.2.2.1⟩ : (k_ < s1 ∨ ws.heap.size ≤ k_) ∧ k_ < wr.heap.size)))
   obtain ⟨z, hz⟩ : ∃ z, z = wr.heap.size := ⟨_, rfl⟩
   have HZ := ak_ (show ws.heap.size ≤ z ∧ w.heap.size ≤ z from by rw [hz]; exact ⟨AG.out.sz, bz_ HB.out⟩)
   rw [← hz] at HAS
   have HZE := ak_ hz
   clear h H hac hj hlj ha hcA hla OUT hcut0 hA31 hc31 hm31 hsz27 hi27 hz hjn
   have OUT := HAS
   clear HAS
   go_wp2_with (first | (go_at_call 70; refine (ACA.out _ (by repeat (first | exact AG.out | refine AgW.alloc ?_ _))).mono ?_; rintro e w24 ⟨v24, rfl, ho, hb⟩; obtain ⟨Aw24, cw24, rfl⟩ := Kd.R_slice ho; have CL1 := ak_ (Kd.R_mono (ok' := fun k_ => z ≤ k_) (Kd.R_lower (Kd.R_bound ho) (bz_ (bb_ HB.out))) (fun k_ hk_ => by rw [HZE.out]; exact hk_.2.1)); have HZ24 := ak_ (show z ≤ w24.heap.size from by rw [HZE.out]; exact hb.size); clear hcell; replace BK2 := ak_ (blk_below (pk BK2.out) hb); replace BK3 := ak_ (blk_below (pk BK3.out) hb); replace AG := ak_ (AgW.below (by repeat (first | exact AG.out | refine AgW.alloc ?_ _)) hb); replace OUT := ak_ (Kd.S_below (Kd.pS OUT.out) hb); replace HB := ak_ (bs_ (bb_ HB.out) hb); clear hb ho) | ((with_reducible refine gate_builtin (b := .append) (xs := #[.tmp 22, .tmp 26]) rfl ?_); at_builtin; refine Kd.S_append (sepK 22 (Kd.slice 3 (Kd.int .i64))) (w0 := w) w.heap.size rfl (.tmp 22) (.tmp 26) 30 57 (.slice none 0 0) 24 rfl Try.underlying30 info57 rfl (by decide) (by omega) u5 acc [a] [.slice (some ⟨w24.heap.size, 0, none⟩) 1 1] (fun k_ => k_ < s1 ∨ ws.heap.size ≤ k_) (fun k_ => z ≤ k_) rfl (congrArg (fun z_ => Value.slice (some ⟨z_, 0, none⟩) 1 1) (Array.size_push ..).symm) ?aP ?aK ?aF ?aO ?aB ?aS ?aL ?_; (case aP => exact ⟨_, rfl, row_lit1 CL1.out HZ24.out (Nat.le_trans HZ.out.2 HZ24.out)⟩); (case aK => (intro k_ hk_; exact ⟨.inr (Nat.le_trans HZ.out.1 hk_), fun e_ => Nat.not_le.2 ((Kd.S_R OUT.out).1 k_ e_.symm).2 hk_⟩)); (case aF => (intro k_ hk_; exact .inr (Nat.le_trans (AgW.sz (AgW.alloc AG.out _)) hk_))); (case aO => exact Kd.S_mono (Kd.pS OUT.out) (fun k_ hk_ => ⟨hk_.1, Nat.not_le.2 hk_.2⟩)); (case aB => exact (bb_ HB.out)); (case aS => exact bz_ (bb_ HB.out)); (case aL => have := HACC.out; omega); intro v36 w36 ho hb hg hat; replace BK2 := ak_ (blk_grown (pk BK2.out) hg (Kd.S_ne OUT.out BK2.out (by decide))); replace BK3 := ak_ (blk_grown (pk BK3.out) hg (Kd.S_ne OUT.out BK3.out (by decide))); replace AG := ak_ (AgW.grown (AgW.alloc AG.out _) hg (fun k_ hk_ => ((Kd.S_R OUT.out).1 k_ hk_).1)); replace HB := ak_ (hb); replace OUT := ak_ (ho); clear hg hat hb ho CL1 HZ24))
   go_loopg [5, 33] m31 (fun gg v5 v33 wr => ∃ (i : Nat) (acc : List (List (List Int))), v33 = .int .i64 (i : Int) ∧ Aside0 (i ≤ m31 ∧ m31 - i ≤ gg) ∧ Aside0 ((nrIn k ts se tq ov t a (ls.drop (j + 1 + i)) acc).bind (nrOut k ts se tq ov t (ls.drop (j + 1))) = some r) ∧ Aside0 (Kd.S (sepK 22 (Kd.slice 3 (Kd.int .i64))) 57 wr w.heap.size (fun k_ => k_ < s1 ∨ ws.heap.size ≤ k_) v5 acc) ∧ Aside0 (AgW s1 ws wr) ∧ Aside0 (wr.heap[gb2]? = some (.cells #[.slice At ts.length ct, .int .i64 se, .int .i64 tq] 33 (0, 0))) ∧ Aside0 (wr.heap[gb3]? = some (.cells #[.slice Ao ov.length co, .int .i64 t] 35 (0, 0))) ∧ Aside0 (Below w.heap.size w wr))
   case atStart => exact ⟨0, acc ++ [[a]], rfl, ⟨⟨Nat.zero_le _, Nat.le_refl _⟩⟩, HH, ⟨Kd.pS OUT.out⟩, ⟨(by repeat (first | exact AG.out | refine AgW.alloc ?_ _))⟩, ⟨pk BK2.out⟩, ⟨pk BK3.out⟩, ⟨(bb_ HB.out)⟩⟩
   case round =>
    clear HH OUT AG BK2 BK3 HB HZ HZE HACC hcut
    clear j1 j1n j0p j1p c19 c20 c19b c20b
    obtain ⟨i, acc, rfl, HI, H, OUT, AG, BK2, BK3, HB⟩ := hrel
    by_cases hi : i < m31
    ·have i1 : decide ((i : Int) < (m31 : Int)) = true := decide_eq_true (by omega)
     have i1n : decide (i < m31) = true := decide_eq_true hi
     have i0p : ((0 : Int) ≤ (i : Int)) = True := eq_true (by omega)
     have i1p : ((i : Int) < (m31 : Int)) = True := eq_true (by omega)
     obtain rfl : A31 = some ⟨gl, j + 1, none⟩ := HA31.out.resolve_left (by omega)
     have hjl : j + 1 + i < ls.length := by have := HM31.out; omega
     obtain ⟨Ab, cb, hcB, hlb⟩ := ro_get HL.out (j + 1 + i) hjl
     obtain ⟨b, hb⟩ : ∃ b, b = ls.getD (j + 1 + i) [] := ⟨_, rfl⟩
     rw [← hb] at hcB hlb
     have hlj : ls[j + 1 + i] = b := by rw [hb, List.getD_eq_getElem?_getD, List.getElem?_eq_getElem hjl]; rfl
     have h := H.out
     rw [List.drop_eq_getElem_cons hjl, hlj] at h
     simp only [nrIn] at h
     have hcell := (hcB wr AG.out).1
     have hw33 : IntKind.i64.wrap ((i : Int) + 1) = ((i + 1 : Nat) : Int) := by have := HLS.out; rw [IntWalk.i64_in _ ⟨by omega, by omega⟩]; omega
     have HCB := ak_ hcB
     have HLB := ak_ hlb
     have HII := ak_ hi
     have hq2_2 := blk_cell BK2.out 2
     simp at hq2_2
     by_cases ht1 : 1 < tq
     ·rw [if_pos ht1] at h
      have c31b0 : decide (1 < tq) = true := decide_eq_true ht1
      obtain ⟨b1, h, h2⟩ := Option.bind_eq_some_iff.mp h
      obtain ⟨q, hq, h⟩ := Option.bind_eq_some_iff.mp h
      have AT2 := ak_ (ATO.out a b q hq)
      have hq2_0 := blk_cell BK2.out 0
      have hq2_1 := blk_cell BK2.out 1
      have hq3_0 := blk_cell BK3.out 0
      have hq3_1 := blk_cell BK3.out 1
      simp at hq2_0
      simp at hq2_1
      simp at hq3_0
      simp at hq3_1
      cases q with
      | false =>
       have HH := ak_ (show (nrIn k ts se tq ov t a (ls.drop (j + 1 + (i + 1))) acc).bind (nrOut k ts se tq ov t (ls.drop (j + 1))) = some r from Option.bind_eq_some_iff.mpr ⟨b1, h, h2⟩)
       clear h h2 hq H hcB hlb hi hjl hlj hb ht1
       go_wp2_with (first | (go_at_call 71; refine (AT2.out _ (bb_ HB.out) Aa ca Ab cb (HCA.out _ (by repeat (first | exact AG.out | refine AgW.alloc ?_ _))).2 HLA.out (HCB.out _ (by repeat (first | exact AG.out | refine AgW.alloc ?_ _))).2 HLB.out).mono ?_; rintro e w45 ⟨rfl, hb⟩; clear hq2_0 hq2_1 hq2_2 hq3_0 hq3_1 hcell AT2; replace BK2 := ak_ (blk_below (pk BK2.out) hb); replace BK3 := ak_ (blk_below (pk BK3.out) hb); replace AG := ak_ (AgW.below (by repeat (first | exact AG.out | refine AgW.alloc ?_ _)) hb); replace OUT := ak_ (Kd.S_below (Kd.pS OUT.out) hb); replace HB := ak_ (bs_ (bb_ HB.out) hb); clear hb))
       go_roundg (m31 - (i + 1))
       case measure => have := HI.out; have := HII.out; omega
       case rel => exact ⟨i + 1, acc, (by first | rfl | (simp; done)), ⟨⟨by have := HII.out; omega, Nat.le_refl _⟩⟩, HH, ⟨Kd.pS OUT.out⟩, ⟨(by repeat (first | exact AG.out | refine AgW.alloc ?_ _))⟩, ⟨pk BK2.out⟩, ⟨pk BK3.out⟩, ⟨(bb_ HB.out)⟩⟩
      | true =>
       rw [if_pos rfl] at h
       by_cases hac : acc.length < 1000000 ∧ b.length < 1000000
       rotate_left
       ·rw [if_neg hac] at h; exact absurd h (by simp)
       rw [if_pos hac] at h
       have HH := ak_ (show (nrIn k ts se tq ov t a (ls.drop (j + 1 + (i + 1))) (acc ++ [[a, b]])).bind (nrOut k ts se tq ov t (ls.drop (j + 1))) = some r from Option.bind_eq_some_iff.mpr ⟨b1, h, h2⟩)
       have ACB := ak_ fun (W : World) (hw : AgW s1 ws W) => slices_Clone_int_int.calls Ab cb b b W (hcB W hw).2 hlb (by unfold slices_Clone_int_int.f; rw [if_pos (by omega)])
       have HACC := ak_ hac
       clear h h2 hq H hcB hlb hi hjl hlj hb ht1 hac
       go_upto_region 10 with (first | (go_at_call 71; refine (AT2.out _ (bb_ HB.out) Aa ca Ab cb (HCA.out _ (by repeat (first | exact AG.out | refine AgW.alloc ?_ _))).2 HLA.out (HCB.out _ (by repeat (first | exact AG.out | refine AgW.alloc ?_ _))).2 HLB.out).mono ?_; rintro e w45 ⟨rfl, hb⟩; clear hq2_0 hq2_1 hq2_2 hq3_0 hq3_1 hcell AT2; replace BK2 := ak_ (blk_below (pk BK2.out) hb); replace BK3 := ak_ (blk_below (pk BK3.out) hb); replace AG := ak_ (AgW.below (by repeat (first | exact AG.out | refine AgW.alloc ?_ _)) hb); replace OUT := ak_ (Kd.S_below (Kd.pS OUT.out) hb); replace HB := ak_ (bs_ (bb_ HB.out) hb); clear hb))
       have HAS := ak_ (Kd.S_mono (Kd.S_bound OUT.out) (fun k_ hk_ => (⟨hk_.1, hk_.2.2.1⟩ : (k_ < s1 ∨ ws.heap.size ≤ k_) ∧ k_ < w45.heap.size)))
       obtain ⟨z, hz⟩ : ∃ z, z = w45.heap.size := ⟨_, rfl⟩
       have HZ := ak_ (show ws.heap.size ≤ z ∧ w.heap.size ≤ z from by rw [hz]; exact ⟨AG.out.sz, bz_ HB.out⟩)
       rw [← hz] at HAS
       have HZE := ak_ hz
       clear OUT hz
       have OUT := HAS
       clear HAS
       go_wp2_with (first | (go_at_call 70; refine (ACA.out _ (by repeat (first | exact AG.out | refine AgW.alloc ?_ _))).mono ?_; rintro e w49 ⟨v49, rfl, ho, hb⟩; obtain ⟨Aw49, cw49, rfl⟩ := Kd.R_slice ho; have CL1 := ak_ (Kd.R_mono (ok' := fun k_ => z ≤ k_ ∧ k_ < w49.heap.size) (Kd.R_lower (Kd.R_bound ho) (bz_ (bb_ HB.out))) (fun k_ hk_ => ⟨by rw [HZE.out]; exact hk_.2.1, hk_.2.2.1⟩)); have HZ49 := ak_ (show z ≤ w49.heap.size from by rw [HZE.out]; exact hb.size); replace BK2 := ak_ (blk_below (pk BK2.out) hb); replace BK3 := ak_ (blk_below (pk BK3.out) hb); replace AG := ak_ (AgW.below (by repeat (first | exact AG.out | refine AgW.alloc ?_ _)) hb); replace OUT := ak_ (Kd.S_below (Kd.pS OUT.out) hb); replace HB := ak_ (bs_ (bb_ HB.out) hb); clear hb ho ACA) | (go_at_call 70; refine (ACB.out _ (by repeat (first | exact AG.out | refine AgW.alloc ?_ _))).mono ?_; rintro e w51 ⟨v51, rfl, ho, hb⟩; obtain ⟨Aw51, cw51, rfl⟩ := Kd.R_slice ho; have CL2 := ak_ (Kd.R_mono (ok' := fun k_ => w49.heap.size ≤ k_) (Kd.R_lower (Kd.R_bound ho) (bz_ (bb_ HB.out))) (fun k_ hk_ => hk_.2.1)); have HZ51 := ak_ (show w49.heap.size ≤ w51.heap.size from hb.size); replace BK2 := ak_ (blk_below (pk BK2.out) hb); replace BK3 := ak_ (blk_below (pk BK3.out) hb); replace AG := ak_ (AgW.below (by repeat (first | exact AG.out | refine AgW.alloc ?_ _)) hb); replace OUT := ak_ (Kd.S_below (Kd.pS OUT.out) hb); replace HB := ak_ (bs_ (bb_ HB.out) hb); replace CL1 := ak_ (Kd.R_below CL1.out hb); clear hb ho ACB) | ((with_reducible refine gate_builtin (b := .append) (xs := #[.tmp 47, .tmp 53]) rfl ?_); at_builtin; refine Kd.S_append (sepK 22 (Kd.slice 3 (Kd.int .i64))) (w0 := w) w.heap.size rfl (.tmp 47) (.tmp 53) 30 57 (.slice none 0 0) 24 rfl Try.underlying30 info57 rfl (by decide) (by omega) u5 acc [a, b] [.slice (some ⟨w51.heap.size, 0, none⟩) 2 2] (fun k_ => k_ < s1 ∨ ws.heap.size ≤ k_) (fun k_ => z ≤ k_) rfl (congrArg (fun z_ => Value.slice (some ⟨z_, 0, none⟩) 1 1) (Array.size_push ..).symm) ?aP ?aK ?aF ?aO ?aB ?aS ?aL ?_; (case aP => exact ⟨_, rfl, row_lit2 CL1.out CL2.out HZ49.out HZ51.out (Nat.le_trans HZ.out.2 (Nat.le_trans HZ49.out HZ51.out))⟩); (case aK => (intro k_ hk_; exact ⟨.inr (Nat.le_trans HZ.out.1 hk_), fun e_ => Nat.not_le.2 ((Kd.S_R OUT.out).1 k_ e_.symm).2 hk_⟩)); (case aF => (intro k_ hk_; exact .inr (Nat.le_trans (AgW.sz (AgW.alloc AG.out _)) hk_))); (case aO => exact Kd.S_mono (Kd.pS OUT.out) (fun k_ hk_ => ⟨hk_.1, Nat.not_le.2 hk_.2⟩)); (case aB => exact (bb_ HB.out)); (case aS => exact bz_ (bb_ HB.out)); (case aL => have := HACC.out; omega); intro v36 w36 ho hb hg hat; replace BK2 := ak_ (blk_grown (pk BK2.out) hg (Kd.S_ne OUT.out BK2.out (by decide))); replace BK3 := ak_ (blk_grown (pk BK3.out) hg (Kd.S_ne OUT.out BK3.out (by decide))); replace AG := ak_ (AgW.grown (AgW.alloc AG.out _) hg (fun k_ hk_ => ((Kd.S_R OUT.out).1 k_ hk_).1)); replace HB := ak_ (hb); replace OUT := ak_ (ho); clear hg hat hb ho CL1 CL2 HZ49 HZ51))
       go_roundg (m31 - (i + 1))
       case measure => have := HI.out; have := HII.out; omega
       case rel => exact ⟨i + 1, acc ++ [[a, b]], (by first | rfl | (simp; done)), ⟨⟨by have := HII.out; omega, Nat.le_refl _⟩⟩, HH, ⟨Kd.pS OUT.out⟩, ⟨(by repeat (first | exact AG.out | refine AgW.alloc ?_ _))⟩, ⟨pk BK2.out⟩, ⟨pk BK3.out⟩, ⟨(bb_ HB.out)⟩⟩
     ·rw [if_neg ht1] at h
      have c31b0 : decide (1 < tq) = false := decide_eq_false ht1
      have HH := ak_ (show (nrIn k ts se tq ov t a (ls.drop (j + 1 + (i + 1))) acc).bind (nrOut k ts se tq ov t (ls.drop (j + 1))) = some r from h)
      clear h H hcB hlb hi hjl hlj hb ht1
      go_wp2
      go_roundg (m31 - (i + 1))
      case measure => have := HI.out; have := HII.out; omega
      case rel => exact ⟨i + 1, acc, (by first | rfl | (simp; done)), ⟨⟨by have := HII.out; omega, Nat.le_refl _⟩⟩, HH, ⟨Kd.pS OUT.out⟩, ⟨(by repeat (first | exact AG.out | refine AgW.alloc ?_ _))⟩, ⟨pk BK2.out⟩, ⟨pk BK3.out⟩, ⟨(bb_ HB.out)⟩⟩
    ·have i1 : decide ((i : Int) < (m31 : Int)) = false := decide_eq_false (by omega)
     have i1n : decide (i < m31) = false := decide_eq_false hi
     have h := H.out
     rw [List.drop_of_length_le (by have := HM31.out; omega)] at h
     have HH := ak_ (show nrOut k ts se tq ov t (ls.drop (j + 1)) acc = some r from h)
     clear h H hi
     go_wp2
     go_roundg (ls.length - (j + 1))
     case measure => have := HJ.out; have := HJJ.out; omega
     case rel => exact ⟨j + 1, acc, (by rw [HJN.out]), ⟨⟨by have := HJJ.out; omega, Nat.le_refl _⟩⟩, HH, ⟨Kd.pS OUT.out⟩, ⟨(by repeat (first | exact AG.out | refine AgW.alloc ?_ _))⟩, ⟨pk BK2.out⟩, ⟨pk BK3.out⟩, ⟨(bb_ HB.out)⟩⟩
  ·have j1 : decide ((j : Int) < (ls.length : Int)) = false := decide_eq_false (by omega)
   have j1n : decide (j < ls.length) = false := decide_eq_false hj
   have h := H.out
   rw [List.drop_of_length_le (by omega)] at h
   obtain rfl : acc = r := Option.some.inj h
   clear h H hj
   go_wp2
   first | go_ret | go_ret2
   exact ⟨_, rfl, Kd.S_mono (Kd.pS OUT.out) (fun _ _ => trivial), (bb_ HB.out)⟩
def impl_bit.f (a0 : Bool) : Option (Int) := if a0 = true then (some 1) else (some 0)
theorem impl_bit.calls (a0 : Bool) (r : Int) (w : World) (h : impl_bit.f a0 = some r) :
  Calls Try.prog 81 #[.bool a0] w fun e w' => e = .returned (.int .i64 r) ∧ Drawn0 w w' := by
 have H : (if a0 = true then (some 1) else (some 0)) = some r := h
 clear h
 by_cases c2 : a0 = true
 ·subst c2
  have H1 : (some 1) = some r := by rw [if_pos rfl] at H; exact H
  clear H
  have H := H1
  clear H1
  obtain rfl := Option.some.inj H
  go_enter Try.func81, Try.ntmps81
  go_wp2
  go_ret
  exact ⟨ry_, by repeat (first | exact Drawn0.refl _ | apply Drawn0.step)⟩
 ·replace c2 := Bool.eq_false_iff.mpr c2
  subst c2
  have H1 : (some 0) = some r := by rw [if_neg (show ¬ (false = true) by decide)] at H; exact H
  clear H
  have H := H1
  clear H1
  obtain rfl := Option.some.inj H
  go_enter Try.func81, Try.ntmps81
  go_wp2
  go_ret
  exact ⟨ry_, by repeat (first | exact Drawn0.refl _ | apply Drawn0.step)⟩
def impl_State_code.l0 : Nat → Int → List Bool → Int → Int → Option (Int)
 | 0, _, _, _, _ => none
 | k + 1, x3, x14, x15, x16 => if x16 < x15 then (if 0 ≤ x16 then (if x16 < (x14.length : Int) then ((impl_bit.f (rdOf false x14 x16)).bind fun t425 => (impl_State_code.l0 k (Go.bits .or .i64 x3 (shl .i64 t425 x16)) x14 x15 (wrap64 (x16 + 1)))) else (none)) else (none)) else (some x3)
def impl_State_code.f (k : Nat) (l0_0 : List Bool) (a0_1 : Bool) : Option (Int) := (impl_bit.f a0_1).bind fun t423 => (impl_State_code.l0 k (shl .i64 t423 (l0_0.length : Int)) l0_0 (l0_0.length : Int) 0)
theorem impl_State_code.mono_l : ∀ k, (∀ y0 y1 y2 y3, LeO (impl_State_code.l0 k y0 y1 y2 y3) (impl_State_code.l0 (k + 1) y0 y1 y2 y3))
 | 0 => fun _ _ _ _ r h => by simp [impl_State_code.l0] at h
 | k + 1 => by
  have ih0 := impl_State_code.mono_l k
  ·intro y0 y1 y2 y3
   unfold impl_State_code.l0
   repeat' first
   | (with_reducible first | exact ih0 _ _ _ _ | exact LeO.refl _ | exact LeO.none _ | refine LeO.ite ?_ ?_ | refine LeO.bind ?_ (fun _ => ?_))
theorem impl_State_code.mono : ∀ a0 a1 k, LeO (impl_State_code.f k a0 a1) (impl_State_code.f (k + 1) a0 a1) := by
 intro a0 a1 k
 have ih0 := impl_State_code.mono_l k
 unfold impl_State_code.f
 repeat' first
  | (with_reducible first | exact ih0 _ _ _ _ | exact LeO.refl _ | exact LeO.none _ | refine LeO.ite ?_ ?_ | refine LeO.bind ?_ (fun _ => ?_))
theorem impl_State_code.calls (k : Nat) (A0_0 : Option Addr) (c0_0 : Nat) (l0_0 : List Bool) (a0_1 : Bool) (r : Int) (w : World) (hr0_0 : Kd.C Kd.bool w A0_0 l0_0.length l0_0) (hc0_0 : l0_0.length ≤ c0_0) (h : impl_State_code.f k l0_0 a0_1 = some r) :
  Calls Try.prog 82 #[.agg #[.slice A0_0 l0_0.length c0_0, .bool a0_1]] w fun e w' => e = .returned (.int .i64 r) ∧ Below w.heap.size w w' := by
 have hu94 := Try.underlying94
 have HR0_0 := ak_ hr0_0
 have HC0_0 := ak_ hc0_0
 clear hr0_0 hc0_0
 have HB := ak_ (Below.refl w.heap.size w)
 have H : ((impl_bit.f a0_1).bind fun t423 => (impl_State_code.l0 k (shl .i64 t423 (l0_0.length : Int)) l0_0 (l0_0.length : Int) 0)) = some r := h
 clear h
 replace H := Option.bind_eq_some_iff.mp H
 obtain ⟨t423, A20, H⟩ := H
 replace H : (impl_State_code.l0 k (shl .i64 t423 (l0_0.length : Int)) l0_0 (l0_0.length : Int) 0) = some r := H
 have A2 := ak_ A20
 clear A20
 obtain ⟨ji3, hji3⟩ : ∃ j_ : Int, (shl .i64 t423 (l0_0.length : Int)) = j_ := ⟨_, rfl⟩
 replace H : (impl_State_code.l0 k ji3 l0_0 (l0_0.length : Int) 0) = some r := by first | (rw [hji3] at H; exact H) | (simp only [hji3] at H ⊢; exact H)
 (try rw [hji3] at A2)
 have hji3_ : (IntKind.i64.wrap (t423 * 2 ^ min (l0_0.length : Int).toNat 64)) = ji3 := hji3
 have hji3z : (l0_0.length : Int) ≤ 64 → (IntKind.i64.wrap (t423 * 2 ^ (l0_0.length : Int).toNat)) = ji3 := shl_small hji3
 have hji3p : (IntKind.i64.wrap (t423 * 2 ^ min l0_0.length 64)) = ji3 := hji3_
 have hji3q : (l0_0.length : Int) ≤ 64 → (IntKind.i64.wrap (t423 * 2 ^ l0_0.length)) = ji3 := hji3z
 have hji3y : (wrap64 (t423 * 2 ^ min (l0_0.length : Int).toNat 64)) = ji3 := (i64_w _).symm.trans hji3_
 have hji3x : (l0_0.length : Int) ≤ 64 → (wrap64 (t423 * 2 ^ (l0_0.length : Int).toNat)) = ji3 := fun h_ => (i64_w _).symm.trans (hji3z h_)
 have H' := ak_ H
 clear H
 go_enter Try.func82, Try.ntmps82
 go_wp2_with (first | ((with_reducible refine gate_dst (N := 1) rfl ?_); refine bx_ 1 #[.slice A0_0 l0_0.length c0_0, .bool a0_1] 94 ?_; intro gb422 hg w4 hbox hb; have BK422 := ak_ (hbox); have GW422 := ak_ ((by rw [hg]; exact (bz_ (bb_ HB.out)) : w.heap.size ≤ gb422)); replace HB := ak_ (bs_ (bb_ HB.out) hb); have GE422 := GW422; clear hb hbox hg; obtain ⟨hcz5_0, hcz5_1, hfz5_0, hfz5_1⟩ := c2_ BK422.out) | (go_at_call 81; (with_reducible refine (impl_bit.calls a0_1 t423 _ A2.out).mono ?_); rintro e w' ⟨rfl, ⟨nd, rfl⟩⟩; (try first | exact ⟨rfl, _, World.drewN_drewN _ _ _⟩ | exact ⟨rfl, _, Eq.trans (World.drewN_drewN _ _ _) (congrArg (World.drewN _) (Nat.add_assoc _ _ _))⟩)))
 repeat (go_quiet (first | ((with_reducible refine gate_dst (N := 1) rfl ?_); refine bx_ 1 #[.slice A0_0 l0_0.length c0_0, .bool a0_1] 94 ?_; intro gb422 hg w4 hbox hb; have BK422 := ak_ (hbox); have GW422 := ak_ ((by rw [hg]; exact (bz_ (bb_ HB.out)) : w.heap.size ≤ gb422)); replace HB := ak_ (bs_ (bb_ HB.out) hb); have GE422 := GW422; clear hb hbox hg; obtain ⟨hcz5_0, hcz5_1, hfz5_0, hfz5_1⟩ := c2_ BK422.out) | (go_at_call 81; (with_reducible refine (impl_bit.calls a0_1 t423 _ A2.out).mono ?_); rintro e w' ⟨rfl, ⟨nd, rfl⟩⟩; (try first | exact ⟨rfl, _, World.drewN_drewN _ _ _⟩ | exact ⟨rfl, _, Eq.trans (World.drewN_drewN _ _ _) (congrArg (World.drewN _) (Nat.add_assoc _ _ _))⟩))); try go_wp2_with (first | ((with_reducible refine gate_dst (N := 1) rfl ?_); refine bx_ 1 #[.slice A0_0 l0_0.length c0_0, .bool a0_1] 94 ?_; intro gb422 hg w4 hbox hb; have BK422 := ak_ (hbox); have GW422 := ak_ ((by rw [hg]; exact (bz_ (bb_ HB.out)) : w.heap.size ≤ gb422)); replace HB := ak_ (bs_ (bb_ HB.out) hb); have GE422 := GW422; clear hb hbox hg; obtain ⟨hcz5_0, hcz5_1, hfz5_0, hfz5_1⟩ := c2_ BK422.out) | (go_at_call 81; (with_reducible refine (impl_bit.calls a0_1 t423 _ A2.out).mono ?_); rintro e w' ⟨rfl, ⟨nd, rfl⟩⟩; (try first | exact ⟨rfl, _, World.drewN_drewN _ _ _⟩ | exact ⟨rfl, _, Eq.trans (World.drewN_drewN _ _ _) (congrArg (World.drewN _) (Nat.add_assoc _ _ _))⟩))))
 go_loopg [3, 16] k (fun kq v3 v16 w' => ∃ (x3_1 : Int) (x16_1 : Int), v3 = .int .i64 x3_1 ∧ v16 = .int .i64 x16_1 ∧ Aside0 (impl_State_code.l0 kq x3_1 l0_0 (l0_0.length : Int) x16_1 = some r) ∧ Aside0 (kq ≤ k) ∧ Aside0 (w'.heap[gb422]? = some (.cells #[(.slice A0_0 l0_0.length c0_0), .bool a0_1] 94 (0, 0))) ∧ Aside0 (Below w.heap.size w w'))
 case atStart => exact ⟨(ji3), (0), (by first | rfl | (simp; done) | (simp only [← hji3] <;> (first | rfl | simp)) | (simp [*]; done)), (ry_), H', ⟨Nat.le_refl _⟩, ⟨pk BK422.out⟩, ⟨bl_⟩⟩
 case round =>
  clear H'
  try clear p2
  try clear hcz5_0
  try clear hcz5_1
  try clear hfz5_0
  try clear hfz5_1
  obtain ⟨x3_1, x16_1, rfl, rfl, HA, HK1, BK422, HB⟩ := hrel
  cases gk with
  | zero => exact absurd HA.out (by simp [impl_State_code.l0])
  | succ k1 =>
   have H := HA.out
   clear HA
   simp only [impl_State_code.l0] at H
   by_cases c6 : x16_1 < (l0_0.length : Int)
   ·
    rw [if_pos c6] at H
    have c6b0 := decide_eq_true c6
    clear c6
    by_cases c7 : 0 ≤ x16_1
    ·
     rw [if_pos c7] at H
     have c7b0 := decide_eq_true c7
     clear c7
     by_cases c8 : x16_1 < (l0_0.length : Int)
     ·
      rw [if_pos c8] at H
      have c8b0 := decide_eq_true c8
      clear c8
      replace H := Option.bind_eq_some_iff.mp H
      obtain ⟨t425, A90, H⟩ := H
      replace H : (impl_State_code.l0 k1 (Go.bits .or .i64 x3_1 (shl .i64 t425 x16_1)) l0_0 (l0_0.length : Int) (wrap64 (x16_1 + 1))) = some r := H
      have A9 := ak_ A90
      clear A90
      have c10b0 := eq_true (odt_ (by assumption) : 0 ≤ x16_1)
      obtain ⟨ji11, hji11⟩ : ∃ j_ : Int, (shl .i64 t425 x16_1) = j_ := ⟨_, rfl⟩
      replace H : (impl_State_code.l0 k1 (Go.bits .or .i64 x3_1 (ji11)) l0_0 (l0_0.length : Int) (wrap64 (x16_1 + 1))) = some r := by first | (rw [hji11] at H; exact H) | (simp only [hji11] at H ⊢; exact H)
      (try rw [hji11] at A9)
      have hji11_ : (IntKind.i64.wrap (t425 * 2 ^ min x16_1.toNat 64)) = ji11 := hji11
      have hji11z : x16_1 ≤ 64 → (IntKind.i64.wrap (t425 * 2 ^ x16_1.toNat)) = ji11 := shl_small hji11
      have hji11y : (wrap64 (t425 * 2 ^ min x16_1.toNat 64)) = ji11 := (i64_w _).symm.trans hji11_
      have hji11x : x16_1 ≤ 64 → (wrap64 (t425 * 2 ^ x16_1.toNat)) = ji11 := fun h_ => (i64_w _).symm.trans (hji11z h_)
      have H' := ak_ H
      clear H
      have p424 : 0 ≤ (x16_1 : Int) := od_
      have q424 : x16_1 < (l0_0.length : Int) := od_
      obtain ⟨ad424, e424, hx424_0⟩ := Kd.at_bool HR0_0.out x16_1 p424 q424
      cases e424
      try replace hx424_0 := (HB.out.cell (World.block_lt_of_cell? w _ hx424_0)).trans hx424_0
      replace p424 := eq_true p424
      replace q424 := eq_true q424
      go_wp2_with (first | (go_at_call 81; (with_reducible refine (impl_bit.calls (rdOf false l0_0 x16_1) t425 _ A9.out).mono ?_); rintro e w' ⟨rfl, ⟨nd, rfl⟩⟩; (try first | exact ⟨rfl, _, World.drewN_drewN _ _ _⟩ | exact ⟨rfl, _, Eq.trans (World.drewN_drewN _ _ _) (congrArg (World.drewN _) (Nat.add_assoc _ _ _))⟩)))
      repeat (go_quiet (first | (go_at_call 81; (with_reducible refine (impl_bit.calls (rdOf false l0_0 x16_1) t425 _ A9.out).mono ?_); rintro e w' ⟨rfl, ⟨nd, rfl⟩⟩; (try first | exact ⟨rfl, _, World.drewN_drewN _ _ _⟩ | exact ⟨rfl, _, Eq.trans (World.drewN_drewN _ _ _) (congrArg (World.drewN _) (Nat.add_assoc _ _ _))⟩))); try go_wp2_with (first | (go_at_call 81; (with_reducible refine (impl_bit.calls (rdOf false l0_0 x16_1) t425 _ A9.out).mono ?_); rintro e w' ⟨rfl, ⟨nd, rfl⟩⟩; (try first | exact ⟨rfl, _, World.drewN_drewN _ _ _⟩ | exact ⟨rfl, _, Eq.trans (World.drewN_drewN _ _ _) (congrArg (World.drewN _) (Nat.add_assoc _ _ _))⟩))))
      go_roundg k1
      case measure => have := HK1.out; omega
      case rel => exact ⟨(Go.bits .or .i64 x3_1 (ji11)), (wrap64 (x16_1 + 1)), (by first | rfl | (simp; done) | (simp only [← hji11] <;> (first | rfl | simp)) | (simp [*]; done)), (ry_), H', ⟨by have := HK1.out; omega⟩, ⟨pk BK422.out⟩, ⟨bl_⟩⟩
     ·
      rw [if_neg c8] at H
      exact absurd H (by simp)
    ·
     rw [if_neg c7] at H
     exact absurd H (by simp)
   ·
    rw [if_neg c6] at H
    have c6b0 := decide_eq_false c6
    clear c6
    obtain rfl := Option.some.inj H
    go_wp2
    repeat (go_quiet (fail); try go_wp2)
    go_ret
    exact ⟨by first | rfl | (simp [errW_none, errW_some] <;> rfl) | (simp only [← hji3]; first | rfl | (simp [errW_none, errW_some] <;> rfl)) | (simp [*, errW_none, errW_some] <;> rfl), bl_⟩
def impl_Camp_code.f (k : Nat) (l0_0 : List Bool) (a0_1 : Int) : Option (Int) := (impl_State_code.f k l0_0 false).bind fun t427 => (some (Go.bits .or .i64 (shl .i64 a0_1 (l0_0.length : Int)) t427))
theorem impl_Camp_code.mono : ∀ a0 a1 k, LeO (impl_Camp_code.f k a0 a1) (impl_Camp_code.f (k + 1) a0 a1) := by
 intro a0 a1 k
 unfold impl_Camp_code.f
 repeat' first
  | (with_reducible first | exact impl_State_code.mono _ _ _ | exact LeO.refl _ | exact LeO.none _ | refine LeO.ite ?_ ?_ | refine LeO.bind ?_ (fun _ => ?_))
def impl_Camp_code.T1 : Bool × List (List Nat × List Nat) := (true, [([], []), ([0], [0]), ([], []), ([2], [2]), ([3], [3]), ([1, 4], [1, 4]), ([], []), ([6], [6]), ([7], [7]), ([8], [8]), ([5, 9], [5, 9]), ([10, 9, 0, 1, 2, 3, 4, 5, 6, 7, 8, 9, 10], [10])])
def impl_Camp_code.B1 : List Nat := [0, 1, 0, 4, 12, 31, 0, 64, 192, 448, 1023, 2047]
theorem impl_Camp_code.tab1 : rtab .any (opsOf Try.f60 1) = impl_Camp_code.T1 := by kernel_rfl
theorem impl_Camp_code.bits1 : waitsOk impl_Camp_code.T1.2 impl_Camp_code.B1 = true := by kernel_rfl
theorem impl_Camp_code.calls (k : Nat) (A0_0 : Option Addr) (c0_0 : Nat) (l0_0 : List Bool) (a0_1 : Int) (r : Int) (w : World) (hr0_0 : Kd.C Kd.bool w A0_0 l0_0.length l0_0) (hc0_0 : l0_0.length ≤ c0_0) (h : impl_Camp_code.f k l0_0 a0_1 = some r) :
  Calls Try.prog 60 #[.agg #[.slice A0_0 l0_0.length c0_0, .int .i64 a0_1]] w fun e w' => e = .returned (.int .i64 r) ∧ Below w.heap.size w w' := by
 have hu35 := Try.underlying35
 have hu94 := Try.underlying94
 have HR0_0 := ak_ hr0_0
 have HC0_0 := ak_ hc0_0
 clear hr0_0 hc0_0
 have HB := ak_ (Below.refl w.heap.size w)
 have H : ((impl_State_code.f k l0_0 false).bind fun t427 => (some (Go.bits .or .i64 (shl .i64 a0_1 (l0_0.length : Int)) t427))) = some r := h
 clear h
 obtain ⟨ji2, hji2⟩ : ∃ j_ : Int, (shl .i64 a0_1 (l0_0.length : Int)) = j_ := ⟨_, rfl⟩
 replace H : ((impl_State_code.f k l0_0 false).bind fun t427 => (some (Go.bits .or .i64 (ji2) t427))) = some r := by first | (rw [hji2] at H; exact H) | (simp only [hji2] at H ⊢; exact H)
 have hji2_ : (IntKind.i64.wrap (a0_1 * 2 ^ min (l0_0.length : Int).toNat 64)) = ji2 := hji2
 have hji2z : (l0_0.length : Int) ≤ 64 → (IntKind.i64.wrap (a0_1 * 2 ^ (l0_0.length : Int).toNat)) = ji2 := shl_small hji2
 have hji2p : (IntKind.i64.wrap (a0_1 * 2 ^ min l0_0.length 64)) = ji2 := hji2_
 have hji2q : (l0_0.length : Int) ≤ 64 → (IntKind.i64.wrap (a0_1 * 2 ^ l0_0.length)) = ji2 := hji2z
 have hji2y : (wrap64 (a0_1 * 2 ^ min (l0_0.length : Int).toNat 64)) = ji2 := (i64_w _).symm.trans hji2_
 have hji2x : (l0_0.length : Int) ≤ 64 → (wrap64 (a0_1 * 2 ^ (l0_0.length : Int).toNat)) = ji2 := fun h_ => (i64_w _).symm.trans (hji2z h_)
 replace H := Option.bind_eq_some_iff.mp H
 obtain ⟨t427, A30, H⟩ := H
 replace H : (some (Go.bits .or .i64 (ji2) t427)) = some r := H
 have A3 := ak_ A30
 clear A30
 obtain rfl := Option.some.inj H
 go_enter Try.func60, Try.ntmps60
 try go_wp2_with (first | ((with_reducible refine gate_dst (N := 1) rfl ?_); refine bx_ 1 #[.slice A0_0 l0_0.length c0_0, .int .i64 a0_1] 35 ?_; intro gb426 hg w4 hbox hb; have BK426 := ak_ (hbox); have GW426 := ak_ ((by rw [hg]; exact (bz_ (bb_ HB.out)) : w.heap.size ≤ gb426)); replace HB := ak_ (bs_ (bb_ HB.out) hb); have GE426 := GW426; clear hb hbox hg))
 have n0_ := ak_ (k1_ BK426.out)
 have n1_ := ak_ (b1_ HB.out)
 clear BK426 HB
 have BK426 := n0_; have HB := n1_
 clear n0_ n1_
 refine start_ (n := 12) (S := fun w' => w'.cell? ⟨gb426, 0, none⟩ = some (.slice A0_0 l0_0.length c0_0) ∧ w'.cell? ⟨gb426, 1, none⟩ = some (.int .i64 a0_1)) (ds := []) (mb_ 12 0) (by kernel_rfl) rfl rfl ⟨(blk_cell BK426.out 0).trans rfl, (blk_cell BK426.out 1).trans rfl⟩ (fun hHeld => ?_); refine with_tabW impl_Camp_code.tab1 impl_Camp_code.bits1 (fun HT_ HW_ => ?_)
 generalize w4.drew = w5 at BK426 HB hHeld ⊢
 refine pu_ 0 3 12 1 ?_
 refine pu_ 2 5 12 5 ?_
 refine pu_ 6 9 12 69 ?_
 refine tk_ 1 4 12 71 ?_ (hy := by rintro w' ⟨s0, s1⟩; go_simp; with_reducible rfl)
 refine tk_ 3 6 12 79 ?_ (hy := by rintro w' ⟨s0, s1⟩; go_simp; with_reducible rfl)
 refine pu_ 4 7 12 95 ?_
 refine pu_ 5 8 12 127 ?_
 refine tk_ 7 10 12 255 ?_ (hy := by rintro w' ⟨s0, s1⟩; go_simp; with_reducible rfl)
 refine pu_ 8 11 12 511 ?_
 refine on_ 9 12 12 1023 (fun K hK => ?_)
 refine goes_ Try.func82 (by kernel_rfl) rfl #[.agg #[.slice A0_0 l0_0.length c0_0, .bool false]] (by rfl) rfl rfl rs_ ?_
 with_reducible refine (impl_State_code.calls k _ _ l0_0 false t427 _ ?side1 ?side2 A3.out).mono ?_
 (case side1 => exact cs_ (Kd.C_below HR0_0.out HB.out))
 (case side2 => exact HC0_0.out)
 rintro e w6 ⟨rfl, hb⟩
 refine ⟨_, rfl, ?_⟩
 have n0_ := ak_ (blk_below (pk BK426.out) hb)
 have n1_ := ak_ (bs_ bl_ hb)
 clear BK426 HB
 have BK426 := n0_; have HB := n1_
 clear n0_ n1_
 (try clear hb)
 (try clear hb2)
 (try clear hk)
 (try clear hi)
 refine hK.out _ _ ⟨(blk_cell BK426.out 0).trans rfl, (blk_cell BK426.out 1).trans rfl⟩ (fun hHeld => ?_)
 clear hK K
 refine nm_ ?_
 refine pu_ 10 13 12 2047 ?_
 refine pu_ 11 2 12 4095 ?_
 refine done_ (done_of HT_.out (by kernel_rfl)) ?_
 try go_wp2
 go_ret
 exact ⟨by first | rfl | (simp [errW_none, errW_some] <;> rfl) | (simp only [← hji2]; first | rfl | (simp [errW_none, errW_some] <;> rfl)) | (simp [*, errW_none, errW_some] <;> rfl), bl_⟩
def impl_stateOf.l0 : Nat → Int → Int → Int → List Bool → Bool → Option (List Bool × Bool)
 | 0, _, _, _, _, _ => none
 | k + 1, x1, x17, x18, x433000, x433001 => if x18 < x17 then (if 0 ≤ x18 then (if x18 < (x433000.length : Int) then (impl_stateOf.l0 k x1 x17 (wrap64 (x18 + 1)) (x433000.set (x18 : Int).toNat ((Go.bits .and .i64 (shr .i64 x1 x18) 1) == 1)) x433001) else (none)) else (none)) else (some (x433000, x433001))
def impl_stateOf.f (k : Nat) (a0 : Int) (a1 : Int) : Option (List Bool × Bool) := if 0 ≤ a0 then (if (a0 : Int).toNat ≤ 281474976710656 then ((some (List.replicate (a0 : Int).toNat false : List Bool)).bind fun y429 => (impl_stateOf.l0 k a1 (y429.length : Int) 0 y429 ((Go.bits .and .i64 (shr .i64 a1 a0) 1) == 1))) else (none)) else (none)
theorem impl_stateOf.mono_l : ∀ k, (∀ y0 y1 y2 y3 y4, LeO (impl_stateOf.l0 k y0 y1 y2 y3 y4) (impl_stateOf.l0 (k + 1) y0 y1 y2 y3 y4))
 | 0 => fun _ _ _ _ _ r h => by simp [impl_stateOf.l0] at h
 | k + 1 => by
  have ih0 := impl_stateOf.mono_l k
  ·intro y0 y1 y2 y3 y4
   unfold impl_stateOf.l0
   repeat' first
   | (with_reducible first | exact ih0 _ _ _ _ _ | exact LeO.refl _ | exact LeO.none _ | refine LeO.ite ?_ ?_ | refine LeO.bind ?_ (fun _ => ?_))
theorem impl_stateOf.mono : ∀ a0 a1 k, LeO (impl_stateOf.f k a0 a1) (impl_stateOf.f (k + 1) a0 a1) := by
 intro a0 a1 k
 have ih0 := impl_stateOf.mono_l k
 unfold impl_stateOf.f
 repeat' first
  | (with_reducible first | exact ih0 _ _ _ _ _ | exact LeO.refl _ | exact LeO.none _ | refine LeO.ite ?_ ?_ | refine LeO.bind ?_ (fun _ => ?_))
def impl_stateOf.T1 : Bool × List (List Nat × List Nat) := (true, [([], []), ([0, 0], [0]), ([], []), ([], []), ([2, 3], [2, 3]), ([4], [4]), ([5], [5]), ([1, 6], [1, 6]), ([], []), ([8, 7, 0, 1, 2, 3, 4, 5, 6, 7, 8], [7, 8])])
def impl_stateOf.B1 : List Nat := [0, 1, 0, 0, 12, 28, 60, 127, 0, 511]
theorem impl_stateOf.tab1 : rtab .any (opsOf Try.f96 1) = impl_stateOf.T1 := by kernel_rfl
theorem impl_stateOf.bits1 : waitsOk impl_stateOf.T1.2 impl_stateOf.B1 = true := by kernel_rfl
def impl_stateOf.T5 : Bool × List (List Nat × List Nat) := (true, [([], []), ([0], [0]), ([], []), ([], []), ([], []), ([3, 4], [3, 4]), ([5], [5]), ([6], [6]), ([1, 2, 0, 1, 2, 3, 4, 5, 6, 7], [1, 2]), ([8, 7, 0, 1, 2, 3, 4, 5, 6, 7], [7, 8])])
def impl_stateOf.B5 : List Nat := [0, 1, 0, 0, 0, 24, 56, 120, 255, 511]
theorem impl_stateOf.tab5 : rtab .any (opsOf Try.f96 5) = impl_stateOf.T5 := by kernel_rfl
theorem impl_stateOf.bits5 : waitsOk impl_stateOf.T5.2 impl_stateOf.B5 = true := by kernel_rfl
theorem impl_stateOf.calls (k : Nat) (a0 : Int) (a1 : Int) (r1 : List Bool) (r2 : Bool) (w : World) (h : impl_stateOf.f k a0 a1 = some (r1, r2)) :
  Calls Try.prog 96 #[.int .i64 a0, .int .i64 a1] w fun e w' => ∃ v0_ : Value, e = .returned (.agg #[v0_, .bool r2]) ∧ Kd.R Kd.bool 4 w' w.heap.size (fun _ => True) v0_ r1 ∧ Below w.heap.size w w' := by
 have hu94 := Try.underlying94
 have HB := ak_ (Below.refl w.heap.size w)
 have H : (if 0 ≤ a0 then (if (a0 : Int).toNat ≤ 281474976710656 then ((some (List.replicate (a0 : Int).toNat false : List Bool)).bind fun y429 => (impl_stateOf.l0 k a1 (y429.length : Int) 0 y429 ((Go.bits .and .i64 (shr .i64 a1 a0) 1) == 1))) else (none)) else (none)) = some (r1, r2) := h
 clear h
 by_cases c3 : 0 ≤ a0
 ·
  rw [if_pos c3] at H
  have c3b0 := eq_true c3
  have c3b1 := decide_eq_true c3
  clear c3
  by_cases c4 : (a0 : Int).toNat ≤ 281474976710656
  ·
   rw [if_pos c4] at H
   have c4b0 := eq_true c4
   have c4b1 := decide_eq_true c4
   clear c4
   obtain ⟨y429, hy429⟩ : ∃ y_ : List Bool, y_ = (List.replicate (a0 : Int).toNat false) := ⟨_, rfl⟩
   replace H : (impl_stateOf.l0 k a1 (y429.length : Int) 0 y429 ((Go.bits .and .i64 (shr .i64 a1 a0) 1) == 1)) = some (r1, r2) := by first | (rw [hy429]; exact H) | exact H
   have Ny429 := ak_ hy429
   clear hy429
   have c5b0 := eq_true (odt_ (by assumption) : 0 ≤ a0)
   obtain ⟨ji6, hji6⟩ : ∃ j_ : Int, (shr .i64 a1 a0) = j_ := ⟨_, rfl⟩
   replace H : (impl_stateOf.l0 k a1 (y429.length : Int) 0 y429 ((Go.bits .and .i64 (ji6) 1) == 1)) = some (r1, r2) := by first | (rw [hji6] at H; exact H) | (simp only [hji6] at H ⊢; exact H)
   have hji6_ : (a1 / 2 ^ min a0.toNat 64) = ji6 := hji6
   have hji6z : a0 ≤ 64 → (a1 / 2 ^ a0.toNat) = ji6 := shr_small hji6
   have H' := ak_ H
   clear H
   go_enter Try.func96, Try.ntmps96
   try go_wp2_with (first | ((with_reducible refine gate_dst (N := 4) rfl ?_); refine bx_ 4 #[.slice none 0 0, .bool false] 94 ?_; intro gb428 hg w7 hbox hb; have BK428 := ak_ (hbox); have GW428 := ak_ ((by rw [hg]; exact (bz_ (bb_ HB.out)) : w.heap.size ≤ gb428)); replace HB := ak_ (bs_ (bb_ HB.out) hb); have GE428 := GW428; clear hb hbox hg))
   have n0_ := ak_ (k1_ BK428.out)
   have n1_ := ak_ (b1_ HB.out)
   clear BK428 HB
   have BK428 := n0_; have HB := n1_
   clear n0_ n1_
   refine start_ (n := 10) (S := fun w' => True) (ds := []) (mb_ 10 0) (by kernel_rfl) rfl rfl trivial (fun hHeld => ?_); refine with_tabW impl_stateOf.tab1 impl_stateOf.bits1 (fun HT_ HW_ => ?_)
   generalize w7.drew = w8 at BK428 HB hHeld ⊢
   refine pu_ 0 7 10 1 ?_
   refine pu_ 2 9 10 5 ?_
   refine pu_ 3 10 10 13 ?_
   refine pu_ 4 11 10 29 ?_
   refine pu_ 5 12 10 61 ?_
   refine pu_ 6 13 10 125 ?_
   refine join_ (σ := Value × Nat) 1 (mb_ 10 511) (fun s_ => [(8, s_.1), (5, .pointer (some ⟨s_.2, 0, none⟩)), (14, .agg #[s_.1, .bool ((Go.bits .and .i64 (ji6) 1) == 1)])]) (fun s_ w' => (Kd.R Kd.bool 4 w' w.heap.size (fun _ => True) s_.1 y429) ∧ (w'.heap[gb428]? = some (.cells #[.slice none 0 0, .bool false] 94 (0, 0))) ∧ (w'.heap[s_.2]? = some (.cells #[.slice none 0 0, .bool false] 94 (0, 0))) ∧ (w.heap.size ≤ s_.2) ∧ (w.heap.size ≤ s_.2) ∧ (gb428 ≠ s_.2) ∧ (s_.2 ≠ gb428) ∧ (Below w.heap.size w w')) ?_ ?_
   rotate_left
   ·
    intro hCont
    refine two_ (i := 1) (j := 8) (Ni := some 8) (Nj := some 5) (mb_ 10 127) (mb_ 10 381) rfl rfl rfl rfl (two_of HT_.out (by kernel_rfl)) (by decide) (by decide) (fun K hK => ?_) (fun K hK => ?_)
    ·
     skip
     refine Kd.R_make_step Kd.bool _ 4 (by rfl) (N := 8) rfl 25 _ _ rfl a0 rfl rfl Try.underlying25 (.bool false) 1 info4 rfl (by decide) (by omega) false (ok := fun _ => True) (okp := fun _ => True) rfl (fun _ hk => hk) trivial (odt_ (by assumption)) (Nat.le_trans (Nat.mul_le_mul_right _ (odt_ (by assumption) : a0.toNat ≤ 281474976710656)) (by omega)) (Below.refl _ _) (Nat.le_refl _) ?_
     intro v430 w9 ho10 hb hg_ hnew_
     clear hg_ hnew_
     (first | rw [← Ny429.out] at ho10 | (simp only [Int.reduceToNat] at ho10; rw [← Ny429.out] at ho10))
     have n0_ := ak_ (Kd.R_lower ho10 (bz_ bl_))
     have n1_ := ak_ (blk_below (pk BK428.out) hb)
     have n2_ := ak_ (bs_ bl_ hb)
     clear BK428 HB
     have HO431 := n0_; have BK428 := n1_; have HB := n2_
     clear n0_ n1_ n2_ hb ho10
     obtain ⟨Ao11, co11, eo11⟩ := Kd.R_slice HO431.out
     (first | subst eo11 | (injection eo11 with f1_ f2_ f3_; have f4_ := f1_.symm; have f5_ := f3_.symm; clear f1_ f2_ f3_; subst f4_; subst f5_))
     refine hK.out _ _ trivial (fun hHeld => ?_)
     clear hK K
     refine nm_ ?_
     refine pu_ 7 14 10 255 ?_
     refine on_ 8 5 10 511 (fun K hK => ?_)
     refine box_step ?hg (N := 5) ?hd (cs := #[.slice none 0 0, .bool false]) (t := 94) ?hr ?_; (case hd => rfl); (case hg => rfl); (case hr => go_simp <;> rfl)
     intro gb432 hg w12 hbox hb
     have n0_ := ak_ (Kd.R_below (Kd.pR HO431.out) hb)
     have n1_ := ak_ (blk_below (pk BK428.out) hb)
     have n2_ := ak_ (bs_ bl_ hb)
     have n3_ := ak_ (hbox)
     have n4_ := ak_ ((by rw [hg]; exact (bz_ bl_) : w.heap.size ≤ gb432))
     have n5_ := n4_
     have n6_ := ak_ ((by rw [hg]; exact Nat.ne_of_lt (blk_lt (pk BK428.out)) : gb428 ≠ gb432))
     have n7_ := ak_ n6_.out.symm
     clear HO431 BK428 HB
     have HO431 := n0_; have BK428 := n1_; have HB := n2_; have BK432 := n3_; have GW432 := n4_; have GE432 := n5_; have NB428_432 := n6_; have NB432_428 := n7_
     clear n0_ n1_ n2_ n3_ n4_ n5_ n6_ n7_ hb hbox hg
     refine hK.out _ _ trivial (fun hHeld => ?_)
     clear hK K
     refine nm_ ?_
     exact norm_ (by simp only [putAll, Act.put, setIfInBounds_toArray, set_cons_zero, set_cons_succ]) (hCont (.slice Ao11 y429.length co11, gb432) _ ⟨(Kd.pR HO431.out), (pk BK428.out), (pk BK432.out), GW432.out, GE432.out, NB428_432.out, NB432_428.out, bl_⟩)
    ·
     skip
     refine box_step ?hg (N := 5) ?hd (cs := #[.slice none 0 0, .bool false]) (t := 94) ?hr ?_; (case hd => rfl); (case hg => rfl); (case hr => go_simp <;> rfl)
     intro gb432 hg w9 hbox hb
     have n0_ := ak_ (blk_below (pk BK428.out) hb)
     have n1_ := ak_ (bs_ bl_ hb)
     have n2_ := ak_ (hbox)
     have n3_ := ak_ ((by rw [hg]; exact (bz_ bl_) : w.heap.size ≤ gb432))
     have n4_ := n3_
     have n5_ := ak_ ((by rw [hg]; exact Nat.ne_of_lt (blk_lt (pk BK428.out)) : gb428 ≠ gb432))
     have n6_ := ak_ n5_.out.symm
     clear BK428 HB
     have BK428 := n0_; have HB := n1_; have BK432 := n2_; have GW432 := n3_; have GE432 := n4_; have NB428_432 := n5_; have NB432_428 := n6_
     clear n0_ n1_ n2_ n3_ n4_ n5_ n6_ hb hbox hg
     refine hK.out _ _ trivial (fun hHeld => ?_)
     clear hK K
     refine nm_ ?_
     refine on_ 1 8 10 383 (fun K hK => ?_)
     refine Kd.R_make_step Kd.bool _ 4 (by rfl) (N := 8) rfl 25 _ _ rfl a0 rfl rfl Try.underlying25 (.bool false) 1 info4 rfl (by decide) (by omega) false (ok := fun _ => True) (okp := fun _ => True) rfl (fun _ hk => hk) trivial (odt_ (by assumption)) (Nat.le_trans (Nat.mul_le_mul_right _ (odt_ (by assumption) : a0.toNat ≤ 281474976710656)) (by omega)) (Below.refl _ _) (Nat.le_refl _) ?_
     intro v430 w10 ho11 hb hg_ hnew_
     clear hg_ hnew_
     (first | rw [← Ny429.out] at ho11 | (simp only [Int.reduceToNat] at ho11; rw [← Ny429.out] at ho11))
     have n0_ := ak_ (Kd.R_lower ho11 (bz_ bl_))
     have n1_ := ak_ (blk_below (pk BK428.out) hb)
     have n2_ := ak_ (blk_below (pk BK432.out) hb)
     have n3_ := ak_ (bs_ bl_ hb)
     clear BK428 BK432 HB
     have HO431 := n0_; have BK428 := n1_; have BK432 := n2_; have HB := n3_
     clear n0_ n1_ n2_ n3_ hb ho11
     obtain ⟨Ao12, co12, eo12⟩ := Kd.R_slice HO431.out
     (first | subst eo12 | (injection eo12 with f1_ f2_ f3_; have f4_ := f1_.symm; have f5_ := f3_.symm; clear f1_ f2_ f3_; subst f4_; subst f5_))
     refine hK.out _ _ trivial (fun hHeld => ?_)
     clear hK K
     refine nm_ ?_
     refine pu_ 7 14 10 511 ?_
     exact norm_ (by simp only [putAll, Act.put, setIfInBounds_toArray, set_cons_zero, set_cons_succ]) (hCont (.slice Ao12 y429.length co12, gb432) _ ⟨(Kd.pR HO431.out), (pk BK428.out), (pk BK432.out), GW432.out, GE432.out, NB428_432.out, NB432_428.out, bl_⟩)
   rintro ⟨v430, gb432⟩ w13 ⟨h0_, h1_, h2_, h3_, h4_, h5_, h6_, h7_⟩
   have n0_ : Aside0 (Kd.R Kd.bool 4 w13 w.heap.size (fun _ => True) v430 y429) := ⟨h0_⟩
   have n1_ : Aside0 (w13.heap[gb428]? = some (.cells #[.slice none 0 0, .bool false] 94 (0, 0))) := ⟨h1_⟩
   have n2_ : Aside0 (w13.heap[gb432]? = some (.cells #[.slice none 0 0, .bool false] 94 (0, 0))) := ⟨h2_⟩
   have n3_ : Aside0 (w.heap.size ≤ gb432) := ⟨h3_⟩
   have n4_ : Aside0 (w.heap.size ≤ gb432) := ⟨h4_⟩
   have n5_ : Aside0 (gb428 ≠ gb432) := ⟨h5_⟩
   have n6_ : Aside0 (gb432 ≠ gb428) := ⟨h6_⟩
   have n7_ : Aside0 (Below w.heap.size w w13) := ⟨h7_⟩
   clear BK428 HB h0_ h1_ h2_ h3_ h4_ h5_ h6_ h7_
   have HO431 := n0_; have BK428 := n1_; have BK432 := n2_; have GW432 := n3_; have GE432 := n4_; have NB428_432 := n5_; have NB432_428 := n6_; have HB := n7_
   clear n0_ n1_ n2_ n3_ n4_ n5_ n6_ n7_
   have hHeld := trivial
   obtain ⟨Ao14, co14, eo14⟩ := Kd.R_slice HO431.out
   (first | subst eo14 | (injection eo14 with f1_ f2_ f3_; have f4_ := f1_.symm; have f5_ := f3_.symm; clear f1_ f2_ f3_; subst f4_; subst f5_))
   refine norm_ (a' := ?_) ?_ ?_
   rotate_left
   ·
    simp only [putAll, Act.put, setIfInBounds_toArray, set_cons_zero, set_cons_succ]
    rfl
   refine one_ (i := 9) (N := none) (mb_ 10 1023) rfl rfl (one_of HT_.out (by kernel_rfl)) (by decide) (fun K hK => ?_)
   have hs15 : w13.cell? ⟨gb432, 0, none⟩ = some (.slice none 0 0) := (blk_cell BK432.out 0).trans rfl
   have hfs15 := blk_frozen BK432.out 0
   have hns15_0 := NB428_432.out
   have hms15_0 := NB432_428.out
   have hs16 : w13.cell? ⟨gb432, 1, none⟩ = some (.bool false) := (blk_cell BK432.out 1).trans rfl
   have hfs16 := blk_frozen BK432.out 1
   have hns16_0 := NB428_432.out
   have hms16_0 := NB432_428.out
   refine skip_ (w1 := ?_) (by rfl) rfl ?_ ?_
   rotate_left
   ·
    go_simp
    rfl
   refine hK.out _ _ trivial (fun hHeld => ?_)
   clear hK K
   refine done_ (done_of HT_.out (by kernel_rfl)) ?_
   have hnb17 := NB432_428.out
   have hnc17 := NB428_432.out
   obtain ⟨hcz18_0, hcz18_1, hfz18_0, hfz18_1⟩ := c2_ BK432.out
   try go_wp2
   go_loopg [18] k (fun kq v18 w' => ∃ (x18_1 : Int) (x433000_1 : List Bool) (u433000 : Value), v18 = .int .i64 x18_1 ∧ Aside0 (impl_stateOf.l0 kq a1 (y429.length : Int) x18_1 x433000_1 ((Go.bits .and .i64 (ji6) 1) == 1) = some (r1, r2)) ∧ Aside0 (kq ≤ k) ∧ Aside0 (Kd.R Kd.bool 4 w' w.heap.size (fun _ => True) u433000 x433000_1) ∧ Aside0 (w'.heap[gb428]? = some (.cells #[(.slice none 0 0), .bool false] 94 (0, 0))) ∧ Aside0 (w'.heap[gb432]? = some (.cells #[u433000, .bool ((Go.bits .and .i64 (ji6) 1) == 1)] 94 (0, 0))) ∧ Aside0 (Below w.heap.size w w'))
   case atStart => exact ⟨(0), (y429), (.slice Ao14 y429.length co14), (ry_), H', ⟨Nat.le_refl _⟩, ⟨by (with_reducible repeat (first | apply Kd.R_alloc | apply Kd.R_drewN | apply Kd.R_drew)); exact Kd.R_mono (Kd.R_far (p := ⟨gb432, 1, none⟩) (Kd.R_far (p := ⟨gb432, 0, none⟩) (Kd.R_types HO431.out BK432.out (by decide)) (fun _ hk => hk.2) (.slice Ao14 y429.length co14)) (fun _ hk => hk.2) (.bool ((Go.bits .and .i64 (ji6) 1) == 1))) (fun _ hk => trivial)⟩, ⟨by (with_reducible repeat (first | refine kN_ ?_ _ | refine k1_ ?_ | refine ka_ ?_ _)); refine blk_far ?_ NB428_432.out _; (with_reducible repeat (first | refine kN_ ?_ _ | refine k1_ ?_ | refine ka_ ?_ _)); refine blk_far ?_ NB428_432.out _; exact pk BK428.out⟩, ⟨by (with_reducible repeat (first | refine kN_ ?_ _ | refine k1_ ?_ | refine ka_ ?_ _)); refine blk_put (cs := #[.slice Ao14 y429.length co14, .bool false]) ?_ 1 _ rfl; (with_reducible repeat (first | refine kN_ ?_ _ | refine k1_ ?_ | refine ka_ ?_ _)); refine blk_put (cs := #[.slice none 0 0, .bool false]) ?_ 0 _ rfl; exact pk BK432.out⟩, ⟨bl_⟩⟩
   case round =>
    clear H'
    try clear c1
    try clear p2
    try clear c3
    try clear c3b0
    try clear c3b1
    try clear c4
    try clear c4b0
    try clear c4b1
    try clear c5
    try clear c5b0
    try clear c9
    try clear c17
    try clear hcz18_0
    try clear hcz18_1
    try clear hfz18_0
    try clear hfz18_1
    obtain ⟨x18_1, x433000_1, u433000, rfl, HA, HK1, HO_433000, BK428, BK432, HB⟩ := hrel
    cases gk with
    | zero => exact absurd HA.out (by simp [impl_stateOf.l0])
    | succ k1 =>
     have H := HA.out
     clear HA
     simp only [impl_stateOf.l0] at H
     by_cases c19 : x18_1 < (y429.length : Int)
     ·
      rw [if_pos c19] at H
      have c19b0 := decide_eq_true c19
      clear c19
      by_cases c20 : 0 ≤ x18_1
      ·
       rw [if_pos c20] at H
       have c20b0 := eq_true c20
       have c20b1 := decide_eq_true c20
       clear c20
       obtain ⟨ji21, hji21⟩ : ∃ j_ : Int, (shr .i64 a1 x18_1) = j_ := ⟨_, rfl⟩
       replace H : (if x18_1 < (x433000_1.length : Int) then (impl_stateOf.l0 k1 a1 (y429.length : Int) (wrap64 (x18_1 + 1)) (x433000_1.set (x18_1 : Int).toNat ((Go.bits .and .i64 (ji21) 1) == 1)) ((Go.bits .and .i64 (ji6) 1) == 1)) else (none)) = some (r1, r2) := by first | (rw [hji21] at H; exact H) | (simp only [hji21] at H ⊢; exact H)
       have hji21_ : (a1 / 2 ^ min x18_1.toNat 64) = ji21 := hji21
       have hji21z : x18_1 ≤ 64 → (a1 / 2 ^ x18_1.toNat) = ji21 := shr_small hji21
       by_cases c22 : x18_1 < (x433000_1.length : Int)
       ·
        rw [if_pos c22] at H
        have c22b0 := decide_eq_true c22
        clear c22
        obtain ⟨y433, hy433⟩ : ∃ y_ : List Bool, y_ = (x433000_1.set (x18_1 : Int).toNat ((Go.bits .and .i64 (ji21) 1) == 1)) := ⟨_, rfl⟩
        replace H : (impl_stateOf.l0 k1 a1 (y429.length : Int) (wrap64 (x18_1 + 1)) y433 ((Go.bits .and .i64 (ji6) 1) == 1)) = some (r1, r2) := by first | (rw [hy433]; exact H) | exact H
        have Ny433 := ak_ hy433
        clear hy433
        have H' := ak_ H
        clear H
        try go_wp2
        have n0_ := ak_ (Kd.R_drew HO_433000.out)
        have n1_ := ak_ (k1_ BK428.out)
        have n2_ := ak_ (k1_ BK432.out)
        have n3_ := ak_ (b1_ HB.out)
        clear HO_433000 BK428 BK432 HB
        have HO_433000 := n0_; have BK428 := n1_; have BK432 := n2_; have HB := n3_
        clear n0_ n1_ n2_ n3_
        have p23 : 0 ≤ (x18_1 : Int) := od_
        have q23 : (x18_1 : Int) < ((x433000_1.length : Int) : Int) := od_
        obtain ⟨go23, co23, eo23, gb23, gl23, cl23, HG23⟩ := Kd.R_form HO_433000.out (by omega)
        (first | cases eo23 | (injection eo23 with ea_ en_ ec_; (first | subst ea_ | (injection ea_ with ea_; subst ea_)); subst ec_; clear en_))
        have GB23 := ak_ gb23
        have GG23 := ak_ HG23
        clear gb23 gl23 HG23
        obtain ⟨hx23_0, hf23_0⟩ := Kd.R_celln false HO_433000.out (x18_1 : Int) p23 q23
        replace p23 := eq_true p23
        replace q23 := eq_true q23
        have HP25 := Kd.R_putn HO_433000.out (x18_1 : Int) ((Go.bits .and .i64 (ji21) 1) == 1)
        rw [← Ny433.out] at HP25
        have HQ25 := ak_ HP25
        clear HP25
        refine start_ (n := 10) (S := fun w' => w'.cell? ⟨gb432, 0, none⟩ = some (.slice (some ⟨go23, 0, none⟩) x433000_1.length co23) ∧ w'.cell? ⟨gb432, 1, none⟩ = some (.bool ((Go.bits .and .i64 (ji6) 1) == 1))) (ds := [9]) (mb_ 10 0) (by kernel_rfl) rfl rfl ⟨(blk_cell BK432.out 0).trans rfl, (blk_cell BK432.out 1).trans rfl⟩ (fun hHeld => ?_); refine with_tabW impl_stateOf.tab5 impl_stateOf.bits5 (fun HT_ HW_ => ?_)
        generalize wr.drew = w24 at HO_433000 BK428 BK432 HB GG23 HQ25 hf23_0 hx23_0 hHeld ⊢
        refine pu_ 0 21 10 1 ?_
        refine pu_ 2 23 10 5 ?_
        refine pu_ 3 24 10 13 ?_
        refine pu_ 4 25 10 29 ?_
        refine pu_ 5 26 10 61 ?_
        refine pu_ 6 27 10 125 ?_
        refine pu_ 7 28 10 253 ?_
        refine tk_ 1 22 10 255 ?_ (hy := by rintro w' ⟨s0, s1⟩; go_simp; with_reducible rfl)
        refine pu_ 8 29 10 511 ?_
        refine last_ (i := 9) (N := none) (mb_ 10 1023) rfl rfl (one_of HT_.out (by kernel_rfl)) (by decide) (fun K hK => ?_)
        refine skip_ (w1 := ?_) (by rfl) rfl ?_ ?_
        rotate_left
        ·
         go_simp
         rfl
        refine hK.out _ _ ?_
        clear hK K
        refine done_ (done_of HT_.out (by kernel_rfl)) ?_
        try go_wp2
        go_roundg k1
        case measure => have := HK1.out; omega
        case rel => exact ⟨(wrap64 (x18_1 + 1)), (y433), (.slice (some ⟨go23, 0, none⟩) x433000_1.length co23), (ry_), H', ⟨by have := HK1.out; omega⟩, ⟨Kd.pR HQ25.out⟩, ⟨by (with_reducible repeat (first | refine kN_ ?_ _ | refine k1_ ?_ | refine ka_ ?_ _)); refine blk_far ?_ (by have h_ := Kd.R_ne HO_433000.out BK428.out (by decide); intro e_; exact h_ (by rw [e_]; rfl)) _; exact pk BK428.out⟩, ⟨by (with_reducible repeat (first | refine kN_ ?_ _ | refine k1_ ?_ | refine ka_ ?_ _)); refine blk_far ?_ (by have h_ := Kd.R_ne HO_433000.out BK432.out (by decide); intro e_; exact h_ (by rw [e_]; rfl)) _; exact pk BK432.out⟩, ⟨by repeat (with_reducible first | exact HB.out | apply ba_ | apply bN_ | apply b1_ | refine below_set ?_ GB23.out | refine below_set ?_ (Aside0.out (by assumption)))⟩⟩
       ·
        rw [if_neg c22] at H
        exact absurd H (by simp)
      ·
       rw [if_neg c20] at H
       exact absurd H (by simp)
     ·
      rw [if_neg c19] at H
      have c19b0 := decide_eq_false c19
      clear c19
      simp only [Option.some.injEq, Prod.mk.injEq] at H
      obtain ⟨rfl, rfl⟩ := H
      have hnb26 := NB432_428.out
      have hnc26 := NB428_432.out
      obtain ⟨hcz27_0, hcz27_1, hfz27_0, hfz27_1⟩ := c2_ BK432.out
      obtain ⟨Ao28, co28, eo28⟩ := Kd.R_slice HO_433000.out
      subst eo28
      obtain ⟨hcz29_0, hcz29_1, hfz29_0, hfz29_1⟩ := c2_ BK428.out
      go_wp2
      refine bodyPost_ret (results_cell_row rfl _ _ gb428 94 #[.slice Ao28 x433000_1.length co28, .bool ((Go.bits .and .i64 (ji6) 1) == 1)] (0, 0) _ rfl (by (with_reducible repeat (first | refine kN_ ?_ _ | refine k1_ ?_ | refine ka_ ?_ _)); refine blk_put (cs := #[.slice Ao28 x433000_1.length co28, .bool false]) ?_ 1 _ rfl; (with_reducible repeat (first | refine kN_ ?_ _ | refine k1_ ?_ | refine ka_ ?_ _)); refine blk_put (cs := #[.slice none 0 0, .bool false]) ?_ 0 _ rfl; exact pk BK428.out) Try.underlying94 rfl (by kernel_rfl)) rfl ?_
      exact ⟨_, by first | rfl | (simp [errW_none, errW_some] <;> rfl) | (simp only [← hji6]; first | rfl | (simp [errW_none, errW_some] <;> rfl)) | (simp [*, errW_none, errW_some] <;> rfl), by (with_reducible repeat (first | apply Kd.R_alloc | apply Kd.R_drewN | apply Kd.R_drew)); exact Kd.R_mono (Kd.R_far (p := ⟨gb428, 1, none⟩) (Kd.R_far (p := ⟨gb428, 0, none⟩) (Kd.R_types HO_433000.out BK428.out (by decide)) (fun _ hk => hk.2) (.slice Ao28 x433000_1.length co28)) (fun _ hk => hk.2) (.bool ((Go.bits .and .i64 (ji6) 1) == 1))) (fun _ hk => trivial), bl_⟩
  ·
   rw [if_neg c4] at H
   exact absurd H (by simp)
 ·
  rw [if_neg c3] at H
  exact absurd H (by simp)
def impl_Night_camp.f (k : Nat) (l0_0 : List Int) (a0_1 : Int) (a0_2 : Int) (a1 : Int) : Option (List Bool × Int) := (impl_stateOf.f k (l0_0.length : Int) (Go.bits .and .i64 a1 (wrap64 ((shl .i64 1 (l0_0.length : Int)) - 1)))).bind fun bt436 => (some (bt436.1, shr .i64 a1 (l0_0.length : Int)))
theorem impl_Night_camp.mono : ∀ a0 a1 a2 a3 k, LeO (impl_Night_camp.f k a0 a1 a2 a3) (impl_Night_camp.f (k + 1) a0 a1 a2 a3) := by
 intro a0 a1 a2 a3 k
 unfold impl_Night_camp.f
 repeat' first
  | (with_reducible first | exact impl_stateOf.mono _ _ _ | exact LeO.refl _ | exact LeO.none _ | refine LeO.ite ?_ ?_ | refine LeO.bind ?_ (fun _ => ?_))
def impl_Night_camp.T2 : Bool × List (List Nat × List Nat) := (true, [([], []), ([], []), ([], []), ([2], [2]), ([3], [3]), ([1, 4], [1, 4]), ([0, 5], [0, 5]), ([6], [6]), ([], []), ([], []), ([8, 9], [8, 9]), ([7, 10], [7, 10]), ([11, 6, 0, 1, 2, 3, 4, 5, 6, 7, 8, 9, 10, 11], [11])])
def impl_Night_camp.B2 : List Nat := [0, 0, 0, 4, 12, 30, 63, 127, 0, 0, 768, 2047, 4095]
theorem impl_Night_camp.tab2 : rtab .any (opsOf Try.f77 2) = impl_Night_camp.T2 := by kernel_rfl
theorem impl_Night_camp.bits2 : waitsOk impl_Night_camp.T2.2 impl_Night_camp.B2 = true := by kernel_rfl
theorem impl_Night_camp.calls (k : Nat) (A0_0 : Option Addr) (c0_0 : Nat) (l0_0 : List Int) (a0_1 : Int) (a0_2 : Int) (a1 : Int) (r1 : List Bool) (r2 : Int) (w : World) (hr0_0 : Kd.C (Kd.int .i64) w A0_0 l0_0.length l0_0) (hc0_0 : l0_0.length ≤ c0_0) (h : impl_Night_camp.f k l0_0 a0_1 a0_2 a1 = some (r1, r2)) :
  Calls Try.prog 77 #[.agg #[.slice A0_0 l0_0.length c0_0, .int .i64 a0_1, .int .i64 a0_2], .int .i64 a1] w fun e w' => ∃ v0_ : Value, e = .returned (.agg #[v0_, .int .i64 r2]) ∧ Kd.R Kd.bool 4 w' w.heap.size (fun _ => True) v0_ r1 ∧ Below w.heap.size w w' := by
 have hu33 := Try.underlying33
 have hu35 := Try.underlying35
 have hu94 := Try.underlying94
 have HR0_0 := ak_ hr0_0
 have HC0_0 := ak_ hc0_0
 clear hr0_0 hc0_0
 have HB := ak_ (Below.refl w.heap.size w)
 have H : ((impl_stateOf.f k (l0_0.length : Int) (Go.bits .and .i64 a1 (wrap64 ((shl .i64 1 (l0_0.length : Int)) - 1)))).bind fun bt436 => (some (bt436.1, shr .i64 a1 (l0_0.length : Int)))) = some (r1, r2) := h
 clear h
 obtain ⟨ji3, hji3⟩ : ∃ j_ : Int, (shl .i64 1 (l0_0.length : Int)) = j_ := ⟨_, rfl⟩
 replace H : ((impl_stateOf.f k (l0_0.length : Int) (Go.bits .and .i64 a1 (wrap64 ((ji3) - 1)))).bind fun bt436 => (some (bt436.1, shr .i64 a1 (l0_0.length : Int)))) = some (r1, r2) := by first | (rw [hji3] at H; exact H) | (simp only [hji3] at H ⊢; exact H)
 have hji3_ : (IntKind.i64.wrap (1 * 2 ^ min (l0_0.length : Int).toNat 64)) = ji3 := hji3
 have hji3z : (l0_0.length : Int) ≤ 64 → (IntKind.i64.wrap (1 * 2 ^ (l0_0.length : Int).toNat)) = ji3 := shl_small hji3
 have hji3p : (IntKind.i64.wrap (1 * 2 ^ min l0_0.length 64)) = ji3 := hji3_
 have hji3q : (l0_0.length : Int) ≤ 64 → (IntKind.i64.wrap (1 * 2 ^ l0_0.length)) = ji3 := hji3z
 have hji3r : (IntKind.i64.wrap (2 ^ min l0_0.length 64)) = ji3 := by have h_ := hji3p; rw [Int.one_mul] at h_; exact h_
 have hji3s : (l0_0.length : Int) ≤ 64 → (IntKind.i64.wrap (2 ^ l0_0.length)) = ji3 := fun hle_ => by have h_ := hji3q hle_; rw [Int.one_mul] at h_; exact h_
 have hji3u : (IntKind.i64.wrap (2 ^ min (l0_0.length : Int).toNat 64)) = ji3 := by have h_ := hji3_; rw [Int.one_mul] at h_; exact h_
 have hji3v : (l0_0.length : Int) ≤ 64 → (IntKind.i64.wrap (2 ^ (l0_0.length : Int).toNat)) = ji3 := fun hle_ => by have h_ := hji3z hle_; rw [Int.one_mul] at h_; exact h_
 have hji3y : (wrap64 (1 * 2 ^ min (l0_0.length : Int).toNat 64)) = ji3 := (i64_w _).symm.trans hji3_
 have hji3x : (l0_0.length : Int) ≤ 64 → (wrap64 (1 * 2 ^ (l0_0.length : Int).toNat)) = ji3 := fun h_ => (i64_w _).symm.trans (hji3z h_)
 replace H := Option.bind_eq_some_iff.mp H
 obtain ⟨⟨t436, t439⟩, A40, H⟩ := H
 replace H : (some (t436, shr .i64 a1 (l0_0.length : Int))) = some (r1, r2) := H
 have A4 := ak_ A40
 clear A40
 obtain ⟨ji5, hji5⟩ : ∃ j_ : Int, (shr .i64 a1 (l0_0.length : Int)) = j_ := ⟨_, rfl⟩
 replace H : (some (t436, ji5)) = some (r1, r2) := by first | (rw [hji5] at H; exact H) | (simp only [hji5] at H ⊢; exact H)
 (try rw [hji5] at A4)
 have hji5_ : (a1 / 2 ^ min (l0_0.length : Int).toNat 64) = ji5 := hji5
 have hji5z : (l0_0.length : Int) ≤ 64 → (a1 / 2 ^ (l0_0.length : Int).toNat) = ji5 := shr_small hji5
 have hji5p : (a1 / 2 ^ min l0_0.length 64) = ji5 := hji5_
 have hji5q : (l0_0.length : Int) ≤ 64 → (a1 / 2 ^ l0_0.length) = ji5 := hji5z
 simp only [Option.some.injEq, Prod.mk.injEq] at H
 obtain ⟨rfl, rfl⟩ := H
 go_enter Try.func77, Try.ntmps77
 try go_wp2_with (first | ((with_reducible refine gate_dst (N := 2) rfl ?_); refine bx_ 2 #[.slice A0_0 l0_0.length c0_0, .int .i64 a0_1, .int .i64 a0_2] 33 ?_; intro gb434 hg w6 hbox hb; have BK434 := ak_ (hbox); have GW434 := ak_ ((by rw [hg]; exact (bz_ (bb_ HB.out)) : w.heap.size ≤ gb434)); replace HB := ak_ (bs_ (bb_ HB.out) hb); have GE434 := GW434; clear hb hbox hg) | ((with_reducible refine gate_dst (N := 4) rfl ?_); refine bx_ 4 #[.slice none 0 0, .int .i64 0] 35 ?_; intro gb435 hg w7 hbox hb; have BK435 := ak_ (hbox); have GW435 := ak_ ((by rw [hg]; exact (bz_ bl_) : w.heap.size ≤ gb435)); replace HB := ak_ (bs_ bl_ hb); have GE435 := GW435; have NB434_435 := ak_ ((by rw [hg]; exact Nat.ne_of_lt (blk_lt (pk BK434.out)) : gb434 ≠ gb435)); replace BK434 := ak_ (blk_below (pk BK434.out) hb); have NB435_434 := ak_ NB434_435.out.symm; clear hb hbox hg; have hnb8 := NB434_435.out; have hnc8 := NB435_434.out; obtain ⟨hcz9_0, hcz9_1, hcz9_2, hfz9_0, hfz9_1, hfz9_2⟩ := c3_ BK434.out))
 have n0_ := ak_ (k1_ BK434.out)
 have n1_ := ak_ (k1_ BK435.out)
 have n2_ := ak_ (b1_ HB.out)
 clear BK434 BK435 HB
 have BK434 := n0_; have BK435 := n1_; have HB := n2_
 clear n0_ n1_ n2_
 refine start_ (n := 13) (S := fun w' => True) (ds := []) (mb_ 13 0) (by kernel_rfl) rfl rfl trivial (fun hHeld => ?_); refine with_tabW impl_Night_camp.tab2 impl_Night_camp.bits2 (fun HT_ HW_ => ?_)
 generalize w7.drew = w10 at BK434 BK435 HB hHeld ⊢
 refine pure_ (i := 0) (N := some 9) (v := ?_) (a' := ?_) (mb_ 13 1) rfl rfl (any_of HT_.out (by kernel_rfl)) (fun _ _ _ h => h) (Or.inl ⟨by rfl, ?_⟩) ?_ ?_
 rotate_left
 ·
  intro w'
  go_simp
  first | with_reducible rfl | rfl
 rotate_left
 ·
  simp only [Act.put, setIfInBounds_toArray, set_cons_zero, set_cons_succ, i64_w, i32_w]
  rfl
 refine pure_ (i := 1) (N := some 10) (v := ?_) (a' := ?_) (mb_ 13 3) rfl rfl (any_of HT_.out (by kernel_rfl)) (fun _ _ _ h => h) (Or.inl ⟨by rfl, ?_⟩) ?_ ?_
 rotate_left
 ·
  intro w'
  go_simp
  first | with_reducible rfl | rfl
 rotate_left
 ·
  simp only [Act.put, setIfInBounds_toArray, set_cons_zero, set_cons_succ, i64_w, i32_w]
  rfl
 refine pure_ (i := 2) (N := some 11) (v := ?_) (a' := ?_) (mb_ 13 7) rfl rfl (any_of HT_.out (by kernel_rfl)) (fun _ _ _ h => h) (Or.inl ⟨by rfl, ?_⟩) ?_ ?_
 rotate_left
 ·
  intro w'
  go_simp
  first | with_reducible rfl | rfl
 rotate_left
 ·
  simp only [Act.put, setIfInBounds_toArray, set_cons_zero, set_cons_succ, i64_w, i32_w]
  rfl
 refine pure_ (i := 3) (N := some 12) (v := ?_) (a' := ?_) (mb_ 13 15) rfl rfl (any_of HT_.out (by kernel_rfl)) (fun _ _ _ h => h) (Or.inl ⟨by rfl, ?_⟩) ?_ ?_
 rotate_left
 ·
  intro w'
  go_simp
  first | with_reducible rfl | rfl
 rotate_left
 ·
  simp only [Act.put, setIfInBounds_toArray, set_cons_zero, set_cons_succ, i64_w, i32_w]
  rfl
 refine pure_ (i := 4) (N := some 13) (v := ?_) (a' := ?_) (mb_ 13 31) rfl rfl (any_of HT_.out (by kernel_rfl)) (fun _ _ _ h => h) (Or.inl ⟨by rfl, ?_⟩) ?_ ?_
 rotate_left
 ·
  intro w'
  go_simp
  first | with_reducible rfl | rfl
 rotate_left
 ·
  simp only [Act.put, setIfInBounds_toArray, set_cons_zero, set_cons_succ, i64_w, i32_w]
  rfl
 refine pure_ (i := 5) (N := some 14) (v := ?_) (a' := ?_) (mb_ 13 63) rfl rfl (any_of HT_.out (by kernel_rfl)) (fun _ _ _ h => h) (Or.inl ⟨by rfl, ?_⟩) ?_ ?_
 rotate_left
 ·
  intro w'
  go_simp
  first | with_reducible rfl | rfl
 rotate_left
 ·
  simp only [Act.put, setIfInBounds_toArray, set_cons_zero, set_cons_succ, i64_w, i32_w]
  rfl
 refine pure_ (i := 8) (N := some 17) (v := ?_) (a' := ?_) (mb_ 13 319) rfl rfl (any_of HT_.out (by kernel_rfl)) (fun _ _ _ h => h) (Or.inl ⟨by rfl, ?_⟩) ?_ ?_
 rotate_left
 ·
  intro w'
  go_simp
  first | with_reducible rfl | rfl
 rotate_left
 ·
  simp only [Act.put, setIfInBounds_toArray, set_cons_zero, set_cons_succ, i64_w, i32_w]
  rfl
 refine pure_ (i := 9) (N := some 18) (v := ?_) (a' := ?_) (mb_ 13 831) rfl rfl (any_of HT_.out (by kernel_rfl)) (fun _ _ _ h => h) (Or.inl ⟨by rfl, ?_⟩) ?_ ?_
 rotate_left
 ·
  intro w'
  go_simp
  first | with_reducible rfl | rfl
 rotate_left
 ·
  simp only [Act.put, setIfInBounds_toArray, set_cons_zero, set_cons_succ, i64_w, i32_w]
  rfl
 refine pure_ (i := 10) (N := some 19) (v := ?_) (a' := ?_) (mb_ 13 1855) rfl rfl (any_of HT_.out (by kernel_rfl)) (fun _ _ _ h => h) (Or.inl ⟨by rfl, ?_⟩) ?_ ?_
 rotate_left
 ·
  intro w'
  go_simp
  first | with_reducible rfl | rfl
 rotate_left
 ·
  simp only [Act.put, setIfInBounds_toArray, set_cons_zero, set_cons_succ, i64_w, i32_w]
  rfl
 refine on_ 6 15 13 1919 (fun K hK => ?_)
 refine goes_ Try.func96 (by kernel_rfl) rfl #[.int .i64 (l0_0.length : Int), .int .i64 (Go.bits .and .i64 a1 (wrap64 ((ji3) - 1)))] (by rfl) rfl rfl (by (try simp only [List.map_toArray, List.map_cons, List.map_nil]); first | done | (simp only [hji3]; rfl) | rfl | (simp only [List.length_drop, List.length_take]; rfl)) ?_
 with_reducible refine (impl_stateOf.calls k (l0_0.length : Int) (Go.bits .and .i64 a1 (wrap64 ((ji3) - 1))) t436 t439 _ A4.out).mono ?_
 rintro e w11 ⟨v437, rfl, ho0, hb⟩
 refine ⟨_, rfl, ?_⟩
 have n0_ := ak_ (Kd.R_lower ho0 (bz_ bl_))
 have n1_ := ak_ (blk_below (pk BK434.out) hb)
 have n2_ := ak_ (blk_below (pk BK435.out) hb)
 have n3_ := ak_ (bs_ bl_ hb)
 clear BK434 BK435 HB
 have HO438 := n0_; have BK434 := n1_; have BK435 := n2_; have HB := n3_
 clear n0_ n1_ n2_ n3_
 (try clear hb)
 (try clear hb2)
 (try clear hk)
 (try clear hi)
 (try clear ho0)
 obtain ⟨Ao12, co12, eo12⟩ := Kd.R_slice HO438.out
 (first | subst eo12 | (injection eo12 with f1_ f2_ f3_; have f4_ := f1_.symm; have f5_ := f3_.symm; clear f1_ f2_ f3_; subst f4_; subst f5_))
 refine hK.out _ _ trivial (fun hHeld => ?_)
 clear hK K
 refine nm_ ?_
 refine pure_ (i := 7) (N := some 16) (v := ?_) (a' := ?_) (mb_ 13 2047) rfl rfl (any_of HT_.out (by kernel_rfl)) (fun _ _ _ h => h) (Or.inl ⟨by rfl, ?_⟩) ?_ ?_
 rotate_left
 ·
  intro w'
  go_simp
  first | with_reducible rfl | rfl
 rotate_left
 ·
  simp only [Act.put, setIfInBounds_toArray, set_cons_zero, set_cons_succ, i64_w, i32_w]
  rfl
 refine pure_ (i := 11) (N := some 20) (v := ?_) (a' := ?_) (mb_ 13 4095) rfl rfl (any_of HT_.out (by kernel_rfl)) (fun _ _ _ h => h) (Or.inl ⟨by rfl, ?_⟩) ?_ ?_
 rotate_left
 ·
  intro w'
  go_simp
  first | with_reducible rfl | rfl
 rotate_left
 ·
  simp only [Act.put, setIfInBounds_toArray, set_cons_zero, set_cons_succ, i64_w, i32_w]
  rfl
 refine one_ (i := 12) (N := none) (mb_ 13 8191) rfl rfl (one_of HT_.out (by kernel_rfl)) (by decide) (fun K hK => ?_)
 have hs13 : w11.cell? ⟨gb435, 0, none⟩ = some (.slice none 0 0) := (blk_cell BK435.out 0).trans rfl
 have hfs13 := blk_frozen BK435.out 0
 have hns13_0 := NB434_435.out
 have hms13_0 := NB435_434.out
 have hs14 : w11.cell? ⟨gb435, 1, none⟩ = some (.int .i64 0) := (blk_cell BK435.out 1).trans rfl
 have hfs14 := blk_frozen BK435.out 1
 have hns14_0 := NB434_435.out
 have hms14_0 := NB435_434.out
 refine skip_ (w1 := ?_) (by rfl) rfl ?_ ?_
 rotate_left
 ·
  go_simp
  rfl
 refine hK.out _ _ trivial (fun hHeld => ?_)
 clear hK K
 refine done_ (done_of HT_.out (by kernel_rfl)) ?_
 try go_wp2
 refine bodyPost_ret (results_cell_row rfl _ _ gb435 35 #[.slice Ao12 t436.length co12, .int .i64 ji5] (0, 0) _ rfl (by (with_reducible repeat (first | refine kN_ ?_ _ | refine k1_ ?_ | refine ka_ ?_ _)); refine blk_put (cs := #[.slice Ao12 t436.length co12, .int .i64 0]) ?_ 1 _ rfl; (with_reducible repeat (first | refine kN_ ?_ _ | refine k1_ ?_ | refine ka_ ?_ _)); refine blk_put (cs := #[.slice none 0 0, .int .i64 0]) ?_ 0 _ rfl; exact pk BK435.out) Try.underlying35 rfl (by kernel_rfl)) rfl ?_
 exact ⟨_, by first | rfl | (simp [errW_none, errW_some] <;> rfl) | (simp only [← hji3, ← hji5]; first | rfl | (simp [errW_none, errW_some] <;> rfl)) | (simp [*, errW_none, errW_some] <;> rfl), by (with_reducible repeat (first | apply Kd.R_alloc | apply Kd.R_drewN | apply Kd.R_drew)); exact Kd.R_mono (Kd.R_far (p := ⟨gb435, 1, none⟩) (Kd.R_far (p := ⟨gb435, 0, none⟩) (Kd.R_types HO438.out BK435.out (by decide)) (fun _ hk => hk.2) (.slice Ao12 t436.length co12)) (fun _ hk => hk.2) (.int .i64 ji5)) (fun _ hk => trivial), bl_⟩
def impl_slowest.l0 : Nat → List Int → Int → List Int → Int → Int → Option (Int)
 | 0, _, _, _, _, _ => none
 | k + 1, x0, x5, x8, x9, x10 => if x10 < x9 then (if 0 ≤ x10 then (if x10 < (x8.length : Int) then (if 0 ≤ (rd x8 x10) then (if (rd x8 x10) < (x0.length : Int) then (impl_slowest.l0 k x0 (mx x5 (rd x0 (rd x8 x10))) x8 x9 (wrap64 (x10 + 1))) else (none)) else (none)) else (none)) else (none)) else (some x5)
def impl_slowest.f (k : Nat) (l0 : List Int) (l1 : List Int) : Option (Int) := impl_slowest.l0 k l0 0 l1 (l1.length : Int) 0
theorem impl_slowest.calls (k : Nat) (A0 : Option Addr) (c0 : Nat) (l0 : List Int) (A1 : Option Addr) (c1 : Nat) (l1 : List Int) (r : Int) (w : World) (hr0 : Kd.C (Kd.int .i64) w A0 l0.length l0) (hc0 : l0.length ≤ c0) (hr1 : Kd.C (Kd.int .i64) w A1 l1.length l1) (hc1 : l1.length ≤ c1) (h : impl_slowest.f k l0 l1 = some r) :
  Calls Try.prog 97 #[.slice A0 l0.length c0, .slice A1 l1.length c1] w fun e w' => e = .returned (.int .i64 r) ∧ Below w.heap.size w w' := by
 have HR0 := ak_ hr0
 have HC0 := ak_ hc0
 clear hr0 hc0
 have HR1 := ak_ hr1
 have HC1 := ak_ hc1
 clear hr1 hc1
 have HB := ak_ (Below.refl w.heap.size w)
 have H : (impl_slowest.l0 k l0 0 l1 (l1.length : Int) 0) = some r := h
 clear h
 have H' := ak_ H
 clear H
 go_enter Try.func97, Try.ntmps97
 go_wp2
 go_loopg [5, 10] k (fun kq v5 v10 w' => ∃ (x5_1 : Int) (x10_1 : Int), v5 = .int .i64 x5_1 ∧ v10 = .int .i64 x10_1 ∧ Aside0 (impl_slowest.l0 kq l0 x5_1 l1 (l1.length : Int) x10_1 = some r) ∧ Aside0 (kq ≤ k) ∧ Aside0 (Below w.heap.size w w'))
 case atStart => exact ⟨(0), (0), (ry_), (ry_), H', ⟨Nat.le_refl _⟩, ⟨bb_ HB.out⟩⟩
 case round =>
  clear H'
  try clear c1
  try clear p2
  obtain ⟨x5_1, x10_1, rfl, rfl, HA, HK1, HB⟩ := hrel
  cases gk with
  | zero => exact absurd HA.out (by simp [impl_slowest.l0])
  | succ k1 =>
   have H := HA.out
   clear HA
   simp only [impl_slowest.l0] at H
   by_cases c3 : x10_1 < (l1.length : Int)
   ·
    rw [if_pos c3] at H
    have c3b0 := decide_eq_true c3
    clear c3
    by_cases c4 : 0 ≤ x10_1
    ·
     rw [if_pos c4] at H
     have c4b0 := decide_eq_true c4
     clear c4
     by_cases c5 : x10_1 < (l1.length : Int)
     ·
      rw [if_pos c5] at H
      have c5b0 := decide_eq_true c5
      clear c5
      by_cases c6 : 0 ≤ (rd l1 x10_1)
      ·
       rw [if_pos c6] at H
       have c6b0 := decide_eq_true c6
       clear c6
       by_cases c7 : (rd l1 x10_1) < (l0.length : Int)
       ·
        rw [if_pos c7] at H
        have c7b0 := decide_eq_true c7
        clear c7
        obtain ⟨ji8, hji8⟩ : ∃ j_ : Int, (mx x5_1 (rd l0 (rd l1 x10_1))) = j_ := ⟨_, rfl⟩
        replace H : (impl_slowest.l0 k1 l0 ji8 l1 (l1.length : Int) (wrap64 (x10_1 + 1))) = some r := by first | (rw [hji8] at H; exact H) | (simp only [hji8] at H ⊢; exact H)
        have hji8_ : (if x5_1 < (rd l0 (rd l1 x10_1)) then (rd l0 (rd l1 x10_1)) else x5_1) = ji8 := hji8
        have H' := ak_ H
        clear H
        have p440 : 0 ≤ (x10_1 : Int) := od_
        have q440 : x10_1 < (l1.length : Int) := od_
        obtain ⟨ad440, e440, hx440_0⟩ := Kd.at_int HR1.out x10_1 p440 q440
        cases e440
        try replace hx440_0 := (HB.out.cell (World.block_lt_of_cell? w _ hx440_0)).trans hx440_0
        replace p440 := eq_true p440
        replace q440 := eq_true q440
        have p441 : 0 ≤ ((rd l1 x10_1) : Int) := od_
        have q441 : (rd l1 x10_1) < (l0.length : Int) := od_
        obtain ⟨ad441, e441, hx441_0⟩ := Kd.at_int HR0.out (rd l1 x10_1) p441 q441
        cases e441
        try replace hx441_0 := (HB.out.cell (World.block_lt_of_cell? w _ hx441_0)).trans hx441_0
        replace p441 := eq_true p441
        replace q441 := eq_true q441
        go_wp2
        go_roundg k1
        case measure => have := HK1.out; omega
        case rel => exact ⟨(ji8), (wrap64 (x10_1 + 1)), (by first | rfl | (simp; done) | (simp only [← hji8] <;> (first | rfl | simp)) | (simp [*]; done)), (ry_), H', ⟨by have := HK1.out; omega⟩, ⟨bb_ HB.out⟩⟩
       ·
        rw [if_neg c7] at H
        exact absurd H (by simp)
      ·
       rw [if_neg c6] at H
       exact absurd H (by simp)
     ·
      rw [if_neg c5] at H
      exact absurd H (by simp)
    ·
     rw [if_neg c4] at H
     exact absurd H (by simp)
   ·
    rw [if_neg c3] at H
    have c3b0 := decide_eq_false c3
    clear c3
    obtain rfl := Option.some.inj H
    go_wp2
    go_ret
    exact ⟨rx_, bb_ HB.out⟩
def impl_Night_roundTime.l0 : Nat → Int → List (List Int) → Int → Int → List Int → Int → Int → Option (Int)
 | 0, _, _, _, _, _, _, _ => none
 | k + 1, x5, x8, x9, x10, x443000, x443001, x443002 => if x10 < x9 then (if 0 ≤ x10 then (if x10 < (x8.length : Int) then ((impl_slowest.f k x443000 (rd_L1 x8 x10)).bind fun t444 => (impl_Night_roundTime.l0 k (mx x5 t444) x8 x9 (wrap64 (x10 + 1)) x443000 x443001 x443002)) else (none)) else (none)) else (some x5)
def impl_Night_roundTime.f (k : Nat) (l0_0 : List Int) (a0_1 : Int) (a0_2 : Int) (l1 : List (List Int)) : Option (Int) := impl_Night_roundTime.l0 k 0 l1 (l1.length : Int) 0 l0_0 a0_1 a0_2
theorem impl_Night_roundTime.calls (k : Nat) (A0_0 : Option Addr) (c0_0 : Nat) (l0_0 : List Int) (a0_1 : Int) (a0_2 : Int) (A1 : Option Addr) (c1 : Nat) (l1 : List (List Int)) (r : Int) (w : World) (hr0_0 : Kd.C (Kd.int .i64) w A0_0 l0_0.length l0_0) (hc0_0 : l0_0.length ≤ c0_0) (hr1 : Kd.C (Kd.slice 3 (Kd.int .i64)) w A1 l1.length l1) (hc1 : l1.length ≤ c1) (h : impl_Night_roundTime.f k l0_0 a0_1 a0_2 l1 = some r) :
  Calls Try.prog 78 #[.agg #[.slice A0_0 l0_0.length c0_0, .int .i64 a0_1, .int .i64 a0_2], .slice A1 l1.length c1] w fun e w' => e = .returned (.int .i64 r) ∧ Below w.heap.size w w' := by
 have hu33 := Try.underlying33
 have HR0_0 := ak_ hr0_0
 have HC0_0 := ak_ hc0_0
 clear hr0_0 hc0_0
 have HR1 := ak_ hr1
 have HC1 := ak_ hc1
 clear hr1 hc1
 have HB := ak_ (Below.refl w.heap.size w)
 have H : (impl_Night_roundTime.l0 k 0 l1 (l1.length : Int) 0 l0_0 a0_1 a0_2) = some r := h
 clear h
 have H' := ak_ H
 clear H
 go_enter Try.func78, Try.ntmps78
 go_wp2_with (first | ((with_reducible refine gate_dst (N := 2) rfl ?_); refine bx_ 2 #[.slice A0_0 l0_0.length c0_0, .int .i64 a0_1, .int .i64 a0_2] 33 ?_; intro gb442 hg w3 hbox hb; have BK442 := ak_ (hbox); have GW442 := ak_ ((by rw [hg]; exact (bz_ (bb_ HB.out)) : w.heap.size ≤ gb442)); replace HB := ak_ (bs_ (bb_ HB.out) hb); have GE442 := GW442; clear hb hbox hg))
 go_loopg [5, 10] k (fun kq v5 v10 w' => ∃ (x5_1 : Int) (x10_1 : Int), v5 = .int .i64 x5_1 ∧ v10 = .int .i64 x10_1 ∧ Aside0 (impl_Night_roundTime.l0 kq x5_1 l1 (l1.length : Int) x10_1 l0_0 a0_1 a0_2 = some r) ∧ Aside0 (kq ≤ k) ∧ Aside0 (w'.heap[gb442]? = some (.cells #[(.slice A0_0 l0_0.length c0_0), .int .i64 a0_1, .int .i64 a0_2] 33 (0, 0))) ∧ Aside0 (Below w.heap.size w w'))
 case atStart => exact ⟨(0), (0), (ry_), (ry_), H', ⟨Nat.le_refl _⟩, ⟨pk BK442.out⟩, ⟨bl_⟩⟩
 case round =>
  clear H'
  try clear c1
  try clear p2
  obtain ⟨x5_1, x10_1, rfl, rfl, HA, HK1, BK442, HB⟩ := hrel
  cases gk with
  | zero => exact absurd HA.out (by simp [impl_Night_roundTime.l0])
  | succ k1 =>
   have H := HA.out
   clear HA
   simp only [impl_Night_roundTime.l0] at H
   by_cases c4 : x10_1 < (l1.length : Int)
   ·
    rw [if_pos c4] at H
    have c4b0 := decide_eq_true c4
    clear c4
    by_cases c5 : 0 ≤ x10_1
    ·
     rw [if_pos c5] at H
     have c5b0 := decide_eq_true c5
     clear c5
     by_cases c6 : x10_1 < (l1.length : Int)
     ·
      rw [if_pos c6] at H
      have c6b0 := decide_eq_true c6
      clear c6
      replace H := Option.bind_eq_some_iff.mp H
      obtain ⟨t444, A70, H⟩ := H
      replace H : (impl_Night_roundTime.l0 k1 (mx x5_1 t444) l1 (l1.length : Int) (wrap64 (x10_1 + 1)) l0_0 a0_1 a0_2) = some r := H
      have A7 := ak_ A70
      clear A70
      obtain ⟨ji8, hji8⟩ : ∃ j_ : Int, (mx x5_1 t444) = j_ := ⟨_, rfl⟩
      replace H : (impl_Night_roundTime.l0 k1 ji8 l1 (l1.length : Int) (wrap64 (x10_1 + 1)) l0_0 a0_1 a0_2) = some r := by first | (rw [hji8] at H; exact H) | (simp only [hji8] at H ⊢; exact H)
      (try rw [hji8] at A7)
      have hji8_ : (if x5_1 < t444 then t444 else x5_1) = ji8 := hji8
      have H' := ak_ H
      clear H
      have p443 : 0 ≤ (x10_1 : Int) := od_
      have q443 : x10_1 < (l1.length : Int) := od_
      obtain ⟨ad443, A443_0, c443_0, e443, hx443_0, hl443_0, hi443_0⟩ := at_L1 HR1.out x10_1 p443 q443
      cases e443
      try replace hx443_0 := (HB.out.cell (World.block_lt_of_cell? w _ hx443_0)).trans hx443_0
      have HR443_0 := ak_ hi443_0
      have HC443_0 := ak_ hl443_0
      clear hi443_0 hl443_0
      replace p443 := eq_true p443
      replace q443 := eq_true q443
      obtain ⟨hcz9_0, hcz9_1, hcz9_2, hfz9_0, hfz9_1, hfz9_2⟩ := c3_ BK442.out
      go_wp2_with (first | ((with_reducible refine gate_callee (f := 97) rfl ?_); refine goesL_ (some 18) rfl rfl Try.func97 (by kernel_rfl) rfl #[.slice A0_0 l0_0.length c0_0, .slice A443_0 (rd_L1 l1 x10_1).length c443_0] rfl rs_ ?_; (with_reducible refine (impl_slowest.calls k1 _ _ l0_0 _ _ (rd_L1 l1 x10_1) t444 _ ?side1 ?side2 ?side3 ?side4 A7.out).mono ?_); (case side1 => exact cs_ (Kd.C_below HR0_0.out HB.out)); (case side2 => exact HC0_0.out); (case side3 => exact cs_ (Kd.C_below HR443_0.out HB.out)); (case side4 => exact HC443_0.out); rintro e w10 ⟨rfl, hb⟩; refine ⟨_, rfl, ?_⟩; replace BK442 := ak_ (blk_below (pk BK442.out) hb); replace HB := ak_ (bs_ bl_ hb); (try clear hb); (try clear hb2); (try clear hk); (try clear hi)))
      go_roundg k1
      case measure => have := HK1.out; omega
      case rel => exact ⟨(ji8), (wrap64 (x10_1 + 1)), (by first | rfl | (simp; done) | (simp only [← hji8] <;> (first | rfl | simp)) | (simp [*]; done)), (ry_), H', ⟨by have := HK1.out; omega⟩, ⟨pk BK442.out⟩, ⟨bl_⟩⟩
     ·
      rw [if_neg c6] at H
      exact absurd H (by simp)
    ·
     rw [if_neg c5] at H
     exact absurd H (by simp)
   ·
    rw [if_neg c4] at H
    have c4b0 := decide_eq_false c4
    clear c4
    obtain rfl := Option.some.inj H
    go_wp2
    go_ret
    exact ⟨rx_, bl_⟩
def slices_Clone_bool_bool_s.f (l0 : List Bool) : Option (List Bool) := (some (([] : List Bool) : List Bool)).bind fun y445 => (if y445.length + l0.length < 140737488355328 then (some (y445 ++ l0)) else (none))
theorem slices_Clone_bool_bool_s.calls (ad0 : Addr) (c0 : Nat) (l0 : List Bool) (r : List Bool) (w : World) (hr0 : Kd.C Kd.bool w (some ad0) l0.length l0) (hc0 : l0.length ≤ c0) (h : slices_Clone_bool_bool_s.f l0 = some r) :
  Calls Try.prog 98 #[.slice (some ad0) l0.length c0] w fun e w' => ∃ v0_ : Value, e = .returned (v0_) ∧ Kd.R Kd.bool 4 w' w.heap.size (fun _ => True) v0_ r ∧ Below w.heap.size w w' := by
 have HR0 := ak_ hr0
 have HC0 := ak_ hc0
 clear hr0 hc0
 have HB := ak_ (Below.refl w.heap.size w)
 have H : ((some (([] : List Bool) : List Bool)).bind fun y445 => (if y445.length + l0.length < 140737488355328 then (some (y445 ++ l0)) else (none))) = some r := h
 clear h
 obtain ⟨y445, hy445⟩ : ∃ y_ : List Bool, y_ = (([] : List Bool)) := ⟨_, rfl⟩
 replace H : (if y445.length + l0.length < 140737488355328 then (some (y445 ++ l0)) else (none)) = some r := by first | (rw [hy445]; exact H) | exact H
 have Ny445 := ak_ hy445
 clear hy445
 by_cases c2 : y445.length + l0.length < 140737488355328
 ·rw [if_pos c2] at H
  have LMc2 := ak_ c2
  clear c2
  obtain ⟨y448, hy448⟩ : ∃ y_ : List Bool, y_ = (y445 ++ l0) := ⟨_, rfl⟩
  replace H : (some y448) = some r := by first | (rw [hy448]; exact H) | exact H
  have Ny448 := ak_ hy448
  clear hy448
  obtain rfl := Option.some.inj H
  have hnil := fun (W : World) (a : Option Addr) (n c : Nat) => Go.Lib.run_eql_slice_nil (P := Try.prog) W 25 4 a n c 0 0 Try.underlying25
  go_enter Try.func98, Try.ntmps98
  go_wp2_with (first | ((with_reducible refine gate_dst (N := 5) rfl ?_); refine Kd.R_lit Kd.bool _ 4 ?hg (N := 5) ?hd (xs := ([] : List Bool)) (inner := []) (ok := fun _ => True) (okp := fun _ => True) ?hr ?hp (fun _ hk => hk) trivial (Below.refl _ _) (Nat.le_refl _) (by simp) ?_; (case hd => rfl); (case hg => rfl); (case hr => go_simp <;> rfl); (case hp => exact (Reps.none _ _)); intro v446 w3 ho4 hb hg_ hnew_; clear hg_ hnew_; (first | rw [← Ny445.out] at ho4 | (simp only [Int.reduceToNat] at ho4; rw [← Ny445.out] at ho4)); have HO447 := ak_ (Kd.R_lower ho4 (bz_ (bb_ HB.out))); replace HB := ak_ (bs_ (bb_ HB.out) hb); clear hb ho4) | ((with_reducible refine gate_builtin (b := .append) (xs := #[.tmp 5, .tmp 6]) rfl ?_); at_builtin; refine Kd.R_append_rows Kd.bool (w0 := w) w.heap.size rfl (.tmp 5) (.tmp 6) 25 4 (.bool false) 1 rfl Try.underlying25 info4 rfl (by decide) (by omega) v446 y445 l0 _ _ _ (fun _ => True) (fun _ => False) rfl rfl ?aO ?aR (fun _ _ h => h) (fun _ h => h.elim) ?aF ?aB ?aS ?aL ?_; (case aR => repeat (first | exact (Kd.C_below HR0.out HB.out) | (with_reducible refine Kd.C_alloc ?_ _) | (with_reducible refine Kd.C_drewN ?_ _) | (with_reducible refine Kd.C_drew ?_))); (case aB => exact (bb_ HB.out)); (case aF => exact (fun _ _ => trivial)); (case aO => exact (Kd.pR HO447.out)); (case aS => exact (bz_ (bb_ HB.out))); (case aL => have := LMc2.out; omega); intro v449 w5 ho hb hg hat; rw [← Ny448.out] at ho; replace HB := ak_ (hb); have HO450 := ak_ (ho); clear HO447; clear ho hb hg hat))
  go_ret
  exact ⟨_, rx_, by (with_reducible repeat (first | apply Kd.R_alloc | apply Kd.R_drewN | apply Kd.R_drew)); exact HO450.out, bb_ HB.out⟩
 ·rw [if_neg c2] at H
  exact absurd H (by simp)
theorem slices_Clone_bool_bool_s.f_eq (l0 : List Bool) : slices_Clone_bool_bool_s.f l0 = if l0.length < 140737488355328 then some l0 else none := by
 unfold slices_Clone_bool_bool_s.f
 simp
def slices_Clone_bool_bool.f (l0 : List Bool) : Option (List Bool) := if l0.length < 140737488355328 then some l0 else none
theorem slices_Clone_bool_bool.calls (A0 : Option Addr) (c0 : Nat) (l0 : List Bool) (r : List Bool) (w : World) (hr0 : Kd.C Kd.bool w A0 l0.length l0) (hc0 : l0.length ≤ c0) (h : slices_Clone_bool_bool.f l0 = some r) :
  Calls Try.prog 98 #[.slice A0 l0.length c0] w fun e w' => ∃ v0_ : Value, e = .returned (v0_) ∧ Kd.R Kd.bool 4 w' w.heap.size (fun _ => True) v0_ r ∧ Below w.heap.size w w' := by
 cases A0 with
 | some ad => exact slices_Clone_bool_bool_s.calls ad c0 l0 r w hr0 hc0 (by rw [slices_Clone_bool_bool_s.f_eq]; exact h)
 | none =>
  obtain rfl : l0 = [] := by
   cases l0 with
   | nil => rfl
   | cons x xs =>
    obtain ⟨ad, he, _⟩ := hr0.2.2 (by simp)
    exact absurd he (by simp)
  obtain rfl : [] = r := by
   unfold slices_Clone_bool_bool.f at h
   simpa using h
  clear hr0 h
  have hnil := fun (W : World) (a : Option Addr) (n c : Nat) => Go.Lib.run_eql_slice_nil (P := Try.prog) W 25 4 a n c 0 0 Try.underlying25
  go_enter Try.func98, Try.ntmps98
  go_wp2
  go_ret
  exact ⟨_, rfl, Kd.R_nil Kd.bool 4 w w.heap.size _, Below.refl _ _⟩
end Go.Proofs.Ytmdbhpbogbekmaa.QNt
