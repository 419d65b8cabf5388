/- Contracts of functions of the given program, walked: each call returns what its Lean function says. Conditions: those that stand at each theorem. (Written by a program of this session.) -/
import Derived.Test.YtmdbhpbogbekmaaQNtx0
import Derived.Test.YtmdbhpbogbekmaaQNtx3
namespace Go.Proofs.Ytmdbhpbogbekmaa.QNt
open Go.RowKit Go.Proofs.YtmdbhpbogbekmaaW.PrintWords Go.Proofs.YtmdbhpbogbekmaaW.PrintLast Go.Proofs.YtmdbhpbogbekmaaW.PrintMore
open List (setIfInBounds_toArray set_cons_zero set_cons_succ map_toArray map_cons map_nil)
attribute [local go_sem] max2_int min2_int max_two min_two max_three min_three max_four min_four
set_option linter.unusedVariables false
set_option maxHeartbeats 8000000
set_option maxRecDepth 100000
set_option linter.unusedSimpArgs false
mutual
def spec_toCan.l0 : Nat → List (List Int) → Int → Int → List (List Int) → Int → Int → List Bool → Int → Option (Bool)
 | 0, _, _, _, _, _, _, _, _ => none
 | k + 1, x2, x7, x8, x24, x25, x26, x176000, x176001 => if x26 < x25 then (if 0 ≤ x26 then (if x26 < (x24.length : Int) then (if x26 > 0 then (if 0 ≤ (wrap64 (x26 - 1)) then (if (wrap64 (x26 - 1)) < (x2.length : Int) then ((spec_cuBefore.f k (rd_L2 x2 (wrap64 (x26 - 1))) (rd_L2 x24 x26)).bind fun t179 => (spec_toCan.j1 k x2 x7 x8 (rd_L2 x24 x26) x24 x25 x26 (!t179) x176000 x176001)) else (none)) else (none)) else (spec_toCan.j1 k x2 x7 x8 (rd_L2 x24 x26) x24 x25 x26 false x176000 x176001)) else (none)) else (none)) else (if x7 ≥ 0 then (some (decide (x8 ≥ 0))) else (some false))
def spec_toCan.j1 : Nat → List (List Int) → Int → Int → List Int → List (List Int) → Int → Int → Bool → List Bool → Int → Option (Bool)
 | 0, _, _, _, _, _, _, _, _, _, _ => none
 | k + 1, x2, x7, x8, x10, x24, x25, x26, x42, x176000, x176001 => if x42 = true then (some false) else (spec_toCan.l1 k x2 x7 x8 x10 x24 x25 x26 x10 (x10.length : Int) 0 x176000 x176001)
def spec_toCan.l1 : Nat → List (List Int) → Int → Int → List Int → List (List Int) → Int → Int → List Int → Int → Int → List Bool → Int → Option (Bool)
 | 0, _, _, _, _, _, _, _, _, _, _, _, _ => none
 | k + 1, x2, x7, x8, x10, x24, x25, x26, x43, x44, x45, x176000, x176001 => if x45 < x44 then (if 0 ≤ x45 then (if x45 < (x43.length : Int) then (if 0 ≤ (rd x43 x45) then (if (rd x43 x45) < (x176000.length : Int) then (if 0 < (x10.length : Int) then (if 0 ≤ (rd x10 0) then (if (rd x10 0) < (x176000.length : Int) then (if ((rdOf false x176000 (rd x43 x45)) != (rdOf false x176000 (rd x10 0))) = true then (some false) else (spec_toCan.l1 k x2 x7 x8 x10 x24 x25 x26 x43 x44 (wrap64 (x45 + 1)) x176000 x176001)) else (none)) else (none)) else (none)) else (none)) else (none)) else (none)) else (none)) else (if 0 < (x10.length : Int) then (if 0 ≤ (rd x10 0) then (if (rd x10 0) < (x176000.length : Int) then (if rdOf false x176000 (rd x10 0) = true then (spec_toCan.l0 k x2 x7 (wrap64 (x8 - 1)) x24 x25 (wrap64 (x26 + 1)) x176000 x176001) else (spec_toCan.l0 k x2 (wrap64 (x7 - 1)) x8 x24 x25 (wrap64 (x26 + 1)) x176000 x176001)) else (none)) else (none)) else (none))
end
def spec_toCan.f (k : Nat) (l0_0 : List Int) (a0_1 : Int) (a0_2 : Int) (l1_0 : List Bool) (a1_1 : Int) (l2 : List (List Int)) : Option (Bool) := (spec_toGroups.f k l0_0 a0_1 a0_2 l2).bind fun t176 => (if t176 = true then (spec_toCan.l0 k l2 (wrap64 (a0_2 - a1_1)) a1_1 l2 (l2.length : Int) 0 l1_0 a1_1) else (some false))
theorem spec_toCan.calls (k : Nat) (A0_0 : Option Addr) (c0_0 : Nat) (l0_0 : List Int) (a0_1 : Int) (a0_2 : Int) (A1_0 : Option Addr) (c1_0 : Nat) (l1_0 : List Bool) (a1_1 : Int) (A2 : Option Addr) (c2 : Nat) (l2 : List (List Int)) (r : Bool) (w : World) (hr0_0 : Kd.C (Kd.int .i64) w A0_0 l0_0.length l0_0) (hc0_0 : l0_0.length ≤ c0_0) (hr1_0 : Kd.C Kd.bool w A1_0 l1_0.length l1_0) (hc1_0 : l1_0.length ≤ c1_0) (hr2 : Kd.C (Kd.slice 3 (Kd.int .i64)) w A2 l2.length l2) (hc2 : l2.length ≤ c2) (h : spec_toCan.f k l0_0 a0_1 a0_2 l1_0 a1_1 l2 = some r) :
  Calls Try.prog 67 #[.agg #[.slice A0_0 l0_0.length c0_0, .int .i64 a0_1, .int .i64 a0_2], .agg #[.slice A1_0 l1_0.length c1_0, .int .i64 a1_1], .slice A2 l2.length c2] w fun e w' => e = .returned (.bool r) ∧ Below w.heap.size w w' := by
 have hu33 := Try.underlying33
 have hu35 := Try.underlying35
 have HR0_0 := ak_ hr0_0
 have HC0_0 := ak_ hc0_0
 clear hr0_0 hc0_0
 have HR1_0 := ak_ hr1_0
 have HC1_0 := ak_ hc1_0
 clear hr1_0 hc1_0
 have HR2 := ak_ hr2
 have HC2 := ak_ hc2
 clear hr2 hc2
 have HB := ak_ (Below.refl w.heap.size w)
 have H : ((spec_toGroups.f k l0_0 a0_1 a0_2 l2).bind fun t176 => (if t176 = true then (spec_toCan.l0 k l2 (wrap64 (a0_2 - a1_1)) a1_1 l2 (l2.length : Int) 0 l1_0 a1_1) else (some false))) = some r := h
 clear h
 replace H := Option.bind_eq_some_iff.mp H
 obtain ⟨t176, A40, H⟩ := H
 replace H : (if t176 = true then (spec_toCan.l0 k l2 (wrap64 (a0_2 - a1_1)) a1_1 l2 (l2.length : Int) 0 l1_0 a1_1) else (some false)) = some r := H
 have A4 := ak_ A40
 clear A40
 have HC5 := ak_ H
 clear H
 go_enter Try.func67, Try.ntmps67
 go_upto_if 16 with (first | ((with_reducible refine gate_dst (N := 3) rfl ?_); refine bx_ 3 #[.slice A0_0 l0_0.length c0_0, .int .i64 a0_1, .int .i64 a0_2] 33 ?_; intro gb174 hg w6 hbox hb; have n0_ := ak_ (bs_ (bb_ HB.out) hb); have n1_ := ak_ (hbox); have n2_ := ak_ ((by rw [hg]; exact (bz_ (bb_ HB.out)) : w.heap.size ≤ gb174)); have n3_ := n2_; clear HB; have HB := n0_; have BK174 := n1_; have GW174 := n2_; have GE174 := n3_; clear n0_ n1_ n2_ n3_; clear hb hbox hg) | ((with_reducible refine gate_dst (N := 4) rfl ?_); refine bx_ 4 #[.slice A1_0 l1_0.length c1_0, .int .i64 a1_1] 35 ?_; intro gb175 hg w7 hbox hb; have n0_ := ak_ (blk_below (pk BK174.out) hb); have n1_ := ak_ (bs_ bl_ hb); have n2_ := ak_ (hbox); have n3_ := ak_ ((by rw [hg]; exact (bz_ bl_) : w.heap.size ≤ gb175)); have n4_ := n3_; have n5_ := ak_ ((by rw [hg]; exact Nat.ne_of_lt (blk_lt (pk BK174.out)) : gb174 ≠ gb175)); have n6_ := ak_ n5_.out.symm; clear BK174; clear HB; have BK174 := n0_; have HB := n1_; have BK175 := n2_; have GW175 := n3_; have GE175 := n4_; have NB174_175 := n5_; have NB175_174 := n6_; clear n0_ n1_ n2_ n3_ n4_ n5_ n6_; clear hb hbox hg; have hnb8 := NB174_175.out; have hnc8 := NB175_174.out; have hcz9_0 : w7.cell? ⟨gb174, 0, none⟩ = some (.slice A0_0 l0_0.length c0_0) := (blk_cell BK174.out 0).trans rfl; have hcz9_1 : w7.cell? ⟨gb174, 1, none⟩ = some (.int .i64 a0_1) := (blk_cell BK174.out 1).trans rfl; have hcz9_2 : w7.cell? ⟨gb174, 2, none⟩ = some (.int .i64 a0_2) := (blk_cell BK174.out 2).trans rfl; have hfz9_0 := blk_frozen BK174.out 0; have hfz9_1 := blk_frozen BK174.out 1; have hfz9_2 := blk_frozen BK174.out 2) | (go_at_call 85; (with_reducible refine (spec_toGroups.calls k _ _ l0_0 a0_1 a0_2 _ _ l2 t176 _ ?side1 ?side2 ?side3 ?side4 A4.out).mono ?_); (case side1 => repeat (first | exact (Kd.C_below HR0_0.out HB.out) | (with_reducible refine Kd.C_alloc ?_ _) | (with_reducible refine Kd.C_drewN ?_ _) | (with_reducible refine Kd.C_drew ?_))); (case side2 => exact HC0_0.out); (case side3 => repeat (first | exact (Kd.C_below HR2.out HB.out) | (with_reducible refine Kd.C_alloc ?_ _) | (with_reducible refine Kd.C_drewN ?_ _) | (with_reducible refine Kd.C_drew ?_))); (case side4 => exact HC2.out); rintro e w10 ⟨rfl, hb⟩; have n0_ := ak_ (blk_below (pk BK174.out) hb); have n1_ := ak_ (blk_below (pk BK175.out) hb); have n2_ := ak_ (bs_ bl_ hb); clear BK174; clear BK175; clear HB; have BK174 := n0_; have BK175 := n1_; have HB := n2_; clear n0_ n1_ n2_; (try clear hb); (try clear hb2); (try clear hk); (try clear hi)))
 repeat (go_quiet (first | ((with_reducible refine gate_dst (N := 3) rfl ?_); refine bx_ 3 #[.slice A0_0 l0_0.length c0_0, .int .i64 a0_1, .int .i64 a0_2] 33 ?_; intro gb174 hg w6 hbox hb; have n0_ := ak_ (bs_ (bb_ HB.out) hb); have n1_ := ak_ (hbox); have n2_ := ak_ ((by rw [hg]; exact (bz_ (bb_ HB.out)) : w.heap.size ≤ gb174)); have n3_ := n2_; clear HB; have HB := n0_; have BK174 := n1_; have GW174 := n2_; have GE174 := n3_; clear n0_ n1_ n2_ n3_; clear hb hbox hg) | ((with_reducible refine gate_dst (N := 4) rfl ?_); refine bx_ 4 #[.slice A1_0 l1_0.length c1_0, .int .i64 a1_1] 35 ?_; intro gb175 hg w7 hbox hb; have n0_ := ak_ (blk_below (pk BK174.out) hb); have n1_ := ak_ (bs_ bl_ hb); have n2_ := ak_ (hbox); have n3_ := ak_ ((by rw [hg]; exact (bz_ bl_) : w.heap.size ≤ gb175)); have n4_ := n3_; have n5_ := ak_ ((by rw [hg]; exact Nat.ne_of_lt (blk_lt (pk BK174.out)) : gb174 ≠ gb175)); have n6_ := ak_ n5_.out.symm; clear BK174; clear HB; have BK174 := n0_; have HB := n1_; have BK175 := n2_; have GW175 := n3_; have GE175 := n4_; have NB174_175 := n5_; have NB175_174 := n6_; clear n0_ n1_ n2_ n3_ n4_ n5_ n6_; clear hb hbox hg; have hnb8 := NB174_175.out; have hnc8 := NB175_174.out; have hcz9_0 : w7.cell? ⟨gb174, 0, none⟩ = some (.slice A0_0 l0_0.length c0_0) := (blk_cell BK174.out 0).trans rfl; have hcz9_1 : w7.cell? ⟨gb174, 1, none⟩ = some (.int .i64 a0_1) := (blk_cell BK174.out 1).trans rfl; have hcz9_2 : w7.cell? ⟨gb174, 2, none⟩ = some (.int .i64 a0_2) := (blk_cell BK174.out 2).trans rfl; have hfz9_0 := blk_frozen BK174.out 0; have hfz9_1 := blk_frozen BK174.out 1; have hfz9_2 := blk_frozen BK174.out 2) | (go_at_call 85; (with_reducible refine (spec_toGroups.calls k _ _ l0_0 a0_1 a0_2 _ _ l2 t176 _ ?side1 ?side2 ?side3 ?side4 A4.out).mono ?_); (case side1 => repeat (first | exact (Kd.C_below HR0_0.out HB.out) | (with_reducible refine Kd.C_alloc ?_ _) | (with_reducible refine Kd.C_drewN ?_ _) | (with_reducible refine Kd.C_drew ?_))); (case side2 => exact HC0_0.out); (case side3 => repeat (first | exact (Kd.C_below HR2.out HB.out) | (with_reducible refine Kd.C_alloc ?_ _) | (with_reducible refine Kd.C_drewN ?_ _) | (with_reducible refine Kd.C_drew ?_))); (case side4 => exact HC2.out); rintro e w10 ⟨rfl, hb⟩; have n0_ := ak_ (blk_below (pk BK174.out) hb); have n1_ := ak_ (blk_below (pk BK175.out) hb); have n2_ := ak_ (bs_ bl_ hb); clear BK174; clear BK175; clear HB; have BK174 := n0_; have BK175 := n1_; have HB := n2_; clear n0_ n1_ n2_; (try clear hb); (try clear hb2); (try clear hk); (try clear hi))); go_upto_if 16 with (first | ((with_reducible refine gate_dst (N := 3) rfl ?_); refine bx_ 3 #[.slice A0_0 l0_0.length c0_0, .int .i64 a0_1, .int .i64 a0_2] 33 ?_; intro gb174 hg w6 hbox hb; have n0_ := ak_ (bs_ (bb_ HB.out) hb); have n1_ := ak_ (hbox); have n2_ := ak_ ((by rw [hg]; exact (bz_ (bb_ HB.out)) : w.heap.size ≤ gb174)); have n3_ := n2_; clear HB; have HB := n0_; have BK174 := n1_; have GW174 := n2_; have GE174 := n3_; clear n0_ n1_ n2_ n3_; clear hb hbox hg) | ((with_reducible refine gate_dst (N := 4) rfl ?_); refine bx_ 4 #[.slice A1_0 l1_0.length c1_0, .int .i64 a1_1] 35 ?_; intro gb175 hg w7 hbox hb; have n0_ := ak_ (blk_below (pk BK174.out) hb); have n1_ := ak_ (bs_ bl_ hb); have n2_ := ak_ (hbox); have n3_ := ak_ ((by rw [hg]; exact (bz_ bl_) : w.heap.size ≤ gb175)); have n4_ := n3_; have n5_ := ak_ ((by rw [hg]; exact Nat.ne_of_lt (blk_lt (pk BK174.out)) : gb174 ≠ gb175)); have n6_ := ak_ n5_.out.symm; clear BK174; clear HB; have BK174 := n0_; have HB := n1_; have BK175 := n2_; have GW175 := n3_; have GE175 := n4_; have NB174_175 := n5_; have NB175_174 := n6_; clear n0_ n1_ n2_ n3_ n4_ n5_ n6_; clear hb hbox hg; have hnb8 := NB174_175.out; have hnc8 := NB175_174.out; have hcz9_0 : w7.cell? ⟨gb174, 0, none⟩ = some (.slice A0_0 l0_0.length c0_0) := (blk_cell BK174.out 0).trans rfl; have hcz9_1 : w7.cell? ⟨gb174, 1, none⟩ = some (.int .i64 a0_1) := (blk_cell BK174.out 1).trans rfl; have hcz9_2 : w7.cell? ⟨gb174, 2, none⟩ = some (.int .i64 a0_2) := (blk_cell BK174.out 2).trans rfl; have hfz9_0 := blk_frozen BK174.out 0; have hfz9_1 := blk_frozen BK174.out 1; have hfz9_2 := blk_frozen BK174.out 2) | (go_at_call 85; (with_reducible refine (spec_toGroups.calls k _ _ l0_0 a0_1 a0_2 _ _ l2 t176 _ ?side1 ?side2 ?side3 ?side4 A4.out).mono ?_); (case side1 => repeat (first | exact (Kd.C_below HR0_0.out HB.out) | (with_reducible refine Kd.C_alloc ?_ _) | (with_reducible refine Kd.C_drewN ?_ _) | (with_reducible refine Kd.C_drew ?_))); (case side2 => exact HC0_0.out); (case side3 => repeat (first | exact (Kd.C_below HR2.out HB.out) | (with_reducible refine Kd.C_alloc ?_ _) | (with_reducible refine Kd.C_drewN ?_ _) | (with_reducible refine Kd.C_drew ?_))); (case side4 => exact HC2.out); rintro e w10 ⟨rfl, hb⟩; have n0_ := ak_ (blk_below (pk BK174.out) hb); have n1_ := ak_ (blk_below (pk BK175.out) hb); have n2_ := ak_ (bs_ bl_ hb); clear BK174; clear BK175; clear HB; have BK174 := n0_; have BK175 := n1_; have HB := n2_; clear n0_ n1_ n2_; (try clear hb); (try clear hb2); (try clear hk); (try clear hi))))
 (try simp only [Act.put, setIfInBounds_toArray, set_cons_zero, set_cons_succ])
 have H := HC5.out
 clear HC5
 by_cases c11 : t176 = true
 ·
  subst c11
  have H1 : (spec_toCan.l0 k l2 (wrap64 (a0_2 - a1_1)) a1_1 l2 (l2.length : Int) 0 l1_0 a1_1) = some r := by rw [if_pos rfl] at H; exact H
  clear H
  have H := H1
  clear H1
  have H' := ak_ H
  clear H
  have hnb12 := NB174_175.out
  have hnc12 := NB175_174.out
  have hcz13_0 : w10.cell? ⟨gb174, 0, none⟩ = some (.slice A0_0 l0_0.length c0_0) := (blk_cell BK174.out 0).trans rfl
  have hcz13_1 : w10.cell? ⟨gb174, 1, none⟩ = some (.int .i64 a0_1) := (blk_cell BK174.out 1).trans rfl
  have hcz13_2 : w10.cell? ⟨gb174, 2, none⟩ = some (.int .i64 a0_2) := (blk_cell BK174.out 2).trans rfl
  have hfz13_0 := blk_frozen BK174.out 0
  have hfz13_1 := blk_frozen BK174.out 1
  have hfz13_2 := blk_frozen BK174.out 2
  have hcz14_0 : w10.cell? ⟨gb175, 0, none⟩ = some (.slice A1_0 l1_0.length c1_0) := (blk_cell BK175.out 0).trans rfl
  have hcz14_1 : w10.cell? ⟨gb175, 1, none⟩ = some (.int .i64 a1_1) := (blk_cell BK175.out 1).trans rfl
  have hfz14_0 := blk_frozen BK175.out 0
  have hfz14_1 := blk_frozen BK175.out 1
  go_wp2
  repeat (go_quiet (fail); try go_wp2)
  go_loopg [7, 8, 26] k (fun kq v7 v8 v26 w' => ∃ (x7_1 : Int) (x8_1 : Int) (x26_1 : Int), v7 = .int .i64 x7_1 ∧ v8 = .int .i64 x8_1 ∧ v26 = .int .i64 x26_1 ∧ Aside0 (spec_toCan.l0 kq l2 x7_1 x8_1 l2 (l2.length : Int) x26_1 l1_0 a1_1 = some r) ∧ Aside0 (kq ≤ k) ∧ Aside0 (w'.heap[gb174]? = some (.cells #[(.slice A0_0 l0_0.length c0_0), .int .i64 a0_1, .int .i64 a0_2] 33 (0, 0))) ∧ Aside0 (w'.heap[gb175]? = some (.cells #[(.slice A1_0 l1_0.length c1_0), .int .i64 a1_1] 35 (0, 0))) ∧ Aside0 (Below w.heap.size w w'))
  case atStart => exact ⟨(wrap64 (a0_2 - a1_1)), (a1_1), (0), (ry_), (ry_), (ry_), H', ⟨Nat.le_refl _⟩, ⟨pk BK174.out⟩, ⟨pk BK175.out⟩, ⟨by repeat (with_reducible first | exact HB.out | apply ba_ | apply bN_ | apply b1_ | refine below_set ?_ (Aside0.out (by assumption)))⟩⟩
  case round =>
   clear H'
   try clear c1
   try clear c2
   try clear p2
   try clear c6
   try clear p6
   try clear c8
   try clear c11
   try clear c12
   try clear hcz13_0
   try clear hcz13_1
   try clear hcz13_2
   try clear hcz14_0
   try clear hcz14_1
   try clear hcz9_0
   try clear hcz9_1
   try clear hcz9_2
   try clear hfz13_0
   try clear hfz13_1
   try clear hfz13_2
   try clear hfz14_0
   try clear hfz14_1
   try clear hfz9_0
   try clear hfz9_1
   try clear hfz9_2
   obtain ⟨x7_1, x8_1, x26_1, rfl, rfl, rfl, HA, HK1, BK174, BK175, HB⟩ := hrel
   cases gk with
   | zero => exact absurd HA.out (by simp [spec_toCan.l0])
   | succ k1 =>
    have H := HA.out
    clear HA
    simp only [spec_toCan.l0] at H
    by_cases c15 : x26_1 < (l2.length : Int)
    ·
     rw [if_pos c15] at H
     have c15b0 : decide (x26_1 < (l2.length : Int)) = true := decide_eq_true c15
     clear c15
     (first | rw [c15b0] | (simp only [i64_w, i32_w]; rw [c15b0]) | rw [c15b1] | skip)
     by_cases c16 : 0 ≤ x26_1
     ·
      rw [if_pos c16] at H
      have c16b0 : decide (0 ≤ x26_1) = true := decide_eq_true c16
      clear c16
      by_cases c17 : x26_1 < (l2.length : Int)
      ·
       rw [if_pos c17] at H
       have c17b0 : decide (x26_1 < (l2.length : Int)) = true := decide_eq_true c17
       clear c17
       have HC18 := ak_ H
       clear H
       have p177 : 0 ≤ (x26_1 : Int) := odt_ (by assumption)
       have q177 : x26_1 < (l2.length : Int) := odt_ (by assumption)
       obtain ⟨ad177, A177_0, c177_0, e177, hx177_0, hl177_0, hi177_0⟩ := at_L2 HR2.out x26_1 p177 q177
       cases e177
       try replace hx177_0 := (HB.out.cell (World.block_lt_of_cell? w _ hx177_0)).trans hx177_0
       have HR177_0 := ak_ hi177_0
       have HC177_0 := ak_ hl177_0
       clear hi177_0 hl177_0
       replace p177 := eq_true p177
       replace q177 := eq_true q177
       go_upto_region 7 with (fail)
       repeat (go_quiet (fail); go_upto_region 7 with (fail))
       go_cut [42] (fun v42 wc => ∃ (kq : Nat) (x42_17 : Bool), v42 = .bool x42_17 ∧ Aside0 (spec_toCan.j1 kq l2 x7_1 x8_1 (rd_L2 l2 x26_1) l2 (l2.length : Int) x26_1 x42_17 l1_0 a1_1 = some r) ∧ Aside0 (kq ≤ k1) ∧ Aside0 (wc.heap[gb174]? = some (.cells #[(.slice A0_0 l0_0.length c0_0), .int .i64 a0_1, .int .i64 a0_2] 33 (0, 0))) ∧ Aside0 (wc.heap[gb175]? = some (.cells #[(.slice A1_0 l1_0.length c1_0), .int .i64 a1_1] 35 (0, 0))) ∧ Aside0 (Below w.heap.size w wc))
       case first =>
        have H := HC18.out
        clear HC18
        by_cases c19 : x26_1 > 0
        ·
         rw [if_pos c19] at H
         have c19b0 : decide (0 < x26_1) = true := decide_eq_true c19
         clear c19
         (first | rw [c19b0] | (simp only [i64_w, i32_w]; rw [c19b0]) | rw [c19b1] | skip)
         obtain ⟨ji20, hji20⟩ : ∃ j_ : Int, (wrap64 (x26_1 - 1)) = j_ := ⟨_, rfl⟩
         replace H : (if 0 ≤ (ji20) then (if (ji20) < (l2.length : Int) then ((spec_cuBefore.f k1 (rd_L2 l2 (ji20)) (rd_L2 l2 x26_1)).bind fun t179 => (spec_toCan.j1 k1 l2 x7_1 x8_1 (rd_L2 l2 x26_1) l2 (l2.length : Int) x26_1 (!t179) l1_0 a1_1)) else (none)) else (none)) = some r := by first | (rw [hji20] at H; exact H) | (simp only [hji20] at H ⊢; exact H)
         have hji20w : (IntKind.i64.wrap (x26_1 - 1)) = ji20 := (i64_w _).trans hji20
         by_cases c21 : 0 ≤ (ji20)
         ·
          rw [if_pos c21] at H
          have c21b0 : decide (0 ≤ (ji20)) = true := decide_eq_true c21
          clear c21
          by_cases c22 : (ji20) < (l2.length : Int)
          ·
           rw [if_pos c22] at H
           have c22b0 : decide ((ji20) < (l2.length : Int)) = true := decide_eq_true c22
           clear c22
           replace H := Option.bind_eq_some_iff.mp H
           obtain ⟨t179, A230, H⟩ := H
           replace H : (spec_toCan.j1 k1 l2 x7_1 x8_1 (rd_L2 l2 x26_1) l2 (l2.length : Int) x26_1 (!t179) l1_0 a1_1) = some r := H
           have A23 := ak_ A230
           clear A230
           have H' := ak_ H
           clear H
           have p178 : 0 ≤ ((ji20) : Int) := odt_ (by assumption)
           have q178 : (ji20) < (l2.length : Int) := odt_ (by assumption)
           obtain ⟨ad178, A178_0, c178_0, e178, hx178_0, hl178_0, hi178_0⟩ := at_L2 HR2.out (ji20) p178 q178
           obtain rfl : ad177 = ad178 := (by injection e178)
           try replace hx178_0 := (HB.out.cell (World.block_lt_of_cell? w _ hx178_0)).trans hx178_0
           have HR178_0 := ak_ hi178_0
           have HC178_0 := ak_ hl178_0
           clear hi178_0 hl178_0
           replace p178 := eq_true p178
           replace q178 := eq_true q178
           go_wp2_with (first | (go_at_call 86; (with_reducible refine (spec_cuBefore.calls k1 _ _ (rd_L2 l2 (ji20)) _ _ (rd_L2 l2 x26_1) t179 _ ?side1 ?side2 ?side3 ?side4 A23.out).mono ?_); (case side1 => repeat (first | exact (Kd.C_below HR178_0.out HB.out) | (with_reducible refine Kd.C_alloc ?_ _) | (with_reducible refine Kd.C_drewN ?_ _) | (with_reducible refine Kd.C_drew ?_))); (case side2 => exact HC178_0.out); (case side3 => repeat (first | exact (Kd.C_below HR177_0.out HB.out) | (with_reducible refine Kd.C_alloc ?_ _) | (with_reducible refine Kd.C_drewN ?_ _) | (with_reducible refine Kd.C_drew ?_))); (case side4 => exact HC177_0.out); rintro e w' ⟨rfl, ⟨nd, rfl⟩⟩; (try first | exact ⟨rfl, _, World.drewN_drewN _ _ _⟩ | exact ⟨rfl, _, Eq.trans (World.drewN_drewN _ _ _) (congrArg (World.drewN _) (Nat.add_assoc _ _ _))⟩)))
           repeat (go_quiet (first | (go_at_call 86; (with_reducible refine (spec_cuBefore.calls k1 _ _ (rd_L2 l2 (ji20)) _ _ (rd_L2 l2 x26_1) t179 _ ?side1 ?side2 ?side3 ?side4 A23.out).mono ?_); (case side1 => repeat (first | exact (Kd.C_below HR178_0.out HB.out) | (with_reducible refine Kd.C_alloc ?_ _) | (with_reducible refine Kd.C_drewN ?_ _) | (with_reducible refine Kd.C_drew ?_))); (case side2 => exact HC178_0.out); (case side3 => repeat (first | exact (Kd.C_below HR177_0.out HB.out) | (with_reducible refine Kd.C_alloc ?_ _) | (with_reducible refine Kd.C_drewN ?_ _) | (with_reducible refine Kd.C_drew ?_))); (case side4 => exact HC177_0.out); rintro e w' ⟨rfl, ⟨nd, rfl⟩⟩; (try first | exact ⟨rfl, _, World.drewN_drewN _ _ _⟩ | exact ⟨rfl, _, Eq.trans (World.drewN_drewN _ _ _) (congrArg (World.drewN _) (Nat.add_assoc _ _ _))⟩))); try go_wp2_with (first | (go_at_call 86; (with_reducible refine (spec_cuBefore.calls k1 _ _ (rd_L2 l2 (ji20)) _ _ (rd_L2 l2 x26_1) t179 _ ?side1 ?side2 ?side3 ?side4 A23.out).mono ?_); (case side1 => repeat (first | exact (Kd.C_below HR178_0.out HB.out) | (with_reducible refine Kd.C_alloc ?_ _) | (with_reducible refine Kd.C_drewN ?_ _) | (with_reducible refine Kd.C_drew ?_))); (case side2 => exact HC178_0.out); (case side3 => repeat (first | exact (Kd.C_below HR177_0.out HB.out) | (with_reducible refine Kd.C_alloc ?_ _) | (with_reducible refine Kd.C_drewN ?_ _) | (with_reducible refine Kd.C_drew ?_))); (case side4 => exact HC177_0.out); rintro e w' ⟨rfl, ⟨nd, rfl⟩⟩; (try first | exact ⟨rfl, _, World.drewN_drewN _ _ _⟩ | exact ⟨rfl, _, Eq.trans (World.drewN_drewN _ _ _) (congrArg (World.drewN _) (Nat.add_assoc _ _ _))⟩))))
           go_meet
           case rel => exact ⟨_, (!t179), (ry_), H', ⟨by have := HK1.out; first | omega | exact Nat.le_refl _⟩, ⟨pk BK174.out⟩, ⟨pk BK175.out⟩, ⟨by repeat (with_reducible first | exact HB.out | apply ba_ | apply bN_ | apply b1_ | refine below_set ?_ (Aside0.out (by assumption)))⟩⟩
          ·
           rw [if_neg c22] at H
           exact absurd H (by simp)
         ·
          rw [if_neg c21] at H
          exact absurd H (by simp)
        ·
         rw [if_neg c19] at H
         have c19b0 : decide (0 < x26_1) = false := decide_eq_false c19
         clear c19
         (first | rw [c19b0] | (simp only [i64_w, i32_w]; rw [c19b0]) | rw [c19b1] | skip)
         have H' := ak_ H
         clear H
         go_wp2
         repeat (go_quiet (fail); try go_wp2)
         go_meet
         case rel => exact ⟨_, (false), (ry_), H', ⟨by have := HK1.out; first | omega | exact Nat.le_refl _⟩, ⟨pk BK174.out⟩, ⟨pk BK175.out⟩, ⟨by repeat (with_reducible first | exact HB.out | apply ba_ | apply bN_ | apply b1_ | refine below_set ?_ (Aside0.out (by assumption)))⟩⟩
       case rest =>
        clear HC18
        try clear c1
        try clear p1
        try clear q1
        try clear hx1
        try clear c2
        try clear p2
        try clear c6
        try clear p6
        try clear c8
        try clear c11
        try clear c12
        try clear c15
        try clear c15b0
        try clear c16
        try clear c16b0
        try clear c17
        try clear c17b0
        try clear p17
        try clear q17
        try clear hx17
        try clear c19
        try clear c19b0
        try clear c21
        try clear c21b0
        try clear c22
        try clear c22b0
        try clear hcz13_0
        try clear hcz13_1
        try clear hcz13_2
        try clear hcz14_0
        try clear hcz14_1
        try clear hcz9_0
        try clear hcz9_1
        try clear hcz9_2
        try clear hfz13_0
        try clear hfz13_1
        try clear hfz13_2
        try clear hfz14_0
        try clear hfz14_1
        try clear hfz9_0
        try clear hfz9_1
        try clear hfz9_2
        try clear hx177_0
        try clear hx178_0
        try clear p177
        try clear p178
        try clear p2
        try clear p6
        try clear q177
        try clear q178
        obtain ⟨kq, x42_17, rfl, HA, HJ17, BK174, BK175, HB⟩ := hcut
        cases kq with
        | zero => exact absurd HA.out (by simp [spec_toCan.j1])
        | succ kj17 =>
         have H := HA.out
         clear HA
         simp only [spec_toCan.j1] at H
         by_cases c24 : x42_17 = true
         ·
          subst c24
          have H1 : (some false) = some r := by rw [if_pos rfl] at H; exact H
          clear H
          have H := H1
          clear H1
          obtain rfl := Option.some.inj H
          go_wp2
          repeat (go_quiet (fail); try go_wp2)
          go_ret
          exact ⟨rx_, by repeat (with_reducible first | exact HB.out | apply ba_ | apply bN_ | apply b1_ | refine below_set ?_ (Aside0.out (by assumption)))⟩
         ·
          replace c24 := Bool.eq_false_iff.mpr c24
          subst c24
          have H1 : (spec_toCan.l1 kj17 l2 x7_1 x8_1 (rd_L2 l2 x26_1) l2 (l2.length : Int) x26_1 (rd_L2 l2 x26_1) ((rd_L2 l2 x26_1).length : Int) 0 l1_0 a1_1) = some r := by rw [if_neg (show ¬ (false = true) by decide)] at H; exact H
          clear H
          have H := H1
          clear H1
          have H' := ak_ H
          clear H
          go_wp2
          repeat (go_quiet (fail); try go_wp2)
          go_loopg [45] kj17 (fun kq v45 w' => ∃ (x45_3 : Int), v45 = .int .i64 x45_3 ∧ Aside0 (spec_toCan.l1 kq l2 x7_1 x8_1 (rd_L2 l2 x26_1) l2 (l2.length : Int) x26_1 (rd_L2 l2 x26_1) ((rd_L2 l2 x26_1).length : Int) x45_3 l1_0 a1_1 = some r) ∧ Aside0 (kq ≤ kj17) ∧ Aside0 (w'.heap[gb174]? = some (.cells #[(.slice A0_0 l0_0.length c0_0), .int .i64 a0_1, .int .i64 a0_2] 33 (0, 0))) ∧ Aside0 (w'.heap[gb175]? = some (.cells #[(.slice A1_0 l1_0.length c1_0), .int .i64 a1_1] 35 (0, 0))) ∧ Aside0 (Below w.heap.size w w'))
          case atStart => exact ⟨(0), (ry_), H', ⟨Nat.le_refl _⟩, ⟨pk BK174.out⟩, ⟨pk BK175.out⟩, ⟨by repeat (with_reducible first | exact HB.out | apply ba_ | apply bN_ | apply b1_ | refine below_set ?_ (Aside0.out (by assumption)))⟩⟩
          case round =>
           clear H'
           try clear c1
           try clear p1
           try clear q1
           try clear hx1
           try clear c2
           try clear p2
           try clear c6
           try clear p6
           try clear c8
           try clear c11
           try clear c12
           try clear c15
           try clear c15b0
           try clear c16
           try clear c16b0
           try clear c17
           try clear c17b0
           try clear p17
           try clear q17
           try clear hx17
           try clear c19
           try clear c19b0
           try clear c21
           try clear c21b0
           try clear c22
           try clear c22b0
           try clear c24
           try clear hcz13_0
           try clear hcz13_1
           try clear hcz13_2
           try clear hcz14_0
           try clear hcz14_1
           try clear hcz9_0
           try clear hcz9_1
           try clear hcz9_2
           try clear hfz13_0
           try clear hfz13_1
           try clear hfz13_2
           try clear hfz14_0
           try clear hfz14_1
           try clear hfz9_0
           try clear hfz9_1
           try clear hfz9_2
           try clear hx177_0
           try clear hx178_0
           try clear p1
           try clear p17
           try clear p177
           try clear p178
           try clear p2
           try clear p6
           try clear q1
           try clear q17
           try clear q177
           try clear q178
           obtain ⟨x45_3, rfl, HA, HK3, BK174, BK175, HB⟩ := hrel
           cases gk with
           | zero => exact absurd HA.out (by simp [spec_toCan.l1])
           | succ k3 =>
            have H := HA.out
            clear HA
            simp only [spec_toCan.l1] at H
            by_cases c25 : x45_3 < ((rd_L2 l2 x26_1).length : Int)
            ·
             rw [if_pos c25] at H
             have c25b0 : decide (x45_3 < ((rd_L2 l2 x26_1).length : Int)) = true := decide_eq_true c25
             clear c25
             by_cases c26 : 0 ≤ x45_3
             ·
              rw [if_pos c26] at H
              have c26b0 : decide (0 ≤ x45_3) = true := decide_eq_true c26
              clear c26
              by_cases c27 : x45_3 < ((rd_L2 l2 x26_1).length : Int)
              ·
               rw [if_pos c27] at H
               have c27b0 : decide (x45_3 < ((rd_L2 l2 x26_1).length : Int)) = true := decide_eq_true c27
               clear c27
               by_cases c28 : 0 ≤ (rd (rd_L2 l2 x26_1) x45_3)
               ·
                rw [if_pos c28] at H
                have c28b0 : decide (0 ≤ (rd (rd_L2 l2 x26_1) x45_3)) = true := decide_eq_true c28
                clear c28
                by_cases c29 : (rd (rd_L2 l2 x26_1) x45_3) < (l1_0.length : Int)
                ·
                 rw [if_pos c29] at H
                 have c29b0 : decide ((rd (rd_L2 l2 x26_1) x45_3) < (l1_0.length : Int)) = true := decide_eq_true c29
                 clear c29
                 by_cases c30 : 0 < ((rd_L2 l2 x26_1).length : Int)
                 ·
                  rw [if_pos c30] at H
                  have c30b0 : decide (0 < ((rd_L2 l2 x26_1).length : Int)) = true := decide_eq_true c30
                  have c30b1 : decide (0 < (rd_L2 l2 x26_1).length) = true := decide_eq_true (by omega)
                  clear c30
                  by_cases c31 : 0 ≤ (rd (rd_L2 l2 x26_1) 0)
                  ·
                   rw [if_pos c31] at H
                   have c31b0 : decide (0 ≤ (rd (rd_L2 l2 x26_1) 0)) = true := decide_eq_true c31
                   clear c31
                   by_cases c32 : (rd (rd_L2 l2 x26_1) 0) < (l1_0.length : Int)
                   ·
                    rw [if_pos c32] at H
                    have c32b0 : decide ((rd (rd_L2 l2 x26_1) 0) < (l1_0.length : Int)) = true := decide_eq_true c32
                    clear c32
                    have HC33 := ak_ H
                    clear H
                    have p180 : 0 ≤ (x45_3 : Int) := odt_ (by assumption)
                    have q180 : x45_3 < ((rd_L2 l2 x26_1).length : Int) := odt_ (by assumption)
                    obtain ⟨ad180, e180, hx180_0⟩ := Kd.at_int HR177_0.out x45_3 p180 q180
                    cases e180
                    try replace hx180_0 := (HB.out.cell (World.block_lt_of_cell? w _ hx180_0)).trans hx180_0
                    replace p180 := eq_true p180
                    replace q180 := eq_true q180
                    have hnb34 := NB175_174.out
                    have hnc34 := NB174_175.out
                    have hcz35_0 : wr.cell? ⟨gb175, 0, none⟩ = some (.slice A1_0 l1_0.length c1_0) := (blk_cell BK175.out 0).trans rfl
                    have hcz35_1 : wr.cell? ⟨gb175, 1, none⟩ = some (.int .i64 a1_1) := (blk_cell BK175.out 1).trans rfl
                    have hfz35_0 := blk_frozen BK175.out 0
                    have hfz35_1 := blk_frozen BK175.out 1
                    have p181 : 0 ≤ ((rd (rd_L2 l2 x26_1) x45_3) : Int) := odt_ (by assumption)
                    have q181 : (rd (rd_L2 l2 x26_1) x45_3) < (l1_0.length : Int) := odt_ (by assumption)
                    obtain ⟨ad181, e181, hx181_0⟩ := Kd.at_bool HR1_0.out (rd (rd_L2 l2 x26_1) x45_3) p181 q181
                    cases e181
                    try replace hx181_0 := (HB.out.cell (World.block_lt_of_cell? w _ hx181_0)).trans hx181_0
                    replace p181 := eq_true p181
                    replace q181 := eq_true q181
                    have p182 : 0 ≤ (0 : Int) := (by omega)
                    have q182 : 0 < ((rd_L2 l2 x26_1).length : Int) := odt_ (by assumption)
                    obtain ⟨ad182, e182, hx182_0⟩ := Kd.at_int HR177_0.out 0 p182 q182
                    obtain rfl : ad180 = ad182 := (by injection e182)
                    have qi182 : (0 < (rd_L2 l2 x26_1).length) = True := eq_true (by omega)
                    (try rw [show ((0 : Int)).toNat = 0 from rfl] at hx182_0)
                    (try rw [Addr.add_zero'] at hx182_0)
                    try replace hx182_0 := (HB.out.cell (World.block_lt_of_cell? w _ hx182_0)).trans hx182_0
                    replace p182 := eq_true p182
                    replace q182 := eq_true q182
                    have p183 : 0 ≤ ((rd (rd_L2 l2 x26_1) 0) : Int) := odt_ (by assumption)
                    have q183 : (rd (rd_L2 l2 x26_1) 0) < (l1_0.length : Int) := odt_ (by assumption)
                    obtain ⟨ad183, e183, hx183_0⟩ := Kd.at_bool HR1_0.out (rd (rd_L2 l2 x26_1) 0) p183 q183
                    obtain rfl : ad181 = ad183 := (by injection e183)
                    try replace hx183_0 := (HB.out.cell (World.block_lt_of_cell? w _ hx183_0)).trans hx183_0
                    replace p183 := eq_true p183
                    replace q183 := eq_true q183
                    go_upto_if 61 with (fail)
                    repeat (go_quiet (fail); go_upto_if 61 with (fail))
                    have H := HC33.out
                    clear HC33
                    by_cases c36 : ((rdOf false l1_0 (rd (rd_L2 l2 x26_1) x45_3)) != (rdOf false l1_0 (rd (rd_L2 l2 x26_1) 0))) = true
                    ·
                     rw [if_pos c36] at H
                     have c36b0 : ((rdOf false l1_0 (rd (rd_L2 l2 x26_1) x45_3)) != (rdOf false l1_0 (rd (rd_L2 l2 x26_1) 0))) = true := c36
                     (try (have c36b1 : decide ((rdOf false l1_0 (rd (rd_L2 l2 x26_1) x45_3)) = (rdOf false l1_0 (rd (rd_L2 l2 x26_1) 0))) = false := by simpa using c36))
                     (try (have c36b2 : ((rdOf false l1_0 (rd (rd_L2 l2 x26_1) x45_3)) == (rdOf false l1_0 (rd (rd_L2 l2 x26_1) 0))) = false := by simpa using c36))
                     (try (have c36b7 : (!((rdOf false l1_0 (rd (rd_L2 l2 x26_1) x45_3)) == (rdOf false l1_0 (rd (rd_L2 l2 x26_1) 0)))) = true := by simp only [c36b2, Bool.not_true, Bool.not_false]))
                     (try (have c36b3 : ¬ ((rdOf false l1_0 (rd (rd_L2 l2 x26_1) x45_3)) = (rdOf false l1_0 (rd (rd_L2 l2 x26_1) 0))) := by simpa using c36))
                     clear c36
                     (first | rw [c36b0] | rw [c36b7] | (simp only [i64_w, i32_w]; rw [c36b0]) | rw [c36b1] | skip)
                     obtain rfl := Option.some.inj H
                     go_wp2
                     repeat (go_quiet (fail); try go_wp2)
                     go_ret
                     exact ⟨rx_, by repeat (with_reducible first | exact HB.out | apply ba_ | apply bN_ | apply b1_ | refine below_set ?_ (Aside0.out (by assumption)))⟩
                    ·
                     rw [if_neg c36] at H
                     have c36b0 : ((rdOf false l1_0 (rd (rd_L2 l2 x26_1) x45_3)) != (rdOf false l1_0 (rd (rd_L2 l2 x26_1) 0))) = false := by simpa using c36
                     (try (have c36b1 : decide ((rdOf false l1_0 (rd (rd_L2 l2 x26_1) x45_3)) = (rdOf false l1_0 (rd (rd_L2 l2 x26_1) 0))) = true := by simpa using c36))
                     (try (have c36b2 : ((rdOf false l1_0 (rd (rd_L2 l2 x26_1) x45_3)) == (rdOf false l1_0 (rd (rd_L2 l2 x26_1) 0))) = true := by simpa using c36))
                     (try (have c36b7 : (!((rdOf false l1_0 (rd (rd_L2 l2 x26_1) x45_3)) == (rdOf false l1_0 (rd (rd_L2 l2 x26_1) 0)))) = false := by simp only [c36b2, Bool.not_true, Bool.not_false]))
                     clear c36
                     (first | rw [c36b0] | rw [c36b7] | (simp only [i64_w, i32_w]; rw [c36b0]) | rw [c36b1] | skip)
                     have H' := ak_ H
                     clear H
                     go_wp2
                     repeat (go_quiet (fail); try go_wp2)
                     go_roundg k3
                     case measure => have := HK1.out; have := HJ17.out; have := HK3.out; omega
                     case rel => exact ⟨(wrap64 (x45_3 + 1)), (ry_), H', ⟨by have := HK1.out; have := HJ17.out; have := HK3.out; omega⟩, ⟨pk BK174.out⟩, ⟨pk BK175.out⟩, ⟨by repeat (with_reducible first | exact HB.out | apply ba_ | apply bN_ | apply b1_ | refine below_set ?_ (Aside0.out (by assumption)))⟩⟩
                   ·
                    rw [if_neg c32] at H
                    exact absurd H (by simp)
                  ·
                   rw [if_neg c31] at H
                   exact absurd H (by simp)
                 ·
                  rw [if_neg c30] at H
                  exact absurd H (by simp)
                ·
                 rw [if_neg c29] at H
                 exact absurd H (by simp)
               ·
                rw [if_neg c28] at H
                exact absurd H (by simp)
              ·
               rw [if_neg c27] at H
               exact absurd H (by simp)
             ·
              rw [if_neg c26] at H
              exact absurd H (by simp)
            ·
             rw [if_neg c25] at H
             have c25b0 : decide (x45_3 < ((rd_L2 l2 x26_1).length : Int)) = false := decide_eq_false c25
             clear c25
             by_cases c37 : 0 < ((rd_L2 l2 x26_1).length : Int)
             ·
              rw [if_pos c37] at H
              have c37b0 : decide (0 < ((rd_L2 l2 x26_1).length : Int)) = true := decide_eq_true c37
              have c37b1 : decide (0 < (rd_L2 l2 x26_1).length) = true := decide_eq_true (by omega)
              clear c37
              by_cases c38 : 0 ≤ (rd (rd_L2 l2 x26_1) 0)
              ·
               rw [if_pos c38] at H
               have c38b0 : decide (0 ≤ (rd (rd_L2 l2 x26_1) 0)) = true := decide_eq_true c38
               clear c38
               by_cases c39 : (rd (rd_L2 l2 x26_1) 0) < (l1_0.length : Int)
               ·
                rw [if_pos c39] at H
                have c39b0 : decide ((rd (rd_L2 l2 x26_1) 0) < (l1_0.length : Int)) = true := decide_eq_true c39
                clear c39
                have HC40 := ak_ H
                clear H
                have hnb41 := NB175_174.out
                have hnc41 := NB174_175.out
                have hcz42_0 : wr.cell? ⟨gb175, 0, none⟩ = some (.slice A1_0 l1_0.length c1_0) := (blk_cell BK175.out 0).trans rfl
                have hcz42_1 : wr.cell? ⟨gb175, 1, none⟩ = some (.int .i64 a1_1) := (blk_cell BK175.out 1).trans rfl
                have hfz42_0 := blk_frozen BK175.out 0
                have hfz42_1 := blk_frozen BK175.out 1
                have p184 : 0 ≤ (0 : Int) := (by omega)
                have q184 : 0 < ((rd_L2 l2 x26_1).length : Int) := odt_ (by assumption)
                obtain ⟨ad184, e184, hx184_0⟩ := Kd.at_int HR177_0.out 0 p184 q184
                cases e184
                have qi184 : (0 < (rd_L2 l2 x26_1).length) = True := eq_true (by omega)
                (try rw [show ((0 : Int)).toNat = 0 from rfl] at hx184_0)
                (try rw [Addr.add_zero'] at hx184_0)
                try replace hx184_0 := (HB.out.cell (World.block_lt_of_cell? w _ hx184_0)).trans hx184_0
                replace p184 := eq_true p184
                replace q184 := eq_true q184
                have p185 : 0 ≤ ((rd (rd_L2 l2 x26_1) 0) : Int) := odt_ (by assumption)
                have q185 : (rd (rd_L2 l2 x26_1) 0) < (l1_0.length : Int) := odt_ (by assumption)
                obtain ⟨ad185, e185, hx185_0⟩ := Kd.at_bool HR1_0.out (rd (rd_L2 l2 x26_1) 0) p185 q185
                cases e185
                try replace hx185_0 := (HB.out.cell (World.block_lt_of_cell? w _ hx185_0)).trans hx185_0
                replace p185 := eq_true p185
                replace q185 := eq_true q185
                go_upto_if 69 with (fail)
                repeat (go_quiet (fail); go_upto_if 69 with (fail))
                have H := HC40.out
                clear HC40
                obtain ⟨bq43, hbq43⟩ : ∃ b_ : Bool, b_ = (rdOf false l1_0 (rd (rd_L2 l2 x26_1) 0)) := ⟨_, rfl⟩
                replace H : (if bq43 = true then (spec_toCan.l0 k3 l2 x7_1 (wrap64 (x8_1 - 1)) l2 (l2.length : Int) (wrap64 (x26_1 + 1)) l1_0 a1_1) else (spec_toCan.l0 k3 l2 (wrap64 (x7_1 - 1)) x8_1 l2 (l2.length : Int) (wrap64 (x26_1 + 1)) l1_0 a1_1)) = some r := by rw [← hbq43] at H; exact H
                have Nbq43 := ak_ hbq43
                clear hbq43
                (try rw [← Nbq43.out])
                by_cases c44 : bq43 = true
                ·
                 subst c44
                 have H1 : (spec_toCan.l0 k3 l2 x7_1 (wrap64 (x8_1 - 1)) l2 (l2.length : Int) (wrap64 (x26_1 + 1)) l1_0 a1_1) = some r := by rw [if_pos rfl] at H; exact H
                 clear H
                 have H := H1
                 clear H1
                 have H' := ak_ H
                 clear H
                 go_wp2
                 repeat (go_quiet (fail); try go_wp2)
                 go_roundg k3
                 case measure => have := HK1.out; have := HJ17.out; have := HK3.out; omega
                 case rel => exact ⟨(x7_1), (wrap64 (x8_1 - 1)), (wrap64 (x26_1 + 1)), (ry_), (ry_), (ry_), H', ⟨by have := HK1.out; have := HJ17.out; have := HK3.out; omega⟩, ⟨pk BK174.out⟩, ⟨pk BK175.out⟩, ⟨by repeat (with_reducible first | exact HB.out | apply ba_ | apply bN_ | apply b1_ | refine below_set ?_ (Aside0.out (by assumption)))⟩⟩
                ·
                 replace c44 := Bool.eq_false_iff.mpr c44
                 subst c44
                 have H1 : (spec_toCan.l0 k3 l2 (wrap64 (x7_1 - 1)) x8_1 l2 (l2.length : Int) (wrap64 (x26_1 + 1)) l1_0 a1_1) = some r := by rw [if_neg (show ¬ (false = true) by decide)] at H; exact H
                 clear H
                 have H := H1
                 clear H1
                 have H' := ak_ H
                 clear H
                 go_wp2
                 repeat (go_quiet (fail); try go_wp2)
                 go_roundg k3
                 case measure => have := HK1.out; have := HJ17.out; have := HK3.out; omega
                 case rel => exact ⟨(wrap64 (x7_1 - 1)), (x8_1), (wrap64 (x26_1 + 1)), (ry_), (ry_), (ry_), H', ⟨by have := HK1.out; have := HJ17.out; have := HK3.out; omega⟩, ⟨pk BK174.out⟩, ⟨pk BK175.out⟩, ⟨by repeat (with_reducible first | exact HB.out | apply ba_ | apply bN_ | apply b1_ | refine below_set ?_ (Aside0.out (by assumption)))⟩⟩
               ·
                rw [if_neg c39] at H
                exact absurd H (by simp)
              ·
               rw [if_neg c38] at H
               exact absurd H (by simp)
             ·
              rw [if_neg c37] at H
              exact absurd H (by simp)
      ·
       rw [if_neg c17] at H
       exact absurd H (by simp)
     ·
      rw [if_neg c16] at H
      exact absurd H (by simp)
    ·
     rw [if_neg c15] at H
     have c15b0 : decide (x26_1 < (l2.length : Int)) = false := decide_eq_false c15
     clear c15
     (first | rw [c15b0] | (simp only [i64_w, i32_w]; rw [c15b0]) | rw [c15b1] | skip)
     by_cases c45 : x7_1 ≥ 0
     ·
      rw [if_pos c45] at H
      have c45b0 : decide (0 ≤ x7_1) = true := decide_eq_true c45
      clear c45
      obtain rfl := Option.some.inj H
      go_wp2
      repeat (go_quiet (fail); try go_wp2)
      go_ret
      exact ⟨rx_, by repeat (with_reducible first | exact HB.out | apply ba_ | apply bN_ | apply b1_ | refine below_set ?_ (Aside0.out (by assumption)))⟩
     ·
      rw [if_neg c45] at H
      have c45b0 : decide (0 ≤ x7_1) = false := decide_eq_false c45
      clear c45
      obtain rfl := Option.some.inj H
      go_wp2
      repeat (go_quiet (fail); try go_wp2)
      go_ret
      exact ⟨rx_, by repeat (with_reducible first | exact HB.out | apply ba_ | apply bN_ | apply b1_ | refine below_set ?_ (Aside0.out (by assumption)))⟩
 ·
  replace c11 := Bool.eq_false_iff.mpr c11
  subst c11
  have H1 : (some false) = some r := by rw [if_neg (show ¬ (false = true) by decide)] at H; exact H
  clear H
  have H := H1
  clear H1
  obtain rfl := Option.some.inj H
  go_wp2
  repeat (go_quiet (fail); try go_wp2)
  go_ret
  exact ⟨rx_, by repeat (with_reducible first | exact HB.out | apply ba_ | apply bN_ | apply b1_ | refine below_set ?_ (Aside0.out (by assumption)))⟩
end Go.Proofs.Ytmdbhpbogbekmaa.QNt
