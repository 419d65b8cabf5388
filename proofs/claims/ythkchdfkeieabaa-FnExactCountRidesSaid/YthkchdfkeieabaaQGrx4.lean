/- Contracts of functions of the given program, walked: each call returns what its Lean function says. Conditions: those that stand at each theorem. (Written by a program of this session.) -/
import Derived.Test.YthkchdfkeieabaaQGrx0
namespace Go.Proofs.Ythkchdfkeieabaa.QGr
open Go.RowKit Go.Proofs.YthkchdfkeieabaaW.PrintWords Go.Proofs.YthkchdfkeieabaaW.PrintLast Go.Proofs.YthkchdfkeieabaaW.PrintMore
open List (setIfInBounds_toArray set_cons_zero set_cons_succ map_toArray map_cons map_nil)
attribute [local go_sem] max2_int min2_int max_two min_two max_three min_three max_four min_four
set_option linter.unusedVariables false
set_option maxHeartbeats 8000000
set_option maxRecDepth 100000
set_option linter.unusedSimpArgs false
def spec_keRide.l0 : Nat → List Int → Int → Int → List Bool → Bool → List Bool → Bool → Option (List Bool × Bool)
 | 0, _, _, _, _, _, _, _ => none
 | k + 1, x16, x17, x18, x157000, x157001, x165000, x165001 => if x18 < x17 then (if 0 ≤ x18 then (if x18 < (x16.length : Int) then (if 0 ≤ (rd x16 x18) then (if (rd x16 x18) < (x157000.length : Int) then (if (rd x16 x18) < (x165000.length : Int) then (spec_keRide.l0 k x16 x17 (wrap64 (x18 + 1)) x157000 x157001 (x165000.set ((rd x16 x18) : Int).toNat (!(rdOf false x157000 (rd x16 x18)))) x165001) else (none)) else (none)) else (none)) else (none)) else (none)) else (some (x165000, x165001))
def spec_keRide.f (k : Nat) (l0_0 : List Bool) (a0_1 : Bool) (l1 : List Int) : Option (List Bool × Bool) := (some (([] : List Bool) : List Bool)).bind fun y158 => (if y158.length + l0_0.length < 140737488355328 then (spec_keRide.l0 k l1 (l1.length : Int) 0 l0_0 a0_1 (y158 ++ l0_0) (!a0_1)) else (none))
theorem spec_keRide.mono_l : ∀ k, (∀ y0 y1 y2 y3 y4 y5 y6, LeO (spec_keRide.l0 k y0 y1 y2 y3 y4 y5 y6) (spec_keRide.l0 (k + 1) y0 y1 y2 y3 y4 y5 y6))
 | 0 => fun _ _ _ _ _ _ _ r h => by simp [spec_keRide.l0] at h
 | k + 1 => by
  have ih0 := spec_keRide.mono_l k
  ·intro y0 y1 y2 y3 y4 y5 y6
   unfold spec_keRide.l0
   repeat' first
   | (with_reducible first | exact ih0 _ _ _ _ _ _ _ | exact LeO.refl _ | exact LeO.none _ | refine LeO.ite ?_ ?_ | refine LeO.bind ?_ (fun _ => ?_))
   | exact ih0 _ _ _ _ _ _ _
   | exact LeO.none _
   | refine LeO.ite ?_ ?_
   | refine LeO.bind ?_ (fun _ => ?_)
theorem spec_keRide.mono : ∀ a0 a1 a2 k, LeO (spec_keRide.f k a0 a1 a2) (spec_keRide.f (k + 1) a0 a1 a2) := by
 intro a0 a1 a2 k
 have ih0 := spec_keRide.mono_l k
 unfold spec_keRide.f
 repeat' first
  | (with_reducible first | exact ih0 _ _ _ _ _ _ _ | exact LeO.refl _ | exact LeO.none _ | refine LeO.ite ?_ ?_ | refine LeO.bind ?_ (fun _ => ?_))
  | exact ih0 _ _ _ _ _ _ _
  | exact LeO.none _
  | refine LeO.ite ?_ ?_
  | refine LeO.bind ?_ (fun _ => ?_)
def spec_keRide.T1 : Bool × List (List Nat × List Nat) := (true, [([], []), ([], []), ([1], [1]), ([0, 2], [0, 2]), ([], []), ([4], [4]), ([5], [5]), ([3, 6], [3, 6]), ([], []), ([8, 7, 3, 0, 1, 2, 3, 4, 5, 6, 7, 8], [7, 8])])
def spec_keRide.B1 : List Nat := [0, 0, 2, 7, 0, 16, 48, 127, 0, 511]
theorem spec_keRide.tab1 : rtab .any (opsOf Try.f75 1) = spec_keRide.T1 := by kernel_rfl
theorem spec_keRide.bits1 : waitsOk spec_keRide.T1.2 spec_keRide.B1 = true := by kernel_rfl
def spec_keRide.T5 : Bool × List (List Nat × List Nat) := (true, [([], []), ([0], [0]), ([], []), ([], []), ([3], [3]), ([], []), ([4, 5], [4, 5]), ([6], [6]), ([7], [7]), ([1, 2, 0, 1, 2, 3, 4, 5, 6, 7, 8], [1, 2]), ([9, 8, 0, 1, 2, 3, 4, 5, 6, 7, 8], [8, 9])])
def spec_keRide.B5 : List Nat := [0, 1, 0, 0, 8, 0, 56, 120, 248, 511, 1023]
theorem spec_keRide.tab5 : rtab .any (opsOf Try.f75 5) = spec_keRide.T5 := by kernel_rfl
theorem spec_keRide.bits5 : waitsOk spec_keRide.T5.2 spec_keRide.B5 = true := by kernel_rfl
theorem spec_keRide.calls (k : Nat) (A0_0 : Option Addr) (c0_0 : Nat) (l0_0 : List Bool) (a0_1 : Bool) (A1 : Option Addr) (c1 : Nat) (l1 : List Int) (r1 : List Bool) (r2 : Bool) (w : World) (hr0_0 : Kd.C Kd.bool w A0_0 l0_0.length l0_0) (hc0_0 : l0_0.length ≤ c0_0) (hr1 : Kd.C (Kd.int .i64) w A1 l1.length l1) (hc1 : l1.length ≤ c1) (h : spec_keRide.f k l0_0 a0_1 l1 = some (r1, r2)) :
  Calls Try.prog 75 #[.agg #[.slice A0_0 l0_0.length c0_0, .bool a0_1], .slice A1 l1.length c1] w fun e w' => ∃ v0_ : Value, e = .returned (.agg #[v0_, .bool r2]) ∧ Kd.R Kd.bool 4 w' w.heap.size (fun _ => True) v0_ r1 ∧ Below w.heap.size w w' := by
 have hu90 := Try.underlying90
 have HR0_0 := ak_ hr0_0
 have HC0_0 := ak_ hc0_0
 clear hr0_0 hc0_0
 have HR1 := ak_ hr1
 have HC1 := ak_ hc1
 clear hr1 hc1
 have HB := ak_ (Below.refl w.heap.size w)
 have H : ((some (([] : List Bool) : List Bool)).bind fun y158 => (if y158.length + l0_0.length < 140737488355328 then (spec_keRide.l0 k l1 (l1.length : Int) 0 l0_0 a0_1 (y158 ++ l0_0) (!a0_1)) else (none))) = some (r1, r2) := h
 clear h
 obtain ⟨y158, hy158⟩ : ∃ y_ : List Bool, y_ = (([] : List Bool)) := ⟨_, rfl⟩
 replace H : (if y158.length + l0_0.length < 140737488355328 then (spec_keRide.l0 k l1 (l1.length : Int) 0 l0_0 a0_1 (y158 ++ l0_0) (!a0_1)) else (none)) = some (r1, r2) := by first | (rw [hy158]; exact H) | exact H
 have Ny158 := ak_ hy158
 clear hy158
 by_cases c3 : y158.length + l0_0.length < 140737488355328
 ·
  rw [if_pos c3] at H
  have LMc3 := ak_ c3
  clear c3
  obtain ⟨y161, hy161⟩ : ∃ y_ : List Bool, y_ = (y158 ++ l0_0) := ⟨_, rfl⟩
  replace H : (spec_keRide.l0 k l1 (l1.length : Int) 0 l0_0 a0_1 y161 (!a0_1)) = some (r1, r2) := by first | (rw [hy161]; exact H) | exact H
  have Ny161 := ak_ hy161
  clear hy161
  have H' := ak_ H
  clear H
  go_enter Try.func75, Try.ntmps75
  try go_wp2_with (first | ((with_reducible refine gate_dst (N := 2) rfl ?_); refine bx_ 2 #[.slice A0_0 l0_0.length c0_0, .bool a0_1] 90 ?_; intro gb156 hg w4 hbox hb; have n0_ := ak_ (bs_ (bb_ HB.out) hb); have n1_ := ak_ (hbox); have n2_ := ak_ ((by rw [hg]; exact (bz_ (bb_ HB.out)) : w.heap.size ≤ gb156)); have n3_ := n2_; clear HB; have HB := n0_; have BK156 := n1_; have GW156 := n2_; have GE156 := n3_; clear n0_ n1_ n2_ n3_; clear hb hbox hg) | ((with_reducible refine gate_dst (N := 4) rfl ?_); refine bx_ 4 #[.slice none 0 0, .bool false] 90 ?_; intro gb157 hg w5 hbox hb; have n0_ := ak_ (blk_below (pk BK156.out) hb); have n1_ := ak_ (bs_ bl_ hb); have n2_ := ak_ (hbox); have n3_ := ak_ ((by rw [hg]; exact (bz_ bl_) : w.heap.size ≤ gb157)); have n4_ := n3_; have n5_ := ak_ ((by rw [hg]; exact Nat.ne_of_lt (blk_lt (pk BK156.out)) : gb156 ≠ gb157)); have n6_ := ak_ n5_.out.symm; clear BK156; clear HB; have BK156 := n0_; have HB := n1_; have BK157 := n2_; have GW157 := n3_; have GE157 := n4_; have NB156_157 := n5_; have NB157_156 := n6_; clear n0_ n1_ n2_ n3_ n4_ n5_ n6_; clear hb hbox hg))
  have n0_ := ak_ (k1_ BK156.out)
  have n1_ := ak_ (k1_ BK157.out)
  have n2_ := ak_ (b1_ HB.out)
  clear BK156 BK157 HB
  have BK156 := n0_; have BK157 := n1_; have HB := n2_
  clear n0_ n1_ n2_
  refine start_ (n := 10) (S := fun w' => w'.cell? ⟨gb156, 0, none⟩ = some (.slice A0_0 l0_0.length c0_0) ∧ w'.cell? ⟨gb156, 1, none⟩ = some (.bool a0_1)) (ds := []) (mb_ 10 0) (by kernel_rfl) rfl rfl ⟨(blk_cell BK156.out 0).trans rfl, (blk_cell BK156.out 1).trans rfl⟩ (fun hHeld => ?_); refine with_tabW spec_keRide.tab1 spec_keRide.bits1 (fun HT_ HW_ => ?_)
  generalize w5.drew = w6 at BK156 BK157 HB hHeld ⊢
  refine pu_ 1 9 10 2 ?_
  refine pu_ 4 12 10 18 ?_
  refine tk_ 2 10 10 22 ?_ (hy := by rintro w' ⟨s0, s1⟩; go_simp; with_reducible rfl)
  refine tk_ 5 13 10 54 ?_ (hy := by rintro w' ⟨s0, s1⟩; go_simp; with_reducible rfl)
  refine pu_ 6 14 10 118 ?_
  refine join_ (σ := Value × Value × Nat) 1 (mb_ 10 511) (fun s_ => [(8, s_.1), (11, s_.2.1), (5, .pointer (some ⟨s_.2.2, 0, none⟩)), (15, .agg #[s_.2.1, .bool (!a0_1)])]) (fun s_ w' => (w'.cell? ⟨gb156, 0, none⟩ = some (.slice A0_0 l0_0.length c0_0) ∧ w'.cell? ⟨gb156, 1, none⟩ = some (.bool a0_1)) ∧ (Kd.R Kd.bool 4 w' w.heap.size (fun _ => True) s_.2.1 y161) ∧ (w'.heap[gb156]? = some (.cells #[.slice A0_0 l0_0.length c0_0, .bool a0_1] 90 (0, 0))) ∧ (w'.heap[gb157]? = some (.cells #[.slice none 0 0, .bool false] 90 (0, 0))) ∧ (w'.heap[s_.2.2]? = some (.cells #[.slice none 0 0, .bool false] 90 (0, 0))) ∧ (w.heap.size ≤ s_.2.2) ∧ (w.heap.size ≤ s_.2.2) ∧ (gb156 ≠ s_.2.2) ∧ (s_.2.2 ≠ gb156) ∧ (gb157 ≠ s_.2.2) ∧ (s_.2.2 ≠ gb157) ∧ (Below w.heap.size w w')) ?_ ?_
  rotate_left
  ·
   intro hCont
   refine two_ (i := 0) (j := 8) (Ni := some 8) (Nj := some 5) (mb_ 10 119) (mb_ 10 374) rfl rfl rfl rfl (two_of HT_.out (by kernel_rfl)) (by decide) (by decide) (fun K hK => ?_) (fun K hK => ?_)
   ·
    skip
    refine Kd.R_lit_step Kd.bool _ 4 ?hg (N := 8) ?hd (xs := ([] : List Bool)) (inner := []) (ok := fun _ => True) (okp := fun _ => True) ?hr ?hp (fun _ hk => hk) trivial (Below.refl _ _) (Nat.le_refl _) (by simp) ?_; (case hd => rfl); (case hg => rfl); (case hr => go_simp <;> rfl); (case hp => exact (Reps.none _ _))
    intro v159 w7 ho8 hb hg_ hnew_
    clear hg_ hnew_
    (first | rw [← Ny158.out] at ho8 | (simp only [Int.reduceToNat] at ho8; rw [← Ny158.out] at ho8))
    have n0_ := ak_ (Kd.R_lower ho8 (bz_ bl_))
    have n1_ := ak_ (blk_below (pk BK156.out) hb)
    have n2_ := ak_ (blk_below (pk BK157.out) hb)
    have n3_ := ak_ (bs_ bl_ hb)
    clear BK156 BK157 HB
    have HO160 := n0_; have BK156 := n1_; have BK157 := n2_; have HB := n3_
    clear n0_ n1_ n2_ n3_ hb ho8
    refine hK.out _ _ ⟨(blk_cell BK156.out 0).trans rfl, (blk_cell BK156.out 1).trans rfl⟩ (fun hHeld => ?_)
    clear hK K
    refine nm_ ?_
    refine two_ (i := 3) (j := 8) (Ni := some 11) (Nj := some 5) (mb_ 10 127) (mb_ 10 375) rfl rfl rfl rfl (two_of HT_.out (by kernel_rfl)) (by decide) (by decide) (fun K hK => ?_) (fun K hK => ?_)
    ·
     skip
     refine Kd.R_append_rows_step Kd.bool (w0 := w) w.heap.size (by rfl) (.tmp 8) (.tmp 10) 38 4 (.bool false) 1 rfl Try.underlying38 info4 rfl (by decide) (by omega) v159 y158 l0_0 _ _ _ (fun _ => True) (fun _ => False) rfl rfl ?aO ?aR (fun _ _ h => h) (fun _ h => h.elim) ?aF ?aB ?aS ?aL ?_
     (case aR => repeat (first | exact (Kd.C_below HR0_0.out HB.out) | (with_reducible refine Kd.C_alloc ?_ _) | (with_reducible refine Kd.C_drewN ?_ _) | (with_reducible refine Kd.C_drew ?_)))
     (case aB => exact bl_)
     (case aF => exact (fun _ _ => trivial))
     (case aO => exact (Kd.pR HO160.out))
     (case aS => exact (bz_ bl_))
     (case aL => have := LMc3.out; omega)
     intro v162 w9 ho hb hg hat
     rw [← Ny161.out] at ho
     have n0_ := ak_ (blk_grown (pk BK156.out) hg (Kd.R_ne HO160.out BK156.out (by decide)))
     have n1_ := ak_ (blk_grown (pk BK157.out) hg (Kd.R_ne HO160.out BK157.out (by decide)))
     have n2_ := ak_ (hb)
     have n3_ := ak_ (ho)
     clear BK156 BK157 HB HO160
     have BK156 := n0_; have BK157 := n1_; have HB := n2_; have HO163 := n3_
     clear n0_ n1_ n2_ n3_ ho hb hg hat
     obtain ⟨Ao10, co10, eo10⟩ := Kd.R_slice HO163.out
     (first | subst eo10 | (injection eo10 with f1_ f2_ f3_; have f4_ := f1_.symm; have f5_ := f3_.symm; clear f1_ f2_ f3_; subst f4_; subst f5_))
     refine hK.out _ _ ⟨(blk_cell BK156.out 0).trans rfl, (blk_cell BK156.out 1).trans rfl⟩ (fun hHeld => ?_)
     clear hK K
     refine nm_ ?_
     refine pu_ 7 15 10 255 ?_
     refine on_ 8 5 10 511 (fun K hK => ?_)
     refine box_step ?hg (N := 5) ?hd (cs := #[.slice none 0 0, .bool false]) (t := 90) ?hr ?_; (case hd => rfl); (case hg => rfl); (case hr => go_simp <;> rfl)
     intro gb164 hg w11 hbox hb
     have n0_ := ak_ (Kd.R_below (Kd.pR HO163.out) hb)
     have n1_ := ak_ (blk_below (pk BK156.out) hb)
     have n2_ := ak_ (blk_below (pk BK157.out) hb)
     have n3_ := ak_ (bs_ bl_ hb)
     have n4_ := ak_ (hbox)
     have n5_ := ak_ ((by rw [hg]; exact (bz_ bl_) : w.heap.size ≤ gb164))
     have n6_ := n5_
     have n7_ := ak_ ((by rw [hg]; exact Nat.ne_of_lt (blk_lt (pk BK156.out)) : gb156 ≠ gb164))
     have n8_ := ak_ n7_.out.symm
     have n9_ := ak_ ((by rw [hg]; exact Nat.ne_of_lt (blk_lt (pk BK157.out)) : gb157 ≠ gb164))
     have n10_ := ak_ n9_.out.symm
     clear HO163 BK156 BK157 HB
     have HO163 := n0_; have BK156 := n1_; have BK157 := n2_; have HB := n3_; have BK164 := n4_; have GW164 := n5_; have GE164 := n6_; have NB156_164 := n7_; have NB164_156 := n8_; have NB157_164 := n9_; have NB164_157 := n10_
     clear n0_ n1_ n2_ n3_ n4_ n5_ n6_ n7_ n8_ n9_ n10_ hb hbox hg
     refine hK.out _ _ ⟨(blk_cell BK156.out 0).trans rfl, (blk_cell BK156.out 1).trans rfl⟩ (fun hHeld => ?_)
     clear hK K
     refine nm_ ?_
     exact norm_ (by simp only [putAll, Act.put, setIfInBounds_toArray, set_cons_zero, set_cons_succ]) (hCont (v159, .slice Ao10 y161.length co10, gb164) _ ⟨hHeld, (Kd.pR HO163.out), (pk BK156.out), (pk BK157.out), (pk BK164.out), GW164.out, GE164.out, NB156_164.out, NB164_156.out, NB157_164.out, NB164_157.out, bl_⟩)
    ·
     skip
     refine box_step ?hg (N := 5) ?hd (cs := #[.slice none 0 0, .bool false]) (t := 90) ?hr ?_; (case hd => rfl); (case hg => rfl); (case hr => go_simp <;> rfl)
     intro gb164 hg w9 hbox hb
     have n0_ := ak_ (Kd.R_below (Kd.pR HO160.out) hb)
     have n1_ := ak_ (blk_below (pk BK156.out) hb)
     have n2_ := ak_ (blk_below (pk BK157.out) hb)
     have n3_ := ak_ (bs_ bl_ hb)
     have n4_ := ak_ (hbox)
     have n5_ := ak_ ((by rw [hg]; exact (bz_ bl_) : w.heap.size ≤ gb164))
     have n6_ := n5_
     have n7_ := ak_ ((by rw [hg]; exact Nat.ne_of_lt (blk_lt (pk BK156.out)) : gb156 ≠ gb164))
     have n8_ := ak_ n7_.out.symm
     have n9_ := ak_ ((by rw [hg]; exact Nat.ne_of_lt (blk_lt (pk BK157.out)) : gb157 ≠ gb164))
     have n10_ := ak_ n9_.out.symm
     clear HO160 BK156 BK157 HB
     have HO160 := n0_; have BK156 := n1_; have BK157 := n2_; have HB := n3_; have BK164 := n4_; have GW164 := n5_; have GE164 := n6_; have NB156_164 := n7_; have NB164_156 := n8_; have NB157_164 := n9_; have NB164_157 := n10_
     clear n0_ n1_ n2_ n3_ n4_ n5_ n6_ n7_ n8_ n9_ n10_ hb hbox hg
     refine hK.out _ _ ⟨(blk_cell BK156.out 0).trans rfl, (blk_cell BK156.out 1).trans rfl⟩ (fun hHeld => ?_)
     clear hK K
     refine nm_ ?_
     refine on_ 3 11 10 383 (fun K hK => ?_)
     refine Kd.R_append_rows_step Kd.bool (w0 := w) w.heap.size (by rfl) (.tmp 8) (.tmp 10) 38 4 (.bool false) 1 rfl Try.underlying38 info4 rfl (by decide) (by omega) v159 y158 l0_0 _ _ _ (fun _ => True) (fun _ => False) rfl rfl ?aO ?aR (fun _ _ h => h) (fun _ h => h.elim) ?aF ?aB ?aS ?aL ?_
     (case aR => repeat (first | exact (Kd.C_below HR0_0.out HB.out) | (with_reducible refine Kd.C_alloc ?_ _) | (with_reducible refine Kd.C_drewN ?_ _) | (with_reducible refine Kd.C_drew ?_)))
     (case aB => exact bl_)
     (case aF => exact (fun _ _ => trivial))
     (case aO => exact (Kd.pR HO160.out))
     (case aS => exact (bz_ bl_))
     (case aL => have := LMc3.out; omega)
     intro v162 w10 ho hb hg hat
     rw [← Ny161.out] at ho
     have n0_ := ak_ (blk_grown (pk BK156.out) hg (Kd.R_ne HO160.out BK156.out (by decide)))
     have n1_ := ak_ (blk_grown (pk BK157.out) hg (Kd.R_ne HO160.out BK157.out (by decide)))
     have n2_ := ak_ (blk_grown (pk BK164.out) hg (Kd.R_ne HO160.out BK164.out (by decide)))
     have n3_ := ak_ (hb)
     have n4_ := ak_ (ho)
     clear BK156 BK157 BK164 HB HO160
     have BK156 := n0_; have BK157 := n1_; have BK164 := n2_; have HB := n3_; have HO163 := n4_
     clear n0_ n1_ n2_ n3_ n4_ ho hb hg hat
     obtain ⟨Ao11, co11, eo11⟩ := Kd.R_slice HO163.out
     (first | subst eo11 | (injection eo11 with f1_ f2_ f3_; have f4_ := f1_.symm; have f5_ := f3_.symm; clear f1_ f2_ f3_; subst f4_; subst f5_))
     refine hK.out _ _ ⟨(blk_cell BK156.out 0).trans rfl, (blk_cell BK156.out 1).trans rfl⟩ (fun hHeld => ?_)
     clear hK K
     refine nm_ ?_
     refine pu_ 7 15 10 511 ?_
     exact norm_ (by simp only [putAll, Act.put, setIfInBounds_toArray, set_cons_zero, set_cons_succ]) (hCont (v159, .slice Ao11 y161.length co11, gb164) _ ⟨hHeld, (Kd.pR HO163.out), (pk BK156.out), (pk BK157.out), (pk BK164.out), GW164.out, GE164.out, NB156_164.out, NB164_156.out, NB157_164.out, NB164_157.out, bl_⟩)
   ·
    skip
    refine box_step ?hg (N := 5) ?hd (cs := #[.slice none 0 0, .bool false]) (t := 90) ?hr ?_; (case hd => rfl); (case hg => rfl); (case hr => go_simp <;> rfl)
    intro gb164 hg w7 hbox hb
    have n0_ := ak_ (blk_below (pk BK156.out) hb)
    have n1_ := ak_ (blk_below (pk BK157.out) hb)
    have n2_ := ak_ (bs_ bl_ hb)
    have n3_ := ak_ (hbox)
    have n4_ := ak_ ((by rw [hg]; exact (bz_ bl_) : w.heap.size ≤ gb164))
    have n5_ := n4_
    have n6_ := ak_ ((by rw [hg]; exact Nat.ne_of_lt (blk_lt (pk BK156.out)) : gb156 ≠ gb164))
    have n7_ := ak_ n6_.out.symm
    have n8_ := ak_ ((by rw [hg]; exact Nat.ne_of_lt (blk_lt (pk BK157.out)) : gb157 ≠ gb164))
    have n9_ := ak_ n8_.out.symm
    clear BK156 BK157 HB
    have BK156 := n0_; have BK157 := n1_; have HB := n2_; have BK164 := n3_; have GW164 := n4_; have GE164 := n5_; have NB156_164 := n6_; have NB164_156 := n7_; have NB157_164 := n8_; have NB164_157 := n9_
    clear n0_ n1_ n2_ n3_ n4_ n5_ n6_ n7_ n8_ n9_ hb hbox hg
    refine hK.out _ _ ⟨(blk_cell BK156.out 0).trans rfl, (blk_cell BK156.out 1).trans rfl⟩ (fun hHeld => ?_)
    clear hK K
    refine nm_ ?_
    refine on_ 0 8 10 375 (fun K hK => ?_)
    refine Kd.R_lit_step Kd.bool _ 4 ?hg (N := 8) ?hd (xs := ([] : List Bool)) (inner := []) (ok := fun _ => True) (okp := fun _ => True) ?hr ?hp (fun _ hk => hk) trivial (Below.refl _ _) (Nat.le_refl _) (by simp) ?_; (case hd => rfl); (case hg => rfl); (case hr => go_simp <;> rfl); (case hp => exact (Reps.none _ _))
    intro v159 w8 ho9 hb hg_ hnew_
    clear hg_ hnew_
    (first | rw [← Ny158.out] at ho9 | (simp only [Int.reduceToNat] at ho9; rw [← Ny158.out] at ho9))
    have n0_ := ak_ (Kd.R_lower ho9 (bz_ bl_))
    have n1_ := ak_ (blk_below (pk BK156.out) hb)
    have n2_ := ak_ (blk_below (pk BK157.out) hb)
    have n3_ := ak_ (blk_below (pk BK164.out) hb)
    have n4_ := ak_ (bs_ bl_ hb)
    clear BK156 BK157 BK164 HB
    have HO160 := n0_; have BK156 := n1_; have BK157 := n2_; have BK164 := n3_; have HB := n4_
    clear n0_ n1_ n2_ n3_ n4_ hb ho9
    refine hK.out _ _ ⟨(blk_cell BK156.out 0).trans rfl, (blk_cell BK156.out 1).trans rfl⟩ (fun hHeld => ?_)
    clear hK K
    refine nm_ ?_
    refine on_ 3 11 10 383 (fun K hK => ?_)
    refine Kd.R_append_rows_step Kd.bool (w0 := w) w.heap.size (by rfl) (.tmp 8) (.tmp 10) 38 4 (.bool false) 1 rfl Try.underlying38 info4 rfl (by decide) (by omega) v159 y158 l0_0 _ _ _ (fun _ => True) (fun _ => False) rfl rfl ?aO ?aR (fun _ _ h => h) (fun _ h => h.elim) ?aF ?aB ?aS ?aL ?_
    (case aR => repeat (first | exact (Kd.C_below HR0_0.out HB.out) | (with_reducible refine Kd.C_alloc ?_ _) | (with_reducible refine Kd.C_drewN ?_ _) | (with_reducible refine Kd.C_drew ?_)))
    (case aB => exact bl_)
    (case aF => exact (fun _ _ => trivial))
    (case aO => exact (Kd.pR HO160.out))
    (case aS => exact (bz_ bl_))
    (case aL => have := LMc3.out; omega)
    intro v162 w10 ho hb hg hat
    rw [← Ny161.out] at ho
    have n0_ := ak_ (blk_grown (pk BK156.out) hg (Kd.R_ne HO160.out BK156.out (by decide)))
    have n1_ := ak_ (blk_grown (pk BK157.out) hg (Kd.R_ne HO160.out BK157.out (by decide)))
    have n2_ := ak_ (blk_grown (pk BK164.out) hg (Kd.R_ne HO160.out BK164.out (by decide)))
    have n3_ := ak_ (hb)
    have n4_ := ak_ (ho)
    clear BK156 BK157 BK164 HB HO160
    have BK156 := n0_; have BK157 := n1_; have BK164 := n2_; have HB := n3_; have HO163 := n4_
    clear n0_ n1_ n2_ n3_ n4_ ho hb hg hat
    obtain ⟨Ao11, co11, eo11⟩ := Kd.R_slice HO163.out
    (first | subst eo11 | (injection eo11 with f1_ f2_ f3_; have f4_ := f1_.symm; have f5_ := f3_.symm; clear f1_ f2_ f3_; subst f4_; subst f5_))
    refine hK.out _ _ ⟨(blk_cell BK156.out 0).trans rfl, (blk_cell BK156.out 1).trans rfl⟩ (fun hHeld => ?_)
    clear hK K
    refine nm_ ?_
    refine pu_ 7 15 10 511 ?_
    exact norm_ (by simp only [putAll, Act.put, setIfInBounds_toArray, set_cons_zero, set_cons_succ]) (hCont (v159, .slice Ao11 y161.length co11, gb164) _ ⟨hHeld, (Kd.pR HO163.out), (pk BK156.out), (pk BK157.out), (pk BK164.out), GW164.out, GE164.out, NB156_164.out, NB164_156.out, NB157_164.out, NB164_157.out, bl_⟩)
  rintro ⟨v159, v162, gb164⟩ w12 ⟨hS_, h0_, h1_, h2_, h3_, h4_, h5_, h6_, h7_, h8_, h9_, h10_⟩
  have n0_ : Aside0 (Kd.R Kd.bool 4 w12 w.heap.size (fun _ => True) v162 y161) := ⟨h0_⟩
  have n1_ : Aside0 (w12.heap[gb156]? = some (.cells #[.slice A0_0 l0_0.length c0_0, .bool a0_1] 90 (0, 0))) := ⟨h1_⟩
  have n2_ : Aside0 (w12.heap[gb157]? = some (.cells #[.slice none 0 0, .bool false] 90 (0, 0))) := ⟨h2_⟩
  have n3_ : Aside0 (w12.heap[gb164]? = some (.cells #[.slice none 0 0, .bool false] 90 (0, 0))) := ⟨h3_⟩
  have n4_ : Aside0 (w.heap.size ≤ gb164) := ⟨h4_⟩
  have n5_ : Aside0 (w.heap.size ≤ gb164) := ⟨h5_⟩
  have n6_ : Aside0 (gb156 ≠ gb164) := ⟨h6_⟩
  have n7_ : Aside0 (gb164 ≠ gb156) := ⟨h7_⟩
  have n8_ : Aside0 (gb157 ≠ gb164) := ⟨h8_⟩
  have n9_ : Aside0 (gb164 ≠ gb157) := ⟨h9_⟩
  have n10_ : Aside0 (Below w.heap.size w w12) := ⟨h10_⟩
  clear BK156 BK157 HB h0_ h1_ h2_ h3_ h4_ h5_ h6_ h7_ h8_ h9_ h10_
  have HO163 := n0_; have BK156 := n1_; have BK157 := n2_; have BK164 := n3_; have GW164 := n4_; have GE164 := n5_; have NB156_164 := n6_; have NB164_156 := n7_; have NB157_164 := n8_; have NB164_157 := n9_; have HB := n10_
  clear n0_ n1_ n2_ n3_ n4_ n5_ n6_ n7_ n8_ n9_ n10_
  have hHeld : w12.cell? ⟨gb156, 0, none⟩ = some (.slice A0_0 l0_0.length c0_0) ∧ w12.cell? ⟨gb156, 1, none⟩ = some (.bool a0_1) := hS_
  obtain ⟨Ao13, co13, eo13⟩ := Kd.R_slice HO163.out
  (first | subst eo13 | (injection eo13 with f1_ f2_ f3_; have f4_ := f1_.symm; have f5_ := f3_.symm; clear f1_ f2_ f3_; subst f4_; subst f5_))
  refine norm_ (a' := ?_) ?_ ?_
  rotate_left
  ·
   simp only [putAll, Act.put, setIfInBounds_toArray, set_cons_zero, set_cons_succ]
   rfl
  refine one_ (i := 9) (N := none) (mb_ 10 1023) rfl rfl (one_of HT_.out (by kernel_rfl)) (by decide) (fun K hK => ?_)
  have hs14 : w12.cell? ⟨gb164, 0, none⟩ = some (.slice none 0 0) := (blk_cell BK164.out 0).trans rfl
  have hfs14 := blk_frozen BK164.out 0
  have hns14_0 := NB156_164.out
  have hns14_1 := NB157_164.out
  have hms14_0 := NB164_156.out
  have hms14_1 := NB164_157.out
  have hs15 : w12.cell? ⟨gb164, 1, none⟩ = some (.bool false) := (blk_cell BK164.out 1).trans rfl
  have hfs15 := blk_frozen BK164.out 1
  have hns15_0 := NB156_164.out
  have hns15_1 := NB157_164.out
  have hms15_0 := NB164_156.out
  have hms15_1 := NB164_157.out
  refine skip_ (w1 := ?_) (by rfl) rfl ?_ ?_
  rotate_left
  ·
   go_simp
   rfl
  refine hK.out _ _ ⟨((cell_far (p := ⟨gb164, _, none⟩) NB156_164.out _).trans (((cell_far (p := ⟨gb164, _, none⟩) NB156_164.out _).trans (hHeld.1)))), ((cell_far (p := ⟨gb164, _, none⟩) NB156_164.out _).trans (((cell_far (p := ⟨gb164, _, none⟩) NB156_164.out _).trans (hHeld.2))))⟩ (fun hHeld => ?_)
  clear hK K
  refine done_ (done_of HT_.out (by kernel_rfl)) ?_
  try go_wp2
  go_loopg [18] k (fun kq v18 w' => ∃ (x18_1 : Int) (x165000_1 : List Bool) (u165000 : Value), v18 = .int .i64 x18_1 ∧ Aside0 (spec_keRide.l0 kq l1 (l1.length : Int) x18_1 l0_0 a0_1 x165000_1 (!a0_1) = some (r1, r2)) ∧ Aside0 (kq ≤ k) ∧ Aside0 (Kd.R Kd.bool 4 w' w.heap.size (fun _ => True) u165000 x165000_1) ∧ Aside0 (w'.heap[gb156]? = some (.cells #[(.slice A0_0 l0_0.length c0_0), .bool a0_1] 90 (0, 0))) ∧ Aside0 (w'.heap[gb157]? = some (.cells #[(.slice none 0 0), .bool false] 90 (0, 0))) ∧ Aside0 (w'.heap[gb164]? = some (.cells #[u165000, .bool (!a0_1)] 90 (0, 0))) ∧ Aside0 (Below w.heap.size w w'))
  case atStart => exact ⟨(0), (y161), (.slice Ao13 y161.length co13), (ry_), H', ⟨Nat.le_refl _⟩, ⟨by (with_reducible repeat (first | apply Kd.R_alloc | apply Kd.R_drewN | apply Kd.R_drew)); exact Kd.R_mono (Kd.R_far (p := ⟨gb164, 1, none⟩) (Kd.R_far (p := ⟨gb164, 0, none⟩) (Kd.R_types HO163.out BK164.out (by decide)) (fun _ hk => hk.2) (.slice Ao13 y161.length co13)) (fun _ hk => hk.2) (.bool (!a0_1))) (fun _ hk => trivial)⟩, ⟨by (with_reducible repeat (first | refine kN_ ?_ _ | refine k1_ ?_ | refine ka_ ?_ _)); refine blk_far ?_ NB156_164.out _; (with_reducible repeat (first | refine kN_ ?_ _ | refine k1_ ?_ | refine ka_ ?_ _)); refine blk_far ?_ NB156_164.out _; exact pk BK156.out⟩, ⟨by (with_reducible repeat (first | refine kN_ ?_ _ | refine k1_ ?_ | refine ka_ ?_ _)); refine blk_far ?_ NB157_164.out _; (with_reducible repeat (first | refine kN_ ?_ _ | refine k1_ ?_ | refine ka_ ?_ _)); refine blk_far ?_ NB157_164.out _; exact pk BK157.out⟩, ⟨by (with_reducible repeat (first | refine kN_ ?_ _ | refine k1_ ?_ | refine ka_ ?_ _)); refine blk_put (cs := #[.slice Ao13 y161.length co13, .bool false]) ?_ 1 _ rfl; (with_reducible repeat (first | refine kN_ ?_ _ | refine k1_ ?_ | refine ka_ ?_ _)); refine blk_put (cs := #[.slice none 0 0, .bool false]) ?_ 0 _ rfl; exact pk BK164.out⟩, ⟨by repeat (first | exact HB.out | apply ba_ | apply bN_ | apply b1_ | refine below_set ?_ (Aside0.out (by assumption)))⟩⟩
  case round =>
   clear H'
   try clear c1
   try clear p2
   try clear c3
   try clear c7
   obtain ⟨x18_1, x165000_1, u165000, rfl, HA, HK1, HO_165000, BK156, BK157, BK164, HB⟩ := hrel
   cases gk with
   | zero => exact absurd HA.out (by simp [spec_keRide.l0])
   | succ k1 =>
    have H := HA.out
    clear HA
    simp only [spec_keRide.l0] at H
    by_cases c16 : x18_1 < (l1.length : Int)
    ·
     rw [if_pos c16] at H
     have c16b0 : decide (x18_1 < (l1.length : Int)) = true := decide_eq_true c16
     clear c16
     by_cases c17 : 0 ≤ x18_1
     ·
      rw [if_pos c17] at H
      have c17b0 : decide (0 ≤ x18_1) = true := decide_eq_true c17
      clear c17
      by_cases c18 : x18_1 < (l1.length : Int)
      ·
       rw [if_pos c18] at H
       have c18b0 : decide (x18_1 < (l1.length : Int)) = true := decide_eq_true c18
       clear c18
       by_cases c19 : 0 ≤ (rd l1 x18_1)
       ·
        rw [if_pos c19] at H
        have c19b0 : decide (0 ≤ (rd l1 x18_1)) = true := decide_eq_true c19
        clear c19
        by_cases c20 : (rd l1 x18_1) < (l0_0.length : Int)
        ·
         rw [if_pos c20] at H
         have c20b0 : decide ((rd l1 x18_1) < (l0_0.length : Int)) = true := decide_eq_true c20
         clear c20
         by_cases c21 : (rd l1 x18_1) < (x165000_1.length : Int)
         ·
          rw [if_pos c21] at H
          have c21b0 : decide ((rd l1 x18_1) < (x165000_1.length : Int)) = true := decide_eq_true c21
          clear c21
          obtain ⟨y167, hy167⟩ : ∃ y_ : List Bool, y_ = (x165000_1.set ((rd l1 x18_1) : Int).toNat (!(rdOf false l0_0 (rd l1 x18_1)))) := ⟨_, rfl⟩
          replace H : (spec_keRide.l0 k1 l1 (l1.length : Int) (wrap64 (x18_1 + 1)) l0_0 a0_1 y167 (!a0_1)) = some (r1, r2) := by first | (rw [hy167]; exact H) | exact H
          have Ny167 := ak_ hy167
          clear hy167
          have H' := ak_ H
          clear H
          have p165 : 0 ≤ (x18_1 : Int) := odt_ (by assumption)
          have q165 : x18_1 < (l1.length : Int) := odt_ (by assumption)
          obtain ⟨ad165, e165, hx165_0⟩ := Kd.at_int HR1.out x18_1 p165 q165
          cases e165
          try replace hx165_0 := (HB.out.cell (World.block_lt_of_cell? w _ hx165_0)).trans hx165_0
          replace p165 := eq_true p165
          replace q165 := eq_true q165
          try go_wp2
          have n0_ := ak_ (Kd.R_drew HO_165000.out)
          have n1_ := ak_ (k1_ BK156.out)
          have n2_ := ak_ (k1_ BK157.out)
          have n3_ := ak_ (k1_ BK164.out)
          have n4_ := ak_ (b1_ HB.out)
          clear HO_165000 BK156 BK157 BK164 HB
          have HO_165000 := n0_; have BK156 := n1_; have BK157 := n2_; have BK164 := n3_; have HB := n4_
          clear n0_ n1_ n2_ n3_ n4_
          have p166 : 0 ≤ ((rd l1 x18_1) : Int) := odt_ (by assumption)
          have q166 : (rd l1 x18_1) < (l0_0.length : Int) := odt_ (by assumption)
          obtain ⟨ad166, e166, hx166_0⟩ := Kd.at_bool HR0_0.out (rd l1 x18_1) p166 q166
          have hw166_0 := hx166_0
          cases e166
          try replace hx166_0 := (HB.out.cell (World.block_lt_of_cell? w _ hx166_0)).trans hx166_0
          replace p166 := eq_true p166
          replace q166 := eq_true q166
          have p22 : 0 ≤ ((rd l1 x18_1) : Int) := odt_ (by assumption)
          have q22 : ((rd l1 x18_1) : Int) < ((x165000_1.length : Int) : Int) := odt_ (by assumption)
          obtain ⟨go22, co22, eo22, gb22, gl22, cl22, HG22⟩ := Kd.R_form HO_165000.out (by omega)
          (first | cases eo22 | (injection eo22 with ea_ en_ ec_; (first | subst ea_ | (injection ea_ with ea_; subst ea_)); subst ec_; clear en_))
          have GB22 := ak_ gb22
          have GG22 := ak_ HG22
          clear gb22 gl22 HG22
          obtain ⟨hx22_0, hf22_0⟩ := Kd.R_celln false HO_165000.out ((rd l1 x18_1) : Int) p22 q22
          replace p22 := eq_true p22
          replace q22 := eq_true q22
          have HP24 := Kd.R_putn HO_165000.out ((rd l1 x18_1) : Int) (!(rdOf false l0_0 (rd l1 x18_1)))
          rw [← Ny167.out] at HP24
          have HQ24 := ak_ HP24
          clear HP24
          refine start_ (n := 11) (S := fun w' => w'.cell? ⟨gb164, 0, none⟩ = some (.slice (some ⟨go22, 0, none⟩) x165000_1.length co22) ∧ w'.cell? ⟨gb164, 1, none⟩ = some (.bool (!a0_1)) ∧ w'.cell? ⟨gb156, 0, none⟩ = some (.slice (some ad166) l0_0.length c0_0) ∧ w'.cell? ⟨gb156, 1, none⟩ = some (.bool a0_1) ∧ w'.cell? (ad166.add ((rd l1 x18_1)).toNat) = some (.bool (rdOf false l0_0 (rd l1 x18_1)))) (ds := [10]) (mb_ 11 0) (by kernel_rfl) rfl rfl ⟨(blk_cell BK164.out 0).trans rfl, (blk_cell BK164.out 1).trans rfl, (blk_cell BK156.out 0).trans rfl, (blk_cell BK156.out 1).trans rfl, ((HB.out.cell (World.block_lt_of_cell? w _ hw166_0)).trans hw166_0)⟩ (fun hHeld => ?_); refine with_tabW spec_keRide.tab5 spec_keRide.bits5 (fun HT_ HW_ => ?_)
          generalize wr.drew = w23 at HO_165000 BK156 BK157 BK164 HB GG22 HQ24 hf22_0 hx166_0 hx22_0 hHeld ⊢
          refine pu_ 0 22 11 1 ?_
          refine pu_ 2 24 11 5 ?_
          refine pu_ 3 25 11 13 ?_
          refine pu_ 5 27 11 45 ?_
          refine tk_ 1 23 11 47 ?_ (hy := by rintro w' ⟨s0, s1, s2, s3, s4⟩; go_simp; with_reducible rfl)
          refine tk_ 4 26 11 63 ?_ (hy := by rintro w' ⟨s0, s1, s2, s3, s4⟩; go_simp; with_reducible rfl)
          refine pu_ 6 28 11 127 ?_
          refine tk_ 7 29 11 255 ?_ (hy := by rintro w' ⟨s0, s1, s2, s3, s4⟩; go_simp; with_reducible rfl)
          refine pu_ 8 30 11 511 ?_
          refine pu_ 9 31 11 1023 ?_
          refine last_ (i := 10) (N := none) (mb_ 11 2047) rfl rfl (one_of HT_.out (by kernel_rfl)) (by decide) (fun K hK => ?_)
          refine skip_ (w1 := ?_) (by rfl) rfl ?_ ?_
          rotate_left
          ·
           go_simp
           rfl
          refine hK.out _ _ ?_
          clear hK K
          refine done_ (done_of HT_.out (by kernel_rfl)) ?_
          try go_wp2
          go_roundg k1
          case measure => have := HK1.out; omega
          case rel => exact ⟨(wrap64 (x18_1 + 1)), (y167), (.slice (some ⟨go22, 0, none⟩) x165000_1.length co22), (ry_), H', ⟨by have := HK1.out; omega⟩, ⟨Kd.pR HQ24.out⟩, ⟨by (with_reducible repeat (first | refine kN_ ?_ _ | refine k1_ ?_ | refine ka_ ?_ _)); refine blk_far ?_ (by have h_ := Kd.R_ne HO_165000.out BK156.out (by decide); intro e_; exact h_ (by rw [e_]; rfl)) _; exact pk BK156.out⟩, ⟨by (with_reducible repeat (first | refine kN_ ?_ _ | refine k1_ ?_ | refine ka_ ?_ _)); refine blk_far ?_ (by have h_ := Kd.R_ne HO_165000.out BK157.out (by decide); intro e_; exact h_ (by rw [e_]; rfl)) _; exact pk BK157.out⟩, ⟨by (with_reducible repeat (first | refine kN_ ?_ _ | refine k1_ ?_ | refine ka_ ?_ _)); refine blk_far ?_ (by have h_ := Kd.R_ne HO_165000.out BK164.out (by decide); intro e_; exact h_ (by rw [e_]; rfl)) _; exact pk BK164.out⟩, ⟨by repeat (first | exact HB.out | apply ba_ | apply bN_ | apply b1_ | refine below_set ?_ GB22.out | refine below_set ?_ (Aside0.out (by assumption)))⟩⟩
         ·
          rw [if_neg c21] at H
          exact absurd H (by simp)
        ·
         rw [if_neg c20] at H
         exact absurd H (by simp)
       ·
        rw [if_neg c19] at H
        exact absurd H (by simp)
      ·
       rw [if_neg c18] at H
       exact absurd H (by simp)
     ·
      rw [if_neg c17] at H
      exact absurd H (by simp)
    ·
     rw [if_neg c16] at H
     have c16b0 : decide (x18_1 < (l1.length : Int)) = false := decide_eq_false c16
     clear c16
     simp only [Option.some.injEq, Prod.mk.injEq] at H
     obtain ⟨rfl, rfl⟩ := H
     have hnb25 := NB164_156.out
     have hnc25 := NB156_164.out
     have hnb26 := NB164_157.out
     have hnc26 := NB157_164.out
     have hcz27_0 : wr.cell? ⟨gb164, 0, none⟩ = some (u165000) := (blk_cell BK164.out 0).trans rfl
     have hcz27_1 : wr.cell? ⟨gb164, 1, none⟩ = some (.bool (!a0_1)) := (blk_cell BK164.out 1).trans rfl
     have hfz27_0 := blk_frozen BK164.out 0
     have hfz27_1 := blk_frozen BK164.out 1
     obtain ⟨Ao28, co28, eo28⟩ := Kd.R_slice HO_165000.out
     subst eo28
     have hnb29 := NB157_156.out
     have hnc29 := NB156_157.out
     have hcz30_0 : wr.cell? ⟨gb157, 0, none⟩ = some (.slice none 0 0) := (blk_cell BK157.out 0).trans rfl
     have hcz30_1 : wr.cell? ⟨gb157, 1, none⟩ = some (.bool false) := (blk_cell BK157.out 1).trans rfl
     have hfz30_0 := blk_frozen BK157.out 0
     have hfz30_1 := blk_frozen BK157.out 1
     go_wp2
     refine bodyPost_ret (results_cell_row rfl _ _ gb157 90 #[.slice Ao28 x165000_1.length co28, .bool (!a0_1)] (0, 0) _ rfl (by (with_reducible repeat (first | refine kN_ ?_ _ | refine k1_ ?_ | refine ka_ ?_ _)); refine blk_put (cs := #[.slice Ao28 x165000_1.length co28, .bool false]) ?_ 1 _ rfl; (with_reducible repeat (first | refine kN_ ?_ _ | refine k1_ ?_ | refine ka_ ?_ _)); refine blk_put (cs := #[.slice none 0 0, .bool false]) ?_ 0 _ rfl; exact pk BK157.out) Try.underlying90 rfl (by kernel_rfl)) rfl ?_
     exact ⟨_, rx_, by (with_reducible repeat (first | apply Kd.R_alloc | apply Kd.R_drewN | apply Kd.R_drew)); exact Kd.R_mono (Kd.R_far (p := ⟨gb157, 1, none⟩) (Kd.R_far (p := ⟨gb157, 0, none⟩) (Kd.R_types HO_165000.out BK157.out (by decide)) (fun _ hk => hk.2) (.slice Ao28 x165000_1.length co28)) (fun _ hk => hk.2) (.bool (!a0_1))) (fun _ hk => trivial), by repeat (first | exact HB.out | apply ba_ | apply bN_ | apply b1_ | refine below_set ?_ (Aside0.out (by assumption)))⟩
 ·
  rw [if_neg c3] at H
  exact absurd H (by simp)
end Go.Proofs.Ythkchdfkeieabaa.QGr
