/- Contracts of functions of the given program, walked: each call returns what its Lean function says. Conditions: those that stand at each theorem. (Written by a program of this session.) -/
import Derived.Test.YthkchdfkeieabaaQGrx0
namespace Go.Proofs.Ythkchdfkeieabaa.QGr
open Go.RowKit Go.Proofs.YthkchdfkeieabaaW.PrintWords Go.Proofs.YthkchdfkeieabaaW.PrintLast Go.Proofs.YthkchdfkeieabaaW.PrintMore
open List (setIfInBounds_toArray set_cons_zero set_cons_succ map_toArray map_cons map_nil)
attribute [local go_sem] max2_int min2_int max_two min_two max_three min_three max_four min_four
set_option linter.unusedVariables false
set_option maxHeartbeats 8000000
set_option maxRecDepth 100000
set_option linter.unusedSimpArgs false
def spec_paCross.l0 : Nat → List Int → Int → Int → List Bool → Bool → List Bool → Bool → Option (List Bool × Bool)
 | 0, _, _, _, _, _, _, _ => none
 | k + 1, x16, x17, x18, x152000, x152001, x160000, x160001 => if x18 < x17 then (if 0 ≤ x18 then (if x18 < (x16.length : Int) then (if 0 ≤ (rd x16 x18) then (if (rd x16 x18) < (x152000.length : Int) then (if (rd x16 x18) < (x160000.length : Int) then (spec_paCross.l0 k x16 x17 (wrap64 (x18 + 1)) x152000 x152001 (x160000.set ((rd x16 x18) : Int).toNat (!(rdOf false x152000 (rd x16 x18)))) x160001) else (none)) else (none)) else (none)) else (none)) else (none)) else (some (x160000, x160001))
def spec_paCross.f (k : Nat) (l0_0 : List Bool) (a0_1 : Bool) (l1 : List Int) : Option (List Bool × Bool) := (some (([] : List Bool) : List Bool)).bind fun y153 => (if y153.length + l0_0.length < 140737488355328 then (spec_paCross.l0 k l1 (l1.length : Int) 0 l0_0 a0_1 (y153 ++ l0_0) (!a0_1)) else (none))
theorem spec_paCross.mono_l : ∀ k, (∀ y0 y1 y2 y3 y4 y5 y6, LeO (spec_paCross.l0 k y0 y1 y2 y3 y4 y5 y6) (spec_paCross.l0 (k + 1) y0 y1 y2 y3 y4 y5 y6))
 | 0 => fun _ _ _ _ _ _ _ r h => by simp [spec_paCross.l0] at h
 | k + 1 => by
  have ih0 := spec_paCross.mono_l k
  ·intro y0 y1 y2 y3 y4 y5 y6
   unfold spec_paCross.l0
   repeat' first
   | (with_reducible first | exact ih0 _ _ _ _ _ _ _ | exact LeO.refl _ | exact LeO.none _ | refine LeO.ite ?_ ?_ | refine LeO.bind ?_ (fun _ => ?_))
   | exact ih0 _ _ _ _ _ _ _
   | exact LeO.none _
   | refine LeO.ite ?_ ?_
   | refine LeO.bind ?_ (fun _ => ?_)
theorem spec_paCross.mono : ∀ a0 a1 a2 k, LeO (spec_paCross.f k a0 a1 a2) (spec_paCross.f (k + 1) a0 a1 a2) := by
 intro a0 a1 a2 k
 have ih0 := spec_paCross.mono_l k
 unfold spec_paCross.f
 repeat' first
  | (with_reducible first | exact ih0 _ _ _ _ _ _ _ | exact LeO.refl _ | exact LeO.none _ | refine LeO.ite ?_ ?_ | refine LeO.bind ?_ (fun _ => ?_))
  | exact ih0 _ _ _ _ _ _ _
  | exact LeO.none _
  | refine LeO.ite ?_ ?_
  | refine LeO.bind ?_ (fun _ => ?_)
def spec_paCross.T1 : Bool × List (List Nat × List Nat) := (true, [([], []), ([], []), ([1], [1]), ([0, 2], [0, 2]), ([], []), ([4], [4]), ([5], [5]), ([3, 6], [3, 6]), ([], []), ([8, 7, 3, 0, 1, 2, 3, 4, 5, 6, 7, 8], [7, 8])])
def spec_paCross.B1 : List Nat := [0, 0, 2, 7, 0, 16, 48, 127, 0, 511]
theorem spec_paCross.tab1 : rtab .any (opsOf Try.f96 1) = spec_paCross.T1 := by kernel_rfl
theorem spec_paCross.bits1 : waitsOk spec_paCross.T1.2 spec_paCross.B1 = true := by kernel_rfl
def spec_paCross.T5 : Bool × List (List Nat × List Nat) := (true, [([], []), ([0], [0]), ([], []), ([], []), ([3], [3]), ([], []), ([4, 5], [4, 5]), ([6], [6]), ([7], [7]), ([1, 2, 0, 1, 2, 3, 4, 5, 6, 7, 8], [1, 2]), ([9, 8, 0, 1, 2, 3, 4, 5, 6, 7, 8], [8, 9])])
def spec_paCross.B5 : List Nat := [0, 1, 0, 0, 8, 0, 56, 120, 248, 511, 1023]
theorem spec_paCross.tab5 : rtab .any (opsOf Try.f96 5) = spec_paCross.T5 := by kernel_rfl
theorem spec_paCross.bits5 : waitsOk spec_paCross.T5.2 spec_paCross.B5 = true := by kernel_rfl
theorem spec_paCross.calls (k : Nat) (A0_0 : Option Addr) (c0_0 : Nat) (l0_0 : List Bool) (a0_1 : Bool) (A1 : Option Addr) (c1 : Nat) (l1 : List Int) (r1 : List Bool) (r2 : Bool) (w : World) (hr0_0 : Kd.C Kd.bool w A0_0 l0_0.length l0_0) (hc0_0 : l0_0.length ≤ c0_0) (hr1 : Kd.C (Kd.int .i64) w A1 l1.length l1) (hc1 : l1.length ≤ c1) (h : spec_paCross.f k l0_0 a0_1 l1 = some (r1, r2)) :
  Calls Try.prog 96 #[.agg #[.slice A0_0 l0_0.length c0_0, .bool a0_1], .slice A1 l1.length c1] w fun e w' => ∃ v0_ : Value, e = .returned (.agg #[v0_, .bool r2]) ∧ Kd.R Kd.bool 4 w' w.heap.size (fun _ => True) v0_ r1 ∧ Below w.heap.size w w' := by
 have hu115 := Try.underlying115
 have HR0_0 := ak_ hr0_0
 have HC0_0 := ak_ hc0_0
 clear hr0_0 hc0_0
 have HR1 := ak_ hr1
 have HC1 := ak_ hc1
 clear hr1 hc1
 have HB := ak_ (Below.refl w.heap.size w)
 have H : ((some (([] : List Bool) : List Bool)).bind fun y153 => (if y153.length + l0_0.length < 140737488355328 then (spec_paCross.l0 k l1 (l1.length : Int) 0 l0_0 a0_1 (y153 ++ l0_0) (!a0_1)) else (none))) = some (r1, r2) := h
 clear h
 obtain ⟨y153, hy153⟩ : ∃ y_ : List Bool, y_ = (([] : List Bool)) := ⟨_, rfl⟩
 replace H : (if y153.length + l0_0.length < 140737488355328 then (spec_paCross.l0 k l1 (l1.length : Int) 0 l0_0 a0_1 (y153 ++ l0_0) (!a0_1)) else (none)) = some (r1, r2) := by first | (rw [hy153]; exact H) | exact H
 have Ny153 := ak_ hy153
 clear hy153
 by_cases c3 : y153.length + l0_0.length < 140737488355328
 ·
  rw [if_pos c3] at H
  have LMc3 := ak_ c3
  clear c3
  obtain ⟨y156, hy156⟩ : ∃ y_ : List Bool, y_ = (y153 ++ l0_0) := ⟨_, rfl⟩
  replace H : (spec_paCross.l0 k l1 (l1.length : Int) 0 l0_0 a0_1 y156 (!a0_1)) = some (r1, r2) := by first | (rw [hy156]; exact H) | exact H
  have Ny156 := ak_ hy156
  clear hy156
  have H' := ak_ H
  clear H
  go_enter Try.func96, Try.ntmps96
  try go_wp2_with (first | ((with_reducible refine gate_dst (N := 2) rfl ?_); refine bx_ 2 #[.slice A0_0 l0_0.length c0_0, .bool a0_1] 115 ?_; intro gb151 hg w4 hbox hb; have n0_ := ak_ (bs_ (bb_ HB.out) hb); have n1_ := ak_ (hbox); have n2_ := ak_ ((by rw [hg]; exact (bz_ (bb_ HB.out)) : w.heap.size ≤ gb151)); have n3_ := n2_; clear HB; have HB := n0_; have BK151 := n1_; have GW151 := n2_; have GE151 := n3_; clear n0_ n1_ n2_ n3_; clear hb hbox hg) | ((with_reducible refine gate_dst (N := 4) rfl ?_); refine bx_ 4 #[.slice none 0 0, .bool false] 115 ?_; intro gb152 hg w5 hbox hb; have n0_ := ak_ (blk_below (pk BK151.out) hb); have n1_ := ak_ (bs_ bl_ hb); have n2_ := ak_ (hbox); have n3_ := ak_ ((by rw [hg]; exact (bz_ bl_) : w.heap.size ≤ gb152)); have n4_ := n3_; have n5_ := ak_ ((by rw [hg]; exact Nat.ne_of_lt (blk_lt (pk BK151.out)) : gb151 ≠ gb152)); have n6_ := ak_ n5_.out.symm; clear BK151; clear HB; have BK151 := n0_; have HB := n1_; have BK152 := n2_; have GW152 := n3_; have GE152 := n4_; have NB151_152 := n5_; have NB152_151 := n6_; clear n0_ n1_ n2_ n3_ n4_ n5_ n6_; clear hb hbox hg))
  have n0_ := ak_ (k1_ BK151.out)
  have n1_ := ak_ (k1_ BK152.out)
  have n2_ := ak_ (b1_ HB.out)
  clear BK151 BK152 HB
  have BK151 := n0_; have BK152 := n1_; have HB := n2_
  clear n0_ n1_ n2_
  refine start_ (n := 10) (S := fun w' => w'.cell? ⟨gb151, 0, none⟩ = some (.slice A0_0 l0_0.length c0_0) ∧ w'.cell? ⟨gb151, 1, none⟩ = some (.bool a0_1)) (ds := []) (mb_ 10 0) (by kernel_rfl) rfl rfl ⟨(blk_cell BK151.out 0).trans rfl, (blk_cell BK151.out 1).trans rfl⟩ (fun hHeld => ?_); refine with_tabW spec_paCross.tab1 spec_paCross.bits1 (fun HT_ HW_ => ?_)
  generalize w5.drew = w6 at BK151 BK152 HB hHeld ⊢
  refine pu_ 1 9 10 2 ?_
  refine pu_ 4 12 10 18 ?_
  refine tk_ 2 10 10 22 ?_ (hy := by rintro w' ⟨s0, s1⟩; go_simp; with_reducible rfl)
  refine tk_ 5 13 10 54 ?_ (hy := by rintro w' ⟨s0, s1⟩; go_simp; with_reducible rfl)
  refine pu_ 6 14 10 118 ?_
  refine join_ (σ := Value × Value × Nat) 1 (mb_ 10 511) (fun s_ => [(8, s_.1), (11, s_.2.1), (5, .pointer (some ⟨s_.2.2, 0, none⟩)), (15, .agg #[s_.2.1, .bool (!a0_1)])]) (fun s_ w' => (w'.cell? ⟨gb151, 0, none⟩ = some (.slice A0_0 l0_0.length c0_0) ∧ w'.cell? ⟨gb151, 1, none⟩ = some (.bool a0_1)) ∧ (Kd.R Kd.bool 4 w' w.heap.size (fun _ => True) s_.2.1 y156) ∧ (w'.heap[gb151]? = some (.cells #[.slice A0_0 l0_0.length c0_0, .bool a0_1] 115 (0, 0))) ∧ (w'.heap[gb152]? = some (.cells #[.slice none 0 0, .bool false] 115 (0, 0))) ∧ (w'.heap[s_.2.2]? = some (.cells #[.slice none 0 0, .bool false] 115 (0, 0))) ∧ (w.heap.size ≤ s_.2.2) ∧ (w.heap.size ≤ s_.2.2) ∧ (gb151 ≠ s_.2.2) ∧ (s_.2.2 ≠ gb151) ∧ (gb152 ≠ s_.2.2) ∧ (s_.2.2 ≠ gb152) ∧ (Below w.heap.size w w')) ?_ ?_
  rotate_left
  ·
   intro hCont
   refine two_ (i := 0) (j := 8) (Ni := some 8) (Nj := some 5) (mb_ 10 119) (mb_ 10 374) rfl rfl rfl rfl (two_of HT_.out (by kernel_rfl)) (by decide) (by decide) (fun K hK => ?_) (fun K hK => ?_)
   ·
    skip
    refine Kd.R_lit_step Kd.bool _ 4 ?hg (N := 8) ?hd (xs := ([] : List Bool)) (inner := []) (ok := fun _ => True) (okp := fun _ => True) ?hr ?hp (fun _ hk => hk) trivial (Below.refl _ _) (Nat.le_refl _) (by simp) ?_; (case hd => rfl); (case hg => rfl); (case hr => go_simp <;> rfl); (case hp => exact (Reps.none _ _))
    intro v154 w7 ho8 hb hg_ hnew_
    clear hg_ hnew_
    (first | rw [← Ny153.out] at ho8 | (simp only [Int.reduceToNat] at ho8; rw [← Ny153.out] at ho8))
    have n0_ := ak_ (Kd.R_lower ho8 (bz_ bl_))
    have n1_ := ak_ (blk_below (pk BK151.out) hb)
    have n2_ := ak_ (blk_below (pk BK152.out) hb)
    have n3_ := ak_ (bs_ bl_ hb)
    clear BK151 BK152 HB
    have HO155 := n0_; have BK151 := n1_; have BK152 := n2_; have HB := n3_
    clear n0_ n1_ n2_ n3_ hb ho8
    refine hK.out _ _ ⟨(blk_cell BK151.out 0).trans rfl, (blk_cell BK151.out 1).trans rfl⟩ (fun hHeld => ?_)
    clear hK K
    refine nm_ ?_
    refine two_ (i := 3) (j := 8) (Ni := some 11) (Nj := some 5) (mb_ 10 127) (mb_ 10 375) rfl rfl rfl rfl (two_of HT_.out (by kernel_rfl)) (by decide) (by decide) (fun K hK => ?_) (fun K hK => ?_)
    ·
     skip
     refine Kd.R_append_rows_step Kd.bool (w0 := w) w.heap.size (by rfl) (.tmp 8) (.tmp 10) 38 4 (.bool false) 1 rfl Try.underlying38 info4 rfl (by decide) (by omega) v154 y153 l0_0 _ _ _ (fun _ => True) (fun _ => False) rfl rfl ?aO ?aR (fun _ _ h => h) (fun _ h => h.elim) ?aF ?aB ?aS ?aL ?_
     (case aR => repeat (first | exact (Kd.C_below HR0_0.out HB.out) | (with_reducible refine Kd.C_alloc ?_ _) | (with_reducible refine Kd.C_drewN ?_ _) | (with_reducible refine Kd.C_drew ?_)))
     (case aB => exact bl_)
     (case aF => exact (fun _ _ => trivial))
     (case aO => exact (Kd.pR HO155.out))
     (case aS => exact (bz_ bl_))
     (case aL => have := LMc3.out; omega)
     intro v157 w9 ho hb hg hat
     rw [← Ny156.out] at ho
     have n0_ := ak_ (blk_grown (pk BK151.out) hg (Kd.R_ne HO155.out BK151.out (by decide)))
     have n1_ := ak_ (blk_grown (pk BK152.out) hg (Kd.R_ne HO155.out BK152.out (by decide)))
     have n2_ := ak_ (hb)
     have n3_ := ak_ (ho)
     clear BK151 BK152 HB HO155
     have BK151 := n0_; have BK152 := n1_; have HB := n2_; have HO158 := n3_
     clear n0_ n1_ n2_ n3_ ho hb hg hat
     obtain ⟨Ao10, co10, eo10⟩ := Kd.R_slice HO158.out
     (first | subst eo10 | (injection eo10 with f1_ f2_ f3_; have f4_ := f1_.symm; have f5_ := f3_.symm; clear f1_ f2_ f3_; subst f4_; subst f5_))
     refine hK.out _ _ ⟨(blk_cell BK151.out 0).trans rfl, (blk_cell BK151.out 1).trans rfl⟩ (fun hHeld => ?_)
     clear hK K
     refine nm_ ?_
     refine pu_ 7 15 10 255 ?_
     refine on_ 8 5 10 511 (fun K hK => ?_)
     refine box_step ?hg (N := 5) ?hd (cs := #[.slice none 0 0, .bool false]) (t := 115) ?hr ?_; (case hd => rfl); (case hg => rfl); (case hr => go_simp <;> rfl)
     intro gb159 hg w11 hbox hb
     have n0_ := ak_ (Kd.R_below (Kd.pR HO158.out) hb)
     have n1_ := ak_ (blk_below (pk BK151.out) hb)
     have n2_ := ak_ (blk_below (pk BK152.out) hb)
     have n3_ := ak_ (bs_ bl_ hb)
     have n4_ := ak_ (hbox)
     have n5_ := ak_ ((by rw [hg]; exact (bz_ bl_) : w.heap.size ≤ gb159))
     have n6_ := n5_
     have n7_ := ak_ ((by rw [hg]; exact Nat.ne_of_lt (blk_lt (pk BK151.out)) : gb151 ≠ gb159))
     have n8_ := ak_ n7_.out.symm
     have n9_ := ak_ ((by rw [hg]; exact Nat.ne_of_lt (blk_lt (pk BK152.out)) : gb152 ≠ gb159))
     have n10_ := ak_ n9_.out.symm
     clear HO158 BK151 BK152 HB
     have HO158 := n0_; have BK151 := n1_; have BK152 := n2_; have HB := n3_; have BK159 := n4_; have GW159 := n5_; have GE159 := n6_; have NB151_159 := n7_; have NB159_151 := n8_; have NB152_159 := n9_; have NB159_152 := n10_
     clear n0_ n1_ n2_ n3_ n4_ n5_ n6_ n7_ n8_ n9_ n10_ hb hbox hg
     refine hK.out _ _ ⟨(blk_cell BK151.out 0).trans rfl, (blk_cell BK151.out 1).trans rfl⟩ (fun hHeld => ?_)
     clear hK K
     refine nm_ ?_
     exact norm_ (by simp only [putAll, Act.put, setIfInBounds_toArray, set_cons_zero, set_cons_succ]) (hCont (v154, .slice Ao10 y156.length co10, gb159) _ ⟨hHeld, (Kd.pR HO158.out), (pk BK151.out), (pk BK152.out), (pk BK159.out), GW159.out, GE159.out, NB151_159.out, NB159_151.out, NB152_159.out, NB159_152.out, bl_⟩)
    ·
     skip
     refine box_step ?hg (N := 5) ?hd (cs := #[.slice none 0 0, .bool false]) (t := 115) ?hr ?_; (case hd => rfl); (case hg => rfl); (case hr => go_simp <;> rfl)
     intro gb159 hg w9 hbox hb
     have n0_ := ak_ (Kd.R_below (Kd.pR HO155.out) hb)
     have n1_ := ak_ (blk_below (pk BK151.out) hb)
     have n2_ := ak_ (blk_below (pk BK152.out) hb)
     have n3_ := ak_ (bs_ bl_ hb)
     have n4_ := ak_ (hbox)
     have n5_ := ak_ ((by rw [hg]; exact (bz_ bl_) : w.heap.size ≤ gb159))
     have n6_ := n5_
     have n7_ := ak_ ((by rw [hg]; exact Nat.ne_of_lt (blk_lt (pk BK151.out)) : gb151 ≠ gb159))
     have n8_ := ak_ n7_.out.symm
     have n9_ := ak_ ((by rw [hg]; exact Nat.ne_of_lt (blk_lt (pk BK152.out)) : gb152 ≠ gb159))
     have n10_ := ak_ n9_.out.symm
     clear HO155 BK151 BK152 HB
     have HO155 := n0_; have BK151 := n1_; have BK152 := n2_; have HB := n3_; have BK159 := n4_; have GW159 := n5_; have GE159 := n6_; have NB151_159 := n7_; have NB159_151 := n8_; have NB152_159 := n9_; have NB159_152 := n10_
     clear n0_ n1_ n2_ n3_ n4_ n5_ n6_ n7_ n8_ n9_ n10_ hb hbox hg
     refine hK.out _ _ ⟨(blk_cell BK151.out 0).trans rfl, (blk_cell BK151.out 1).trans rfl⟩ (fun hHeld => ?_)
     clear hK K
     refine nm_ ?_
     refine on_ 3 11 10 383 (fun K hK => ?_)
     refine Kd.R_append_rows_step Kd.bool (w0 := w) w.heap.size (by rfl) (.tmp 8) (.tmp 10) 38 4 (.bool false) 1 rfl Try.underlying38 info4 rfl (by decide) (by omega) v154 y153 l0_0 _ _ _ (fun _ => True) (fun _ => False) rfl rfl ?aO ?aR (fun _ _ h => h) (fun _ h => h.elim) ?aF ?aB ?aS ?aL ?_
     (case aR => repeat (first | exact (Kd.C_below HR0_0.out HB.out) | (with_reducible refine Kd.C_alloc ?_ _) | (with_reducible refine Kd.C_drewN ?_ _) | (with_reducible refine Kd.C_drew ?_)))
     (case aB => exact bl_)
     (case aF => exact (fun _ _ => trivial))
     (case aO => exact (Kd.pR HO155.out))
     (case aS => exact (bz_ bl_))
     (case aL => have := LMc3.out; omega)
     intro v157 w10 ho hb hg hat
     rw [← Ny156.out] at ho
     have n0_ := ak_ (blk_grown (pk BK151.out) hg (Kd.R_ne HO155.out BK151.out (by decide)))
     have n1_ := ak_ (blk_grown (pk BK152.out) hg (Kd.R_ne HO155.out BK152.out (by decide)))
     have n2_ := ak_ (blk_grown (pk BK159.out) hg (Kd.R_ne HO155.out BK159.out (by decide)))
     have n3_ := ak_ (hb)
     have n4_ := ak_ (ho)
     clear BK151 BK152 BK159 HB HO155
     have BK151 := n0_; have BK152 := n1_; have BK159 := n2_; have HB := n3_; have HO158 := n4_
     clear n0_ n1_ n2_ n3_ n4_ ho hb hg hat
     obtain ⟨Ao11, co11, eo11⟩ := Kd.R_slice HO158.out
     (first | subst eo11 | (injection eo11 with f1_ f2_ f3_; have f4_ := f1_.symm; have f5_ := f3_.symm; clear f1_ f2_ f3_; subst f4_; subst f5_))
     refine hK.out _ _ ⟨(blk_cell BK151.out 0).trans rfl, (blk_cell BK151.out 1).trans rfl⟩ (fun hHeld => ?_)
     clear hK K
     refine nm_ ?_
     refine pu_ 7 15 10 511 ?_
     exact norm_ (by simp only [putAll, Act.put, setIfInBounds_toArray, set_cons_zero, set_cons_succ]) (hCont (v154, .slice Ao11 y156.length co11, gb159) _ ⟨hHeld, (Kd.pR HO158.out), (pk BK151.out), (pk BK152.out), (pk BK159.out), GW159.out, GE159.out, NB151_159.out, NB159_151.out, NB152_159.out, NB159_152.out, bl_⟩)
   ·
    skip
    refine box_step ?hg (N := 5) ?hd (cs := #[.slice none 0 0, .bool false]) (t := 115) ?hr ?_; (case hd => rfl); (case hg => rfl); (case hr => go_simp <;> rfl)
    intro gb159 hg w7 hbox hb
    have n0_ := ak_ (blk_below (pk BK151.out) hb)
    have n1_ := ak_ (blk_below (pk BK152.out) hb)
    have n2_ := ak_ (bs_ bl_ hb)
    have n3_ := ak_ (hbox)
    have n4_ := ak_ ((by rw [hg]; exact (bz_ bl_) : w.heap.size ≤ gb159))
    have n5_ := n4_
    have n6_ := ak_ ((by rw [hg]; exact Nat.ne_of_lt (blk_lt (pk BK151.out)) : gb151 ≠ gb159))
    have n7_ := ak_ n6_.out.symm
    have n8_ := ak_ ((by rw [hg]; exact Nat.ne_of_lt (blk_lt (pk BK152.out)) : gb152 ≠ gb159))
    have n9_ := ak_ n8_.out.symm
    clear BK151 BK152 HB
    have BK151 := n0_; have BK152 := n1_; have HB := n2_; have BK159 := n3_; have GW159 := n4_; have GE159 := n5_; have NB151_159 := n6_; have NB159_151 := n7_; have NB152_159 := n8_; have NB159_152 := n9_
    clear n0_ n1_ n2_ n3_ n4_ n5_ n6_ n7_ n8_ n9_ hb hbox hg
    refine hK.out _ _ ⟨(blk_cell BK151.out 0).trans rfl, (blk_cell BK151.out 1).trans rfl⟩ (fun hHeld => ?_)
    clear hK K
    refine nm_ ?_
    refine on_ 0 8 10 375 (fun K hK => ?_)
    refine Kd.R_lit_step Kd.bool _ 4 ?hg (N := 8) ?hd (xs := ([] : List Bool)) (inner := []) (ok := fun _ => True) (okp := fun _ => True) ?hr ?hp (fun _ hk => hk) trivial (Below.refl _ _) (Nat.le_refl _) (by simp) ?_; (case hd => rfl); (case hg => rfl); (case hr => go_simp <;> rfl); (case hp => exact (Reps.none _ _))
    intro v154 w8 ho9 hb hg_ hnew_
    clear hg_ hnew_
    (first | rw [← Ny153.out] at ho9 | (simp only [Int.reduceToNat] at ho9; rw [← Ny153.out] at ho9))
    have n0_ := ak_ (Kd.R_lower ho9 (bz_ bl_))
    have n1_ := ak_ (blk_below (pk BK151.out) hb)
    have n2_ := ak_ (blk_below (pk BK152.out) hb)
    have n3_ := ak_ (blk_below (pk BK159.out) hb)
    have n4_ := ak_ (bs_ bl_ hb)
    clear BK151 BK152 BK159 HB
    have HO155 := n0_; have BK151 := n1_; have BK152 := n2_; have BK159 := n3_; have HB := n4_
    clear n0_ n1_ n2_ n3_ n4_ hb ho9
    refine hK.out _ _ ⟨(blk_cell BK151.out 0).trans rfl, (blk_cell BK151.out 1).trans rfl⟩ (fun hHeld => ?_)
    clear hK K
    refine nm_ ?_
    refine on_ 3 11 10 383 (fun K hK => ?_)
    refine Kd.R_append_rows_step Kd.bool (w0 := w) w.heap.size (by rfl) (.tmp 8) (.tmp 10) 38 4 (.bool false) 1 rfl Try.underlying38 info4 rfl (by decide) (by omega) v154 y153 l0_0 _ _ _ (fun _ => True) (fun _ => False) rfl rfl ?aO ?aR (fun _ _ h => h) (fun _ h => h.elim) ?aF ?aB ?aS ?aL ?_
    (case aR => repeat (first | exact (Kd.C_below HR0_0.out HB.out) | (with_reducible refine Kd.C_alloc ?_ _) | (with_reducible refine Kd.C_drewN ?_ _) | (with_reducible refine Kd.C_drew ?_)))
    (case aB => exact bl_)
    (case aF => exact (fun _ _ => trivial))
    (case aO => exact (Kd.pR HO155.out))
    (case aS => exact (bz_ bl_))
    (case aL => have := LMc3.out; omega)
    intro v157 w10 ho hb hg hat
    rw [← Ny156.out] at ho
    have n0_ := ak_ (blk_grown (pk BK151.out) hg (Kd.R_ne HO155.out BK151.out (by decide)))
    have n1_ := ak_ (blk_grown (pk BK152.out) hg (Kd.R_ne HO155.out BK152.out (by decide)))
    have n2_ := ak_ (blk_grown (pk BK159.out) hg (Kd.R_ne HO155.out BK159.out (by decide)))
    have n3_ := ak_ (hb)
    have n4_ := ak_ (ho)
    clear BK151 BK152 BK159 HB HO155
    have BK151 := n0_; have BK152 := n1_; have BK159 := n2_; have HB := n3_; have HO158 := n4_
    clear n0_ n1_ n2_ n3_ n4_ ho hb hg hat
    obtain ⟨Ao11, co11, eo11⟩ := Kd.R_slice HO158.out
    (first | subst eo11 | (injection eo11 with f1_ f2_ f3_; have f4_ := f1_.symm; have f5_ := f3_.symm; clear f1_ f2_ f3_; subst f4_; subst f5_))
    refine hK.out _ _ ⟨(blk_cell BK151.out 0).trans rfl, (blk_cell BK151.out 1).trans rfl⟩ (fun hHeld => ?_)
    clear hK K
    refine nm_ ?_
    refine pu_ 7 15 10 511 ?_
    exact norm_ (by simp only [putAll, Act.put, setIfInBounds_toArray, set_cons_zero, set_cons_succ]) (hCont (v154, .slice Ao11 y156.length co11, gb159) _ ⟨hHeld, (Kd.pR HO158.out), (pk BK151.out), (pk BK152.out), (pk BK159.out), GW159.out, GE159.out, NB151_159.out, NB159_151.out, NB152_159.out, NB159_152.out, bl_⟩)
  rintro ⟨v154, v157, gb159⟩ w12 ⟨hS_, h0_, h1_, h2_, h3_, h4_, h5_, h6_, h7_, h8_, h9_, h10_⟩
  have n0_ : Aside0 (Kd.R Kd.bool 4 w12 w.heap.size (fun _ => True) v157 y156) := ⟨h0_⟩
  have n1_ : Aside0 (w12.heap[gb151]? = some (.cells #[.slice A0_0 l0_0.length c0_0, .bool a0_1] 115 (0, 0))) := ⟨h1_⟩
  have n2_ : Aside0 (w12.heap[gb152]? = some (.cells #[.slice none 0 0, .bool false] 115 (0, 0))) := ⟨h2_⟩
  have n3_ : Aside0 (w12.heap[gb159]? = some (.cells #[.slice none 0 0, .bool false] 115 (0, 0))) := ⟨h3_⟩
  have n4_ : Aside0 (w.heap.size ≤ gb159) := ⟨h4_⟩
  have n5_ : Aside0 (w.heap.size ≤ gb159) := ⟨h5_⟩
  have n6_ : Aside0 (gb151 ≠ gb159) := ⟨h6_⟩
  have n7_ : Aside0 (gb159 ≠ gb151) := ⟨h7_⟩
  have n8_ : Aside0 (gb152 ≠ gb159) := ⟨h8_⟩
  have n9_ : Aside0 (gb159 ≠ gb152) := ⟨h9_⟩
  have n10_ : Aside0 (Below w.heap.size w w12) := ⟨h10_⟩
  clear BK151 BK152 HB h0_ h1_ h2_ h3_ h4_ h5_ h6_ h7_ h8_ h9_ h10_
  have HO158 := n0_; have BK151 := n1_; have BK152 := n2_; have BK159 := n3_; have GW159 := n4_; have GE159 := n5_; have NB151_159 := n6_; have NB159_151 := n7_; have NB152_159 := n8_; have NB159_152 := n9_; have HB := n10_
  clear n0_ n1_ n2_ n3_ n4_ n5_ n6_ n7_ n8_ n9_ n10_
  have hHeld : w12.cell? ⟨gb151, 0, none⟩ = some (.slice A0_0 l0_0.length c0_0) ∧ w12.cell? ⟨gb151, 1, none⟩ = some (.bool a0_1) := hS_
  obtain ⟨Ao13, co13, eo13⟩ := Kd.R_slice HO158.out
  (first | subst eo13 | (injection eo13 with f1_ f2_ f3_; have f4_ := f1_.symm; have f5_ := f3_.symm; clear f1_ f2_ f3_; subst f4_; subst f5_))
  refine norm_ (a' := ?_) ?_ ?_
  rotate_left
  ·
   simp only [putAll, Act.put, setIfInBounds_toArray, set_cons_zero, set_cons_succ]
   rfl
  refine one_ (i := 9) (N := none) (mb_ 10 1023) rfl rfl (one_of HT_.out (by kernel_rfl)) (by decide) (fun K hK => ?_)
  have hs14 : w12.cell? ⟨gb159, 0, none⟩ = some (.slice none 0 0) := (blk_cell BK159.out 0).trans rfl
  have hfs14 := blk_frozen BK159.out 0
  have hns14_0 := NB151_159.out
  have hns14_1 := NB152_159.out
  have hms14_0 := NB159_151.out
  have hms14_1 := NB159_152.out
  have hs15 : w12.cell? ⟨gb159, 1, none⟩ = some (.bool false) := (blk_cell BK159.out 1).trans rfl
  have hfs15 := blk_frozen BK159.out 1
  have hns15_0 := NB151_159.out
  have hns15_1 := NB152_159.out
  have hms15_0 := NB159_151.out
  have hms15_1 := NB159_152.out
  refine skip_ (w1 := ?_) (by rfl) rfl ?_ ?_
  rotate_left
  ·
   go_simp
   rfl
  refine hK.out _ _ ⟨((cell_far (p := ⟨gb159, _, none⟩) NB151_159.out _).trans (((cell_far (p := ⟨gb159, _, none⟩) NB151_159.out _).trans (hHeld.1)))), ((cell_far (p := ⟨gb159, _, none⟩) NB151_159.out _).trans (((cell_far (p := ⟨gb159, _, none⟩) NB151_159.out _).trans (hHeld.2))))⟩ (fun hHeld => ?_)
  clear hK K
  refine done_ (done_of HT_.out (by kernel_rfl)) ?_
  try go_wp2
  go_loopg [18] k (fun kq v18 w' => ∃ (x18_1 : Int) (x160000_1 : List Bool) (u160000 : Value), v18 = .int .i64 x18_1 ∧ Aside0 (spec_paCross.l0 kq l1 (l1.length : Int) x18_1 l0_0 a0_1 x160000_1 (!a0_1) = some (r1, r2)) ∧ Aside0 (kq ≤ k) ∧ Aside0 (Kd.R Kd.bool 4 w' w.heap.size (fun _ => True) u160000 x160000_1) ∧ Aside0 (w'.heap[gb151]? = some (.cells #[(.slice A0_0 l0_0.length c0_0), .bool a0_1] 115 (0, 0))) ∧ Aside0 (w'.heap[gb152]? = some (.cells #[(.slice none 0 0), .bool false] 115 (0, 0))) ∧ Aside0 (w'.heap[gb159]? = some (.cells #[u160000, .bool (!a0_1)] 115 (0, 0))) ∧ Aside0 (Below w.heap.size w w'))
  case atStart => exact ⟨(0), (y156), (.slice Ao13 y156.length co13), (ry_), H', ⟨Nat.le_refl _⟩, ⟨by (with_reducible repeat (first | apply Kd.R_alloc | apply Kd.R_drewN | apply Kd.R_drew)); exact Kd.R_mono (Kd.R_far (p := ⟨gb159, 1, none⟩) (Kd.R_far (p := ⟨gb159, 0, none⟩) (Kd.R_types HO158.out BK159.out (by decide)) (fun _ hk => hk.2) (.slice Ao13 y156.length co13)) (fun _ hk => hk.2) (.bool (!a0_1))) (fun _ hk => trivial)⟩, ⟨by (with_reducible repeat (first | refine kN_ ?_ _ | refine k1_ ?_ | refine ka_ ?_ _)); refine blk_far ?_ NB151_159.out _; (with_reducible repeat (first | refine kN_ ?_ _ | refine k1_ ?_ | refine ka_ ?_ _)); refine blk_far ?_ NB151_159.out _; exact pk BK151.out⟩, ⟨by (with_reducible repeat (first | refine kN_ ?_ _ | refine k1_ ?_ | refine ka_ ?_ _)); refine blk_far ?_ NB152_159.out _; (with_reducible repeat (first | refine kN_ ?_ _ | refine k1_ ?_ | refine ka_ ?_ _)); refine blk_far ?_ NB152_159.out _; exact pk BK152.out⟩, ⟨by (with_reducible repeat (first | refine kN_ ?_ _ | refine k1_ ?_ | refine ka_ ?_ _)); refine blk_put (cs := #[.slice Ao13 y156.length co13, .bool false]) ?_ 1 _ rfl; (with_reducible repeat (first | refine kN_ ?_ _ | refine k1_ ?_ | refine ka_ ?_ _)); refine blk_put (cs := #[.slice none 0 0, .bool false]) ?_ 0 _ rfl; exact pk BK159.out⟩, ⟨by repeat (first | exact HB.out | apply ba_ | apply bN_ | apply b1_ | refine below_set ?_ (Aside0.out (by assumption)))⟩⟩
  case round =>
   clear H'
   try clear c1
   try clear p2
   try clear c3
   try clear c9
   obtain ⟨x18_1, x160000_1, u160000, rfl, HA, HK1, HO_160000, BK151, BK152, BK159, HB⟩ := hrel
   cases gk with
   | zero => exact absurd HA.out (by simp [spec_paCross.l0])
   | succ k1 =>
    have H := HA.out
    clear HA
    simp only [spec_paCross.l0] at H
    by_cases c16 : x18_1 < (l1.length : Int)
    ·
     rw [if_pos c16] at H
     have c16b0 : decide (x18_1 < (l1.length : Int)) = true := decide_eq_true c16
     clear c16
     by_cases c17 : 0 ≤ x18_1
     ·
      rw [if_pos c17] at H
      have c17b0 : decide (0 ≤ x18_1) = true := decide_eq_true c17
      clear c17
      by_cases c18 : x18_1 < (l1.length : Int)
      ·
       rw [if_pos c18] at H
       have c18b0 : decide (x18_1 < (l1.length : Int)) = true := decide_eq_true c18
       clear c18
       by_cases c19 : 0 ≤ (rd l1 x18_1)
       ·
        rw [if_pos c19] at H
        have c19b0 : decide (0 ≤ (rd l1 x18_1)) = true := decide_eq_true c19
        clear c19
        by_cases c20 : (rd l1 x18_1) < (l0_0.length : Int)
        ·
         rw [if_pos c20] at H
         have c20b0 : decide ((rd l1 x18_1) < (l0_0.length : Int)) = true := decide_eq_true c20
         clear c20
         by_cases c21 : (rd l1 x18_1) < (x160000_1.length : Int)
         ·
          rw [if_pos c21] at H
          have c21b0 : decide ((rd l1 x18_1) < (x160000_1.length : Int)) = true := decide_eq_true c21
          clear c21
          obtain ⟨y162, hy162⟩ : ∃ y_ : List Bool, y_ = (x160000_1.set ((rd l1 x18_1) : Int).toNat (!(rdOf false l0_0 (rd l1 x18_1)))) := ⟨_, rfl⟩
          replace H : (spec_paCross.l0 k1 l1 (l1.length : Int) (wrap64 (x18_1 + 1)) l0_0 a0_1 y162 (!a0_1)) = some (r1, r2) := by first | (rw [hy162]; exact H) | exact H
          have Ny162 := ak_ hy162
          clear hy162
          have H' := ak_ H
          clear H
          have p160 : 0 ≤ (x18_1 : Int) := odt_ (by assumption)
          have q160 : x18_1 < (l1.length : Int) := odt_ (by assumption)
          obtain ⟨ad160, e160, hx160_0⟩ := Kd.at_int HR1.out x18_1 p160 q160
          cases e160
          try replace hx160_0 := (HB.out.cell (World.block_lt_of_cell? w _ hx160_0)).trans hx160_0
          replace p160 := eq_true p160
          replace q160 := eq_true q160
          try go_wp2
          have n0_ := ak_ (Kd.R_drew HO_160000.out)
          have n1_ := ak_ (k1_ BK151.out)
          have n2_ := ak_ (k1_ BK152.out)
          have n3_ := ak_ (k1_ BK159.out)
          have n4_ := ak_ (b1_ HB.out)
          clear HO_160000 BK151 BK152 BK159 HB
          have HO_160000 := n0_; have BK151 := n1_; have BK152 := n2_; have BK159 := n3_; have HB := n4_
          clear n0_ n1_ n2_ n3_ n4_
          have p161 : 0 ≤ ((rd l1 x18_1) : Int) := odt_ (by assumption)
          have q161 : (rd l1 x18_1) < (l0_0.length : Int) := odt_ (by assumption)
          obtain ⟨ad161, e161, hx161_0⟩ := Kd.at_bool HR0_0.out (rd l1 x18_1) p161 q161
          have hw161_0 := hx161_0
          cases e161
          try replace hx161_0 := (HB.out.cell (World.block_lt_of_cell? w _ hx161_0)).trans hx161_0
          replace p161 := eq_true p161
          replace q161 := eq_true q161
          have p22 : 0 ≤ ((rd l1 x18_1) : Int) := odt_ (by assumption)
          have q22 : ((rd l1 x18_1) : Int) < ((x160000_1.length : Int) : Int) := odt_ (by assumption)
          obtain ⟨go22, co22, eo22, gb22, gl22, cl22, HG22⟩ := Kd.R_form HO_160000.out (by omega)
          (first | cases eo22 | (injection eo22 with ea_ en_ ec_; (first | subst ea_ | (injection ea_ with ea_; subst ea_)); subst ec_; clear en_))
          have GB22 := ak_ gb22
          have GG22 := ak_ HG22
          clear gb22 gl22 HG22
          obtain ⟨hx22_0, hf22_0⟩ := Kd.R_celln false HO_160000.out ((rd l1 x18_1) : Int) p22 q22
          replace p22 := eq_true p22
          replace q22 := eq_true q22
          have HP24 := Kd.R_putn HO_160000.out ((rd l1 x18_1) : Int) (!(rdOf false l0_0 (rd l1 x18_1)))
          rw [← Ny162.out] at HP24
          have HQ24 := ak_ HP24
          clear HP24
          refine start_ (n := 11) (S := fun w' => w'.cell? ⟨gb159, 0, none⟩ = some (.slice (some ⟨go22, 0, none⟩) x160000_1.length co22) ∧ w'.cell? ⟨gb159, 1, none⟩ = some (.bool (!a0_1)) ∧ w'.cell? ⟨gb151, 0, none⟩ = some (.slice (some ad161) l0_0.length c0_0) ∧ w'.cell? ⟨gb151, 1, none⟩ = some (.bool a0_1) ∧ w'.cell? (ad161.add ((rd l1 x18_1)).toNat) = some (.bool (rdOf false l0_0 (rd l1 x18_1)))) (ds := [10]) (mb_ 11 0) (by kernel_rfl) rfl rfl ⟨(blk_cell BK159.out 0).trans rfl, (blk_cell BK159.out 1).trans rfl, (blk_cell BK151.out 0).trans rfl, (blk_cell BK151.out 1).trans rfl, ((HB.out.cell (World.block_lt_of_cell? w _ hw161_0)).trans hw161_0)⟩ (fun hHeld => ?_); refine with_tabW spec_paCross.tab5 spec_paCross.bits5 (fun HT_ HW_ => ?_)
          generalize wr.drew = w23 at HO_160000 BK151 BK152 BK159 HB GG22 HQ24 hf22_0 hx161_0 hx22_0 hHeld ⊢
          refine pu_ 0 22 11 1 ?_
          refine pu_ 2 24 11 5 ?_
          refine pu_ 3 25 11 13 ?_
          refine pu_ 5 27 11 45 ?_
          refine tk_ 1 23 11 47 ?_ (hy := by rintro w' ⟨s0, s1, s2, s3, s4⟩; go_simp; with_reducible rfl)
          refine tk_ 4 26 11 63 ?_ (hy := by rintro w' ⟨s0, s1, s2, s3, s4⟩; go_simp; with_reducible rfl)
          refine pu_ 6 28 11 127 ?_
          refine tk_ 7 29 11 255 ?_ (hy := by rintro w' ⟨s0, s1, s2, s3, s4⟩; go_simp; with_reducible rfl)
          refine pu_ 8 30 11 511 ?_
          refine pu_ 9 31 11 1023 ?_
          refine last_ (i := 10) (N := none) (mb_ 11 2047) rfl rfl (one_of HT_.out (by kernel_rfl)) (by decide) (fun K hK => ?_)
          refine skip_ (w1 := ?_) (by rfl) rfl ?_ ?_
          rotate_left
          ·
           go_simp
           rfl
          refine hK.out _ _ ?_
          clear hK K
          refine done_ (done_of HT_.out (by kernel_rfl)) ?_
          try go_wp2
          go_roundg k1
          case measure => have := HK1.out; omega
          case rel => exact ⟨(wrap64 (x18_1 + 1)), (y162), (.slice (some ⟨go22, 0, none⟩) x160000_1.length co22), (ry_), H', ⟨by have := HK1.out; omega⟩, ⟨Kd.pR HQ24.out⟩, ⟨by (with_reducible repeat (first | refine kN_ ?_ _ | refine k1_ ?_ | refine ka_ ?_ _)); refine blk_far ?_ (by have h_ := Kd.R_ne HO_160000.out BK151.out (by decide); intro e_; exact h_ (by rw [e_]; rfl)) _; exact pk BK151.out⟩, ⟨by (with_reducible repeat (first | refine kN_ ?_ _ | refine k1_ ?_ | refine ka_ ?_ _)); refine blk_far ?_ (by have h_ := Kd.R_ne HO_160000.out BK152.out (by decide); intro e_; exact h_ (by rw [e_]; rfl)) _; exact pk BK152.out⟩, ⟨by (with_reducible repeat (first | refine kN_ ?_ _ | refine k1_ ?_ | refine ka_ ?_ _)); refine blk_far ?_ (by have h_ := Kd.R_ne HO_160000.out BK159.out (by decide); intro e_; exact h_ (by rw [e_]; rfl)) _; exact pk BK159.out⟩, ⟨by repeat (first | exact HB.out | apply ba_ | apply bN_ | apply b1_ | refine below_set ?_ GB22.out | refine below_set ?_ (Aside0.out (by assumption)))⟩⟩
         ·
          rw [if_neg c21] at H
          exact absurd H (by simp)
        ·
         rw [if_neg c20] at H
         exact absurd H (by simp)
       ·
        rw [if_neg c19] at H
        exact absurd H (by simp)
      ·
       rw [if_neg c18] at H
       exact absurd H (by simp)
     ·
      rw [if_neg c17] at H
      exact absurd H (by simp)
    ·
     rw [if_neg c16] at H
     have c16b0 : decide (x18_1 < (l1.length : Int)) = false := decide_eq_false c16
     clear c16
     simp only [Option.some.injEq, Prod.mk.injEq] at H
     obtain ⟨rfl, rfl⟩ := H
     have hnb25 := NB159_151.out
     have hnc25 := NB151_159.out
     have hnb26 := NB159_152.out
     have hnc26 := NB152_159.out
     have hcz27_0 : wr.cell? ⟨gb159, 0, none⟩ = some (u160000) := (blk_cell BK159.out 0).trans rfl
     have hcz27_1 : wr.cell? ⟨gb159, 1, none⟩ = some (.bool (!a0_1)) := (blk_cell BK159.out 1).trans rfl
     have hfz27_0 := blk_frozen BK159.out 0
     have hfz27_1 := blk_frozen BK159.out 1
     obtain ⟨Ao28, co28, eo28⟩ := Kd.R_slice HO_160000.out
     subst eo28
     have hnb29 := NB152_151.out
     have hnc29 := NB151_152.out
     have hcz30_0 : wr.cell? ⟨gb152, 0, none⟩ = some (.slice none 0 0) := (blk_cell BK152.out 0).trans rfl
     have hcz30_1 : wr.cell? ⟨gb152, 1, none⟩ = some (.bool false) := (blk_cell BK152.out 1).trans rfl
     have hfz30_0 := blk_frozen BK152.out 0
     have hfz30_1 := blk_frozen BK152.out 1
     go_wp2
     refine bodyPost_ret (results_cell_row rfl _ _ gb152 115 #[.slice Ao28 x160000_1.length co28, .bool (!a0_1)] (0, 0) _ rfl (by (with_reducible repeat (first | refine kN_ ?_ _ | refine k1_ ?_ | refine ka_ ?_ _)); refine blk_put (cs := #[.slice Ao28 x160000_1.length co28, .bool false]) ?_ 1 _ rfl; (with_reducible repeat (first | refine kN_ ?_ _ | refine k1_ ?_ | refine ka_ ?_ _)); refine blk_put (cs := #[.slice none 0 0, .bool false]) ?_ 0 _ rfl; exact pk BK152.out) Try.underlying115 rfl (by kernel_rfl)) rfl ?_
     exact ⟨_, rx_, by (with_reducible repeat (first | apply Kd.R_alloc | apply Kd.R_drewN | apply Kd.R_drew)); exact Kd.R_mono (Kd.R_far (p := ⟨gb152, 1, none⟩) (Kd.R_far (p := ⟨gb152, 0, none⟩) (Kd.R_types HO_160000.out BK152.out (by decide)) (fun _ hk => hk.2) (.slice Ao28 x160000_1.length co28)) (fun _ hk => hk.2) (.bool (!a0_1))) (fun _ hk => trivial), by repeat (first | exact HB.out | apply ba_ | apply bN_ | apply b1_ | refine below_set ?_ (Aside0.out (by assumption)))⟩
 ·
  rw [if_neg c3] at H
  exact absurd H (by simp)
def spec_loParty.f (l0_0 : List Int) (l0_1 : List Bool) (a0_2 : Int) : Option (List Int × Int) := some (l0_0, 0)
theorem spec_loParty.calls (P0_0_ : Nat → Prop) (A0_0 : Option Addr) (c0_0 : Nat) (l0_0 : List Int) (A0_1 : Option Addr) (c0_1 : Nat) (l0_1 : List Bool) (a0_2 : Int) (r1 : List Int) (r2 : Int) (w : World) (hs0_0 : Kd.V (Kd.int .i64) 3 w w.heap.size (fun k_ => P0_0_ k_) (.slice A0_0 l0_0.length c0_0) l0_0) (hr0_1 : Kd.C Kd.bool w A0_1 l0_1.length l0_1) (hc0_1 : l0_1.length ≤ c0_1) (h : spec_loParty.f l0_0 l0_1 a0_2 = some (r1, r2)) :
  Calls Try.prog 99 #[.agg #[.slice A0_0 l0_0.length c0_0, .slice A0_1 l0_1.length c0_1, .int .i64 a0_2]] w fun e w' => ∃ v0_ : Value, e = .returned (.agg #[v0_, .int .i64 r2]) ∧ Kd.V (Kd.int .i64) 3 w' w.heap.size (fun k_ => (P0_0_ k_ ∨ w.heap.size ≤ k_)) v0_ r1 ∧ Below w.heap.size w w' := by
 have hu43 := Try.underlying43
 have hu34 := Try.underlying34
 have HO0_0 := ak_ (show Kd.V (Kd.int .i64) 3 w w.heap.size (fun k_ => (P0_0_ k_ ∨ w.heap.size ≤ k_)) (.slice A0_0 l0_0.length c0_0) l0_0 from Kd.V_mono hs0_0 (fun k_ hk => .inl hk))
 have HR0_1 := ak_ hr0_1
 have HC0_1 := ak_ hc0_1
 clear hr0_1 hc0_1
 have HB := ak_ (Below.refl w.heap.size w)
 have H : (some (l0_0, 0)) = some (r1, r2) := h
 clear h
 simp only [Option.some.injEq, Prod.mk.injEq] at H
 obtain ⟨rfl, rfl⟩ := H
 go_enter Try.func99, Try.ntmps99
 go_wp2_with (first | ((with_reducible refine gate_dst (N := 1) rfl ?_); refine bx_ 1 #[.slice A0_0 l0_0.length c0_0, .slice A0_1 l0_1.length c0_1, .int .i64 a0_2] 43 ?_; intro gb175 hg w2 hbox hb; have n0_ := ak_ (Kd.V_below (Kd.V_elderB (Kd.pV HO0_0.out) gb175 (Nat.le_of_eq hg.symm)) hb); have n1_ := ak_ (bs_ (bb_ HB.out) hb); have n2_ := ak_ (hbox); have n3_ := ak_ ((by rw [hg]; exact (bz_ (bb_ HB.out)) : w.heap.size ≤ gb175)); have n4_ := n3_; clear HO0_0; clear HB; have HO0_0 := n0_; have HB := n1_; have BK175 := n2_; have GW175 := n3_; have GE175 := n4_; clear n0_ n1_ n2_ n3_ n4_; clear hb hbox hg) | ((with_reducible refine gate_dst (N := 2) rfl ?_); refine bx_ 2 #[.slice none 0 0, .int .i64 0] 34 ?_; intro gb176 hg w3 hbox hb; have n0_ := ak_ (Kd.V_below (Kd.V_elderB (Kd.pV HO0_0.out) gb176 (Nat.le_of_eq hg.symm)) hb); have n1_ := ak_ (blk_below (pk BK175.out) hb); have n2_ := ak_ (bs_ bl_ hb); have n3_ := ak_ (hbox); have n4_ := ak_ ((by rw [hg]; exact (bz_ bl_) : w.heap.size ≤ gb176)); have n5_ := n4_; have n6_ := ak_ ((by rw [hg]; exact Nat.ne_of_lt (blk_lt (pk BK175.out)) : gb175 ≠ gb176)); have n7_ := ak_ n6_.out.symm; clear HO0_0; clear BK175; clear HB; have HO0_0 := n0_; have BK175 := n1_; have HB := n2_; have BK176 := n3_; have GW176 := n4_; have GE176 := n5_; have NB175_176 := n6_; have NB176_175 := n7_; clear n0_ n1_ n2_ n3_ n4_ n5_ n6_ n7_; clear hb hbox hg; have hnb4 := NB175_176.out; have hnc4 := NB176_175.out; have hcz5_0 : w3.cell? ⟨gb175, 0, none⟩ = some (.slice A0_0 l0_0.length c0_0) := (blk_cell BK175.out 0).trans rfl; have hcz5_1 : w3.cell? ⟨gb175, 1, none⟩ = some (.slice A0_1 l0_1.length c0_1) := (blk_cell BK175.out 1).trans rfl; have hcz5_2 : w3.cell? ⟨gb175, 2, none⟩ = some (.int .i64 a0_2) := (blk_cell BK175.out 2).trans rfl; have hfz5_0 := blk_frozen BK175.out 0; have hfz5_1 := blk_frozen BK175.out 1; have hfz5_2 := blk_frozen BK175.out 2; have hcz6_0 : w3.cell? ⟨gb176, 0, none⟩ = some (.slice none 0 0) := (blk_cell BK176.out 0).trans rfl; have hcz6_1 : w3.cell? ⟨gb176, 1, none⟩ = some (.int .i64 0) := (blk_cell BK176.out 1).trans rfl; have hfz6_0 := blk_frozen BK176.out 0; have hfz6_1 := blk_frozen BK176.out 1))
 refine bodyPost_ret (results_cell_row rfl _ _ gb176 34 #[.slice A0_0 l0_0.length c0_0, .int .i64 0] (0, 0) _ rfl (by (with_reducible repeat (first | refine kN_ ?_ _ | refine k1_ ?_ | refine ka_ ?_ _)); refine blk_put (cs := #[.slice A0_0 l0_0.length c0_0, .int .i64 0]) ?_ 1 _ rfl; (with_reducible repeat (first | refine kN_ ?_ _ | refine k1_ ?_ | refine ka_ ?_ _)); refine blk_put (cs := #[.slice none 0 0, .int .i64 0]) ?_ 0 _ rfl; exact pk BK176.out) Try.underlying34 rfl (by kernel_rfl)) rfl ?_
 exact ⟨_, rx_, by (with_reducible repeat (first | apply Kd.V_alloc | apply Kd.V_drewN | apply Kd.V_drew)); exact Kd.V_mono (Kd.V_far (p := ⟨gb176, 1, none⟩) (Kd.V_far (p := ⟨gb176, 0, none⟩) (Kd.V_mono HO0_0.out (fun k_ hk => (⟨hk, hk.2⟩ : _ ∧ k_ ≠ gb176))) (fun _ hk => hk.2) (.slice A0_0 l0_0.length c0_0)) (fun _ hk => hk.2) (.int .i64 0)) (fun _ hk => hk.1.1.1), by repeat (first | exact HB.out | apply ba_ | apply bN_ | apply b1_ | refine below_set ?_ (Aside0.out (by assumption)))⟩
def spec_l1Own.f (l0 : List Int) : Option (List Int) := (some (([] : List Int) : List Int)).bind fun y177 => (if y177.length + l0.length < 17592186044416 then (some (y177 ++ l0)) else (none))
theorem spec_l1Own.calls (A0 : Option Addr) (c0 : Nat) (l0 : List Int) (r : List Int) (w : World) (hr0 : Kd.C (Kd.int .i64) w A0 l0.length l0) (hc0 : l0.length ≤ c0) (h : spec_l1Own.f l0 = some r) :
  Calls Try.prog 130 #[.slice A0 l0.length c0] w fun e w' => ∃ v0_ : Value, e = .returned (v0_) ∧ Kd.R (Kd.int .i64) 3 w' w.heap.size (fun _ => True) v0_ r ∧ Below w.heap.size w w' := by
 have HR0 := ak_ hr0
 have HC0 := ak_ hc0
 clear hr0 hc0
 have HB := ak_ (Below.refl w.heap.size w)
 have H : ((some (([] : List Int) : List Int)).bind fun y177 => (if y177.length + l0.length < 17592186044416 then (some (y177 ++ l0)) else (none))) = some r := h
 clear h
 obtain ⟨y177, hy177⟩ : ∃ y_ : List Int, y_ = (([] : List Int)) := ⟨_, rfl⟩
 replace H : (if y177.length + l0.length < 17592186044416 then (some (y177 ++ l0)) else (none)) = some r := by first | (rw [hy177]; exact H) | exact H
 have Ny177 := ak_ hy177
 clear hy177
 by_cases c2 : y177.length + l0.length < 17592186044416
 ·
  rw [if_pos c2] at H
  have LMc2 := ak_ c2
  clear c2
  obtain ⟨y180, hy180⟩ : ∃ y_ : List Int, y_ = (y177 ++ l0) := ⟨_, rfl⟩
  replace H : (some y180) = some r := by first | (rw [hy180]; exact H) | exact H
  have Ny180 := ak_ hy180
  clear hy180
  obtain rfl := Option.some.inj H
  go_enter Try.func130, Try.ntmps130
  go_wp2_with (first | ((with_reducible refine gate_dst (N := 3) rfl ?_); refine Kd.R_lit (Kd.int .i64) _ 3 ?hg (N := 3) ?hd (xs := ([] : List Int)) (inner := []) (ok := fun _ => True) (okp := fun _ => True) ?hr ?hp (fun _ hk => hk) trivial (Below.refl _ _) (Nat.le_refl _) (by simp) ?_; (case hd => rfl); (case hg => rfl); (case hr => go_simp <;> rfl); (case hp => exact (Reps.none _ _)); intro v178 w3 ho4 hb hg_ hnew_; clear hg_ hnew_; (first | rw [← Ny177.out] at ho4 | (simp only [Int.reduceToNat] at ho4; rw [← Ny177.out] at ho4)); have n0_ := ak_ (Kd.R_lower ho4 (bz_ (bb_ HB.out))); have n1_ := ak_ (bs_ (bb_ HB.out) hb); clear HB; have HO179 := n0_; have HB := n1_; clear n0_ n1_; clear hb ho4) | ((with_reducible refine gate_builtin (b := .append) (xs := #[.tmp 3, .tmp 4]) rfl ?_); at_builtin; refine Kd.R_append_rows (Kd.int .i64) (w0 := w) w.heap.size rfl (.tmp 3) (.tmp 4) 29 3 (.int .i64 0) 8 rfl Try.underlying29 info3 rfl (by decide) (by omega) v178 y177 l0 _ _ _ (fun _ => True) (fun _ => False) rfl rfl ?aO ?aR (fun _ _ h => h) (fun _ h => h.elim) ?aF ?aB ?aS ?aL ?_; (case aR => repeat (first | exact (Kd.C_below HR0.out HB.out) | (with_reducible refine Kd.C_alloc ?_ _) | (with_reducible refine Kd.C_drewN ?_ _) | (with_reducible refine Kd.C_drew ?_))); (case aB => exact (bb_ HB.out)); (case aF => exact (fun _ _ => trivial)); (case aO => exact (Kd.pR HO179.out)); (case aS => exact (bz_ (bb_ HB.out))); (case aL => have := LMc2.out; omega); intro v181 w5 ho hb hg hat; rw [← Ny180.out] at ho; have n0_ := ak_ (hb); have n1_ := ak_ (ho); clear HB; clear HO179; have HB := n0_; have HO182 := n1_; clear n0_ n1_; clear ho hb hg hat))
  go_ret
  exact ⟨_, rx_, by (with_reducible repeat (first | apply Kd.R_alloc | apply Kd.R_drewN | apply Kd.R_drew)); exact HO182.out, bb_ HB.out⟩
 ·
  rw [if_neg c2] at H
  exact absurd H (by simp)
end Go.Proofs.Ythkchdfkeieabaa.QGr
