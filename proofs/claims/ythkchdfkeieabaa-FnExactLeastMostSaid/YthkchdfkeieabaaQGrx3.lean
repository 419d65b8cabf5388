/- Contracts of functions of the given program, walked: each call returns what its Lean function says. Conditions: those that stand at each theorem. (Written by a program of this session.) -/
import Derived.Test.YthkchdfkeieabaaQGrx0
namespace Go.Proofs.Ythkchdfkeieabaa.QGr
open Go.RowKit Go.Proofs.YthkchdfkeieabaaW.PrintWords Go.Proofs.YthkchdfkeieabaaW.PrintLast Go.Proofs.YthkchdfkeieabaaW.PrintMore
open List (setIfInBounds_toArray set_cons_zero set_cons_succ map_toArray map_cons map_nil)
attribute [local go_sem] max2_int min2_int max_two min_two max_three min_three max_four min_four
set_option linter.unusedVariables false
set_option maxHeartbeats 8000000
set_option maxRecDepth 100000
set_option linter.unusedSimpArgs false
def spec_seState.l0 : Nat → Int → Int → Int → Int → List Bool → Bool → Option (List Bool × Bool)
 | 0, _, _, _, _, _, _ => none
 | k + 1, x0, x1, x16, x17, x150000, x150001 => if x17 < x16 then (if 0 ≤ (wrap64 ((wrap64 (x1 - 1)) - x17)) then (if 0 ≤ x17 then (if x17 < (x150000.length : Int) then (spec_seState.l0 k x0 x1 x16 (wrap64 (x17 + 1)) (x150000.set (x17 : Int).toNat ((Go.bits .and .i64 (shr .i64 x0 (wrap64 ((wrap64 (x1 - 1)) - x17))) 1) == 1)) x150001) else (none)) else (none)) else (none)) else (some (x150000, x150001))
def spec_seState.f (k : Nat) (a0 : Int) (a1 : Int) : Option (List Bool × Bool) := if 0 ≤ a1 then (if (a1 : Int).toNat ≤ 281474976710656 then ((some (List.replicate (a1 : Int).toNat false : List Bool)).bind fun y146 => (spec_seState.l0 k a0 a1 (y146.length : Int) 0 y146 ((shr .i64 a0 a1) == 1))) else (none)) else (none)
theorem spec_seState.mono_l : ∀ k, (∀ y0 y1 y2 y3 y4 y5, LeO (spec_seState.l0 k y0 y1 y2 y3 y4 y5) (spec_seState.l0 (k + 1) y0 y1 y2 y3 y4 y5))
 | 0 => fun _ _ _ _ _ _ r h => by simp [spec_seState.l0] at h
 | k + 1 => by
  have ih0 := spec_seState.mono_l k
  ·intro y0 y1 y2 y3 y4 y5
   unfold spec_seState.l0
   repeat' first
   | (with_reducible first | exact ih0 _ _ _ _ _ _ | exact LeO.refl _ | exact LeO.none _ | refine LeO.ite ?_ ?_ | refine LeO.bind ?_ (fun _ => ?_))
   | exact ih0 _ _ _ _ _ _
   | exact LeO.none _
   | refine LeO.ite ?_ ?_
   | refine LeO.bind ?_ (fun _ => ?_)
theorem spec_seState.mono : ∀ a0 a1 k, LeO (spec_seState.f k a0 a1) (spec_seState.f (k + 1) a0 a1) := by
 intro a0 a1 k
 have ih0 := spec_seState.mono_l k
 unfold spec_seState.f
 repeat' first
  | (with_reducible first | exact ih0 _ _ _ _ _ _ | exact LeO.refl _ | exact LeO.none _ | refine LeO.ite ?_ ?_ | refine LeO.bind ?_ (fun _ => ?_))
  | exact ih0 _ _ _ _ _ _
  | exact LeO.none _
  | refine LeO.ite ?_ ?_
  | refine LeO.bind ?_ (fun _ => ?_)
def spec_seState.T1 : Bool × List (List Nat × List Nat) := (true, [([], []), ([0, 0], [0]), ([], []), ([], []), ([2, 3], [2, 3]), ([4], [4]), ([1, 5], [1, 5]), ([], []), ([7, 6, 0, 1, 2, 3, 4, 5, 6, 7], [6, 7])])
def spec_seState.B1 : List Nat := [0, 1, 0, 0, 12, 28, 63, 0, 255]
theorem spec_seState.tab1 : rtab .any (opsOf Try.f94 1) = spec_seState.T1 := by kernel_rfl
theorem spec_seState.bits1 : waitsOk spec_seState.T1.2 spec_seState.B1 = true := by kernel_rfl
def spec_seState.T5 : Bool × List (List Nat × List Nat) := (true, [([], []), ([0], [0]), ([], []), ([], []), ([], []), ([4], [4]), ([], []), ([5, 6], [5, 6]), ([3, 7], [3, 7]), ([8], [8]), ([9], [9]), ([1, 2, 0, 1, 2, 3, 4, 5, 6, 7, 8, 9, 10], [1, 2]), ([11, 10, 0, 1, 2, 3, 4, 5, 6, 7, 8, 9, 10], [10, 11])])
def spec_seState.B5 : List Nat := [0, 1, 0, 0, 0, 16, 0, 112, 248, 504, 1016, 2047, 4095]
theorem spec_seState.tab5 : rtab .any (opsOf Try.f94 5) = spec_seState.T5 := by kernel_rfl
theorem spec_seState.bits5 : waitsOk spec_seState.T5.2 spec_seState.B5 = true := by kernel_rfl
theorem spec_seState.calls (k : Nat) (a0 : Int) (a1 : Int) (r1 : List Bool) (r2 : Bool) (w : World) (h : spec_seState.f k a0 a1 = some (r1, r2)) :
  Calls Try.prog 94 #[.int .i64 a0, .int .i64 a1] w fun e w' => ∃ v0_ : Value, e = .returned (.agg #[v0_, .bool r2]) ∧ Kd.R Kd.bool 4 w' w.heap.size (fun _ => True) v0_ r1 ∧ Below w.heap.size w w' := by
 have hu115 := Try.underlying115
 have HB := ak_ (Below.refl w.heap.size w)
 have H : (if 0 ≤ a1 then (if (a1 : Int).toNat ≤ 281474976710656 then ((some (List.replicate (a1 : Int).toNat false : List Bool)).bind fun y146 => (spec_seState.l0 k a0 a1 (y146.length : Int) 0 y146 ((shr .i64 a0 a1) == 1))) else (none)) else (none)) = some (r1, r2) := h
 clear h
 by_cases c3 : 0 ≤ a1
 ·
  rw [if_pos c3] at H
  have c3b0 := eq_true c3
  have c3b1 : decide (0 ≤ a1) = true := decide_eq_true c3
  clear c3
  by_cases c4 : (a1 : Int).toNat ≤ 281474976710656
  ·
   rw [if_pos c4] at H
   have c4b0 := eq_true c4
   have c4b1 : decide ((a1 : Int).toNat ≤ 281474976710656) = true := decide_eq_true c4
   clear c4
   obtain ⟨y146, hy146⟩ : ∃ y_ : List Bool, y_ = (List.replicate (a1 : Int).toNat false) := ⟨_, rfl⟩
   replace H : (spec_seState.l0 k a0 a1 (y146.length : Int) 0 y146 ((shr .i64 a0 a1) == 1)) = some (r1, r2) := by first | (rw [hy146]; exact H) | exact H
   have Ny146 := ak_ hy146
   clear hy146
   have c5b0 := eq_true (odt_ (by assumption) : 0 ≤ a1)
   obtain ⟨ji6, hji6⟩ : ∃ j_ : Int, (shr .i64 a0 a1) = j_ := ⟨_, rfl⟩
   replace H : (spec_seState.l0 k a0 a1 (y146.length : Int) 0 y146 ((ji6) == 1)) = some (r1, r2) := by first | (rw [hji6] at H; exact H) | (simp only [hji6] at H ⊢; exact H)
   have hji6_ : (a0 / 2 ^ min a1.toNat 64) = ji6 := hji6
   have hji6z : a1 ≤ 64 → (a0 / 2 ^ a1.toNat) = ji6 := shr_small hji6
   have H' := ak_ H
   clear H
   go_enter Try.func94, Try.ntmps94
   try go_wp2_with (first | ((with_reducible refine gate_dst (N := 4) rfl ?_); refine bx_ 4 #[.slice none 0 0, .bool false] 115 ?_; intro gb145 hg w7 hbox hb; have n0_ := ak_ (bs_ (bb_ HB.out) hb); have n1_ := ak_ (hbox); have n2_ := ak_ ((by rw [hg]; exact (bz_ (bb_ HB.out)) : w.heap.size ≤ gb145)); have n3_ := n2_; clear HB; have HB := n0_; have BK145 := n1_; have GW145 := n2_; have GE145 := n3_; clear n0_ n1_ n2_ n3_; clear hb hbox hg))
   have n0_ := ak_ (k1_ BK145.out)
   have n1_ := ak_ (b1_ HB.out)
   clear BK145 HB
   have BK145 := n0_; have HB := n1_
   clear n0_ n1_
   refine start_ (n := 9) (S := fun w' => True) (ds := []) (mb_ 9 0) (by kernel_rfl) rfl rfl trivial (fun hHeld => ?_); refine with_tabW spec_seState.tab1 spec_seState.bits1 (fun HT_ HW_ => ?_)
   generalize w7.drew = w8 at BK145 HB hHeld ⊢
   refine pu_ 0 7 9 1 ?_
   refine pu_ 2 9 9 5 ?_
   refine pu_ 3 10 9 13 ?_
   refine pu_ 4 11 9 29 ?_
   refine pu_ 5 12 9 61 ?_
   refine join_ (σ := Value × Nat) 1 (mb_ 9 255) (fun s_ => [(8, s_.1), (5, .pointer (some ⟨s_.2, 0, none⟩)), (13, .agg #[s_.1, .bool ((ji6) == 1)])]) (fun s_ w' => (Kd.R Kd.bool 4 w' w.heap.size (fun _ => True) s_.1 y146) ∧ (w'.heap[gb145]? = some (.cells #[.slice none 0 0, .bool false] 115 (0, 0))) ∧ (w'.heap[s_.2]? = some (.cells #[.slice none 0 0, .bool false] 115 (0, 0))) ∧ (w.heap.size ≤ s_.2) ∧ (w.heap.size ≤ s_.2) ∧ (gb145 ≠ s_.2) ∧ (s_.2 ≠ gb145) ∧ (Below w.heap.size w w')) ?_ ?_
   rotate_left
   ·
    intro hCont
    refine two_ (i := 1) (j := 7) (Ni := some 8) (Nj := some 5) (mb_ 9 63) (mb_ 9 189) rfl rfl rfl rfl (two_of HT_.out (by kernel_rfl)) (by decide) (by decide) (fun K hK => ?_) (fun K hK => ?_)
    ·
     skip
     refine Kd.R_make_step Kd.bool _ 4 (by rfl) (N := 8) rfl 38 _ _ rfl a1 rfl rfl Try.underlying38 (.bool false) 1 info4 rfl (by decide) (by omega) false (ok := fun _ => True) (okp := fun _ => True) rfl (fun _ hk => hk) trivial (odt_ (by assumption)) (Nat.le_trans (Nat.mul_le_mul_right _ (odt_ (by assumption) : a1.toNat ≤ 281474976710656)) (by omega)) (Below.refl _ _) (Nat.le_refl _) ?_
     intro v147 w9 ho10 hb hg_ hnew_
     clear hg_ hnew_
     (first | rw [← Ny146.out] at ho10 | (simp only [Int.reduceToNat] at ho10; rw [← Ny146.out] at ho10))
     have n0_ := ak_ (Kd.R_lower ho10 (bz_ bl_))
     have n1_ := ak_ (blk_below (pk BK145.out) hb)
     have n2_ := ak_ (bs_ bl_ hb)
     clear BK145 HB
     have HO148 := n0_; have BK145 := n1_; have HB := n2_
     clear n0_ n1_ n2_ hb ho10
     obtain ⟨Ao11, co11, eo11⟩ := Kd.R_slice HO148.out
     (first | subst eo11 | (injection eo11 with f1_ f2_ f3_; have f4_ := f1_.symm; have f5_ := f3_.symm; clear f1_ f2_ f3_; subst f4_; subst f5_))
     refine hK.out _ _ trivial (fun hHeld => ?_)
     clear hK K
     refine nm_ ?_
     refine pu_ 6 13 9 127 ?_
     refine on_ 7 5 9 255 (fun K hK => ?_)
     refine box_step ?hg (N := 5) ?hd (cs := #[.slice none 0 0, .bool false]) (t := 115) ?hr ?_; (case hd => rfl); (case hg => rfl); (case hr => go_simp <;> rfl)
     intro gb149 hg w12 hbox hb
     have n0_ := ak_ (Kd.R_below (Kd.pR HO148.out) hb)
     have n1_ := ak_ (blk_below (pk BK145.out) hb)
     have n2_ := ak_ (bs_ bl_ hb)
     have n3_ := ak_ (hbox)
     have n4_ := ak_ ((by rw [hg]; exact (bz_ bl_) : w.heap.size ≤ gb149))
     have n5_ := n4_
     have n6_ := ak_ ((by rw [hg]; exact Nat.ne_of_lt (blk_lt (pk BK145.out)) : gb145 ≠ gb149))
     have n7_ := ak_ n6_.out.symm
     clear HO148 BK145 HB
     have HO148 := n0_; have BK145 := n1_; have HB := n2_; have BK149 := n3_; have GW149 := n4_; have GE149 := n5_; have NB145_149 := n6_; have NB149_145 := n7_
     clear n0_ n1_ n2_ n3_ n4_ n5_ n6_ n7_ hb hbox hg
     refine hK.out _ _ trivial (fun hHeld => ?_)
     clear hK K
     refine nm_ ?_
     exact norm_ (by simp only [putAll, Act.put, setIfInBounds_toArray, set_cons_zero, set_cons_succ]) (hCont (.slice Ao11 y146.length co11, gb149) _ ⟨(Kd.pR HO148.out), (pk BK145.out), (pk BK149.out), GW149.out, GE149.out, NB145_149.out, NB149_145.out, bl_⟩)
    ·
     skip
     refine box_step ?hg (N := 5) ?hd (cs := #[.slice none 0 0, .bool false]) (t := 115) ?hr ?_; (case hd => rfl); (case hg => rfl); (case hr => go_simp <;> rfl)
     intro gb149 hg w9 hbox hb
     have n0_ := ak_ (blk_below (pk BK145.out) hb)
     have n1_ := ak_ (bs_ bl_ hb)
     have n2_ := ak_ (hbox)
     have n3_ := ak_ ((by rw [hg]; exact (bz_ bl_) : w.heap.size ≤ gb149))
     have n4_ := n3_
     have n5_ := ak_ ((by rw [hg]; exact Nat.ne_of_lt (blk_lt (pk BK145.out)) : gb145 ≠ gb149))
     have n6_ := ak_ n5_.out.symm
     clear BK145 HB
     have BK145 := n0_; have HB := n1_; have BK149 := n2_; have GW149 := n3_; have GE149 := n4_; have NB145_149 := n5_; have NB149_145 := n6_
     clear n0_ n1_ n2_ n3_ n4_ n5_ n6_ hb hbox hg
     refine hK.out _ _ trivial (fun hHeld => ?_)
     clear hK K
     refine nm_ ?_
     refine on_ 1 8 9 191 (fun K hK => ?_)
     refine Kd.R_make_step Kd.bool _ 4 (by rfl) (N := 8) rfl 38 _ _ rfl a1 rfl rfl Try.underlying38 (.bool false) 1 info4 rfl (by decide) (by omega) false (ok := fun _ => True) (okp := fun _ => True) rfl (fun _ hk => hk) trivial (odt_ (by assumption)) (Nat.le_trans (Nat.mul_le_mul_right _ (odt_ (by assumption) : a1.toNat ≤ 281474976710656)) (by omega)) (Below.refl _ _) (Nat.le_refl _) ?_
     intro v147 w10 ho11 hb hg_ hnew_
     clear hg_ hnew_
     (first | rw [← Ny146.out] at ho11 | (simp only [Int.reduceToNat] at ho11; rw [← Ny146.out] at ho11))
     have n0_ := ak_ (Kd.R_lower ho11 (bz_ bl_))
     have n1_ := ak_ (blk_below (pk BK145.out) hb)
     have n2_ := ak_ (blk_below (pk BK149.out) hb)
     have n3_ := ak_ (bs_ bl_ hb)
     clear BK145 BK149 HB
     have HO148 := n0_; have BK145 := n1_; have BK149 := n2_; have HB := n3_
     clear n0_ n1_ n2_ n3_ hb ho11
     obtain ⟨Ao12, co12, eo12⟩ := Kd.R_slice HO148.out
     (first | subst eo12 | (injection eo12 with f1_ f2_ f3_; have f4_ := f1_.symm; have f5_ := f3_.symm; clear f1_ f2_ f3_; subst f4_; subst f5_))
     refine hK.out _ _ trivial (fun hHeld => ?_)
     clear hK K
     refine nm_ ?_
     refine pu_ 6 13 9 255 ?_
     exact norm_ (by simp only [putAll, Act.put, setIfInBounds_toArray, set_cons_zero, set_cons_succ]) (hCont (.slice Ao12 y146.length co12, gb149) _ ⟨(Kd.pR HO148.out), (pk BK145.out), (pk BK149.out), GW149.out, GE149.out, NB145_149.out, NB149_145.out, bl_⟩)
   rintro ⟨v147, gb149⟩ w13 ⟨h0_, h1_, h2_, h3_, h4_, h5_, h6_, h7_⟩
   have n0_ : Aside0 (Kd.R Kd.bool 4 w13 w.heap.size (fun _ => True) v147 y146) := ⟨h0_⟩
   have n1_ : Aside0 (w13.heap[gb145]? = some (.cells #[.slice none 0 0, .bool false] 115 (0, 0))) := ⟨h1_⟩
   have n2_ : Aside0 (w13.heap[gb149]? = some (.cells #[.slice none 0 0, .bool false] 115 (0, 0))) := ⟨h2_⟩
   have n3_ : Aside0 (w.heap.size ≤ gb149) := ⟨h3_⟩
   have n4_ : Aside0 (w.heap.size ≤ gb149) := ⟨h4_⟩
   have n5_ : Aside0 (gb145 ≠ gb149) := ⟨h5_⟩
   have n6_ : Aside0 (gb149 ≠ gb145) := ⟨h6_⟩
   have n7_ : Aside0 (Below w.heap.size w w13) := ⟨h7_⟩
   clear BK145 HB h0_ h1_ h2_ h3_ h4_ h5_ h6_ h7_
   have HO148 := n0_; have BK145 := n1_; have BK149 := n2_; have GW149 := n3_; have GE149 := n4_; have NB145_149 := n5_; have NB149_145 := n6_; have HB := n7_
   clear n0_ n1_ n2_ n3_ n4_ n5_ n6_ n7_
   have hHeld := trivial
   obtain ⟨Ao14, co14, eo14⟩ := Kd.R_slice HO148.out
   (first | subst eo14 | (injection eo14 with f1_ f2_ f3_; have f4_ := f1_.symm; have f5_ := f3_.symm; clear f1_ f2_ f3_; subst f4_; subst f5_))
   refine norm_ (a' := ?_) ?_ ?_
   rotate_left
   ·
    simp only [putAll, Act.put, setIfInBounds_toArray, set_cons_zero, set_cons_succ]
    rfl
   refine one_ (i := 8) (N := none) (mb_ 9 511) rfl rfl (one_of HT_.out (by kernel_rfl)) (by decide) (fun K hK => ?_)
   have hs15 : w13.cell? ⟨gb149, 0, none⟩ = some (.slice none 0 0) := (blk_cell BK149.out 0).trans rfl
   have hfs15 := blk_frozen BK149.out 0
   have hns15_0 := NB145_149.out
   have hms15_0 := NB149_145.out
   have hs16 : w13.cell? ⟨gb149, 1, none⟩ = some (.bool false) := (blk_cell BK149.out 1).trans rfl
   have hfs16 := blk_frozen BK149.out 1
   have hns16_0 := NB145_149.out
   have hms16_0 := NB149_145.out
   refine skip_ (w1 := ?_) (by rfl) rfl ?_ ?_
   rotate_left
   ·
    go_simp
    rfl
   refine hK.out _ _ trivial (fun hHeld => ?_)
   clear hK K
   refine done_ (done_of HT_.out (by kernel_rfl)) ?_
   have hnb17 := NB149_145.out
   have hnc17 := NB145_149.out
   have hcz18_0 : w13.cell? ⟨gb149, 0, none⟩ = some (.slice none 0 0) := (blk_cell BK149.out 0).trans rfl
   have hcz18_1 : w13.cell? ⟨gb149, 1, none⟩ = some (.bool false) := (blk_cell BK149.out 1).trans rfl
   have hfz18_0 := blk_frozen BK149.out 0
   have hfz18_1 := blk_frozen BK149.out 1
   try go_wp2
   go_loopg [17] k (fun kq v17 w' => ∃ (x17_1 : Int) (x150000_1 : List Bool) (u150000 : Value), v17 = .int .i64 x17_1 ∧ Aside0 (spec_seState.l0 kq a0 a1 (y146.length : Int) x17_1 x150000_1 ((ji6) == 1) = some (r1, r2)) ∧ Aside0 (kq ≤ k) ∧ Aside0 (Kd.R Kd.bool 4 w' w.heap.size (fun _ => True) u150000 x150000_1) ∧ Aside0 (w'.heap[gb145]? = some (.cells #[(.slice none 0 0), .bool false] 115 (0, 0))) ∧ Aside0 (w'.heap[gb149]? = some (.cells #[u150000, .bool ((ji6) == 1)] 115 (0, 0))) ∧ Aside0 (Below w.heap.size w w'))
   case atStart => exact ⟨(0), (y146), (.slice Ao14 y146.length co14), (ry_), H', ⟨Nat.le_refl _⟩, ⟨by (with_reducible repeat (first | apply Kd.R_alloc | apply Kd.R_drewN | apply Kd.R_drew)); exact Kd.R_mono (Kd.R_far (p := ⟨gb149, 1, none⟩) (Kd.R_far (p := ⟨gb149, 0, none⟩) (Kd.R_types HO148.out BK149.out (by decide)) (fun _ hk => hk.2) (.slice Ao14 y146.length co14)) (fun _ hk => hk.2) (.bool ((ji6) == 1))) (fun _ hk => trivial)⟩, ⟨by (with_reducible repeat (first | refine kN_ ?_ _ | refine k1_ ?_ | refine ka_ ?_ _)); refine blk_far ?_ NB145_149.out _; (with_reducible repeat (first | refine kN_ ?_ _ | refine k1_ ?_ | refine ka_ ?_ _)); refine blk_far ?_ NB145_149.out _; exact pk BK145.out⟩, ⟨by (with_reducible repeat (first | refine kN_ ?_ _ | refine k1_ ?_ | refine ka_ ?_ _)); refine blk_put (cs := #[.slice Ao14 y146.length co14, .bool false]) ?_ 1 _ rfl; (with_reducible repeat (first | refine kN_ ?_ _ | refine k1_ ?_ | refine ka_ ?_ _)); refine blk_put (cs := #[.slice none 0 0, .bool false]) ?_ 0 _ rfl; exact pk BK149.out⟩, ⟨by repeat (first | exact HB.out | apply ba_ | apply bN_ | apply b1_ | refine below_set ?_ (Aside0.out (by assumption)))⟩⟩
   case round =>
    clear H'
    try clear c1
    try clear p2
    try clear c3
    try clear c3b0
    try clear c3b1
    try clear c4
    try clear c4b0
    try clear c4b1
    try clear c5
    try clear c5b0
    try clear c9
    try clear c17
    try clear hcz18_0
    try clear hcz18_1
    try clear hfz18_0
    try clear hfz18_1
    obtain ⟨x17_1, x150000_1, u150000, rfl, HA, HK1, HO_150000, BK145, BK149, HB⟩ := hrel
    cases gk with
    | zero => exact absurd HA.out (by simp [spec_seState.l0])
    | succ k1 =>
     have H := HA.out
     clear HA
     simp only [spec_seState.l0] at H
     by_cases c19 : x17_1 < (y146.length : Int)
     ·
      rw [if_pos c19] at H
      have c19b0 : decide (x17_1 < (y146.length : Int)) = true := decide_eq_true c19
      clear c19
      obtain ⟨ji20, hji20⟩ : ∃ j_ : Int, (wrap64 ((wrap64 (a1 - 1)) - x17_1)) = j_ := ⟨_, rfl⟩
      replace H : (if 0 ≤ (ji20) then (if 0 ≤ x17_1 then (if x17_1 < (x150000_1.length : Int) then (spec_seState.l0 k1 a0 a1 (y146.length : Int) (wrap64 (x17_1 + 1)) (x150000_1.set (x17_1 : Int).toNat ((Go.bits .and .i64 (shr .i64 a0 (ji20)) 1) == 1)) ((ji6) == 1)) else (none)) else (none)) else (none)) = some (r1, r2) := by first | (rw [hji20] at H; exact H) | (simp only [hji20] at H ⊢; exact H)
      have hji20w : (IntKind.i64.wrap ((wrap64 (a1 - 1)) - x17_1)) = ji20 := (i64_w _).trans hji20
      by_cases c21 : 0 ≤ (ji20)
      ·
       rw [if_pos c21] at H
       have c21b0 := eq_true c21
       have c21b1 : decide (0 ≤ (ji20)) = true := decide_eq_true c21
       clear c21
       obtain ⟨ji22, hji22⟩ : ∃ j_ : Int, (shr .i64 a0 (ji20)) = j_ := ⟨_, rfl⟩
       replace H : (if 0 ≤ x17_1 then (if x17_1 < (x150000_1.length : Int) then (spec_seState.l0 k1 a0 a1 (y146.length : Int) (wrap64 (x17_1 + 1)) (x150000_1.set (x17_1 : Int).toNat ((Go.bits .and .i64 (ji22) 1) == 1)) ((ji6) == 1)) else (none)) else (none)) = some (r1, r2) := by first | (rw [hji22] at H; exact H) | (simp only [hji22] at H ⊢; exact H)
       have hji22_ : (a0 / 2 ^ min (ji20).toNat 64) = ji22 := hji22
       have hji22z : (ji20) ≤ 64 → (a0 / 2 ^ (ji20).toNat) = ji22 := shr_small hji22
       by_cases c23 : 0 ≤ x17_1
       ·
        rw [if_pos c23] at H
        have c23b0 : decide (0 ≤ x17_1) = true := decide_eq_true c23
        clear c23
        by_cases c24 : x17_1 < (x150000_1.length : Int)
        ·
         rw [if_pos c24] at H
         have c24b0 : decide (x17_1 < (x150000_1.length : Int)) = true := decide_eq_true c24
         clear c24
         obtain ⟨y150, hy150⟩ : ∃ y_ : List Bool, y_ = (x150000_1.set (x17_1 : Int).toNat ((Go.bits .and .i64 (ji22) 1) == 1)) := ⟨_, rfl⟩
         replace H : (spec_seState.l0 k1 a0 a1 (y146.length : Int) (wrap64 (x17_1 + 1)) y150 ((ji6) == 1)) = some (r1, r2) := by first | (rw [hy150]; exact H) | exact H
         have Ny150 := ak_ hy150
         clear hy150
         have H' := ak_ H
         clear H
         try go_wp2
         have n0_ := ak_ (Kd.R_drew HO_150000.out)
         have n1_ := ak_ (k1_ BK145.out)
         have n2_ := ak_ (k1_ BK149.out)
         have n3_ := ak_ (b1_ HB.out)
         clear HO_150000 BK145 BK149 HB
         have HO_150000 := n0_; have BK145 := n1_; have BK149 := n2_; have HB := n3_
         clear n0_ n1_ n2_ n3_
         have p25 : 0 ≤ (x17_1 : Int) := odt_ (by assumption)
         have q25 : (x17_1 : Int) < ((x150000_1.length : Int) : Int) := odt_ (by assumption)
         obtain ⟨go25, co25, eo25, gb25, gl25, cl25, HG25⟩ := Kd.R_form HO_150000.out (by omega)
         (first | cases eo25 | (injection eo25 with ea_ en_ ec_; (first | subst ea_ | (injection ea_ with ea_; subst ea_)); subst ec_; clear en_))
         have GB25 := ak_ gb25
         have GG25 := ak_ HG25
         clear gb25 gl25 HG25
         obtain ⟨hx25_0, hf25_0⟩ := Kd.R_celln false HO_150000.out (x17_1 : Int) p25 q25
         replace p25 := eq_true p25
         replace q25 := eq_true q25
         have HP27 := Kd.R_putn HO_150000.out (x17_1 : Int) ((Go.bits .and .i64 (ji22) 1) == 1)
         rw [← Ny150.out] at HP27
         have HQ27 := ak_ HP27
         clear HP27
         refine start_ (n := 13) (S := fun w' => w'.cell? ⟨gb149, 0, none⟩ = some (.slice (some ⟨go25, 0, none⟩) x150000_1.length co25) ∧ w'.cell? ⟨gb149, 1, none⟩ = some (.bool ((ji6) == 1))) (ds := [12]) (mb_ 13 0) (by kernel_rfl) rfl rfl ⟨(blk_cell BK149.out 0).trans rfl, (blk_cell BK149.out 1).trans rfl⟩ (fun hHeld => ?_); refine with_tabW spec_seState.tab5 spec_seState.bits5 (fun HT_ HW_ => ?_)
         generalize wr.drew = w26 at HO_150000 BK145 BK149 HB GG25 HQ27 hf25_0 hx25_0 hHeld ⊢
         refine pu_ 0 20 13 1 ?_
         refine pu_ 2 22 13 5 ?_
         refine pu_ 3 23 13 13 ?_
         refine pu_ 4 24 13 29 ?_
         refine pu_ 5 25 13 61 ?_
         refine pu_ 6 26 13 125 ?_
         refine pu_ 7 27 13 253 ?_
         refine pu_ 8 28 13 509 ?_
         refine pu_ 9 29 13 1021 ?_
         refine pu_ 10 30 13 2045 ?_
         refine tk_ 1 21 13 2047 ?_ (hy := by rintro w' ⟨s0, s1⟩; go_simp; with_reducible rfl)
         refine pu_ 11 31 13 4095 ?_
         refine last_ (i := 12) (N := none) (mb_ 13 8191) rfl rfl (one_of HT_.out (by kernel_rfl)) (by decide) (fun K hK => ?_)
         refine skip_ (w1 := ?_) (by rfl) rfl ?_ ?_
         rotate_left
         ·
          go_simp
          rfl
         refine hK.out _ _ ?_
         clear hK K
         refine done_ (done_of HT_.out (by kernel_rfl)) ?_
         try go_wp2
         go_roundg k1
         case measure => have := HK1.out; omega
         case rel => exact ⟨(wrap64 (x17_1 + 1)), (y150), (.slice (some ⟨go25, 0, none⟩) x150000_1.length co25), (ry_), H', ⟨by have := HK1.out; omega⟩, ⟨Kd.pR HQ27.out⟩, ⟨by (with_reducible repeat (first | refine kN_ ?_ _ | refine k1_ ?_ | refine ka_ ?_ _)); refine blk_far ?_ (by have h_ := Kd.R_ne HO_150000.out BK145.out (by decide); intro e_; exact h_ (by rw [e_]; rfl)) _; exact pk BK145.out⟩, ⟨by (with_reducible repeat (first | refine kN_ ?_ _ | refine k1_ ?_ | refine ka_ ?_ _)); refine blk_far ?_ (by have h_ := Kd.R_ne HO_150000.out BK149.out (by decide); intro e_; exact h_ (by rw [e_]; rfl)) _; exact pk BK149.out⟩, ⟨by repeat (first | exact HB.out | apply ba_ | apply bN_ | apply b1_ | refine below_set ?_ GB25.out | refine below_set ?_ (Aside0.out (by assumption)))⟩⟩
        ·
         rw [if_neg c24] at H
         exact absurd H (by simp)
       ·
        rw [if_neg c23] at H
        exact absurd H (by simp)
      ·
       rw [if_neg c21] at H
       exact absurd H (by simp)
     ·
      rw [if_neg c19] at H
      have c19b0 : decide (x17_1 < (y146.length : Int)) = false := decide_eq_false c19
      clear c19
      simp only [Option.some.injEq, Prod.mk.injEq] at H
      obtain ⟨rfl, rfl⟩ := H
      have hnb28 := NB149_145.out
      have hnc28 := NB145_149.out
      have hcz29_0 : wr.cell? ⟨gb149, 0, none⟩ = some (u150000) := (blk_cell BK149.out 0).trans rfl
      have hcz29_1 : wr.cell? ⟨gb149, 1, none⟩ = some (.bool ((ji6) == 1)) := (blk_cell BK149.out 1).trans rfl
      have hfz29_0 := blk_frozen BK149.out 0
      have hfz29_1 := blk_frozen BK149.out 1
      obtain ⟨Ao30, co30, eo30⟩ := Kd.R_slice HO_150000.out
      subst eo30
      have hcz31_0 : wr.cell? ⟨gb145, 0, none⟩ = some (.slice none 0 0) := (blk_cell BK145.out 0).trans rfl
      have hcz31_1 : wr.cell? ⟨gb145, 1, none⟩ = some (.bool false) := (blk_cell BK145.out 1).trans rfl
      have hfz31_0 := blk_frozen BK145.out 0
      have hfz31_1 := blk_frozen BK145.out 1
      go_wp2
      refine bodyPost_ret (results_cell_row rfl _ _ gb145 115 #[.slice Ao30 x150000_1.length co30, .bool ((ji6) == 1)] (0, 0) _ rfl (by (with_reducible repeat (first | refine kN_ ?_ _ | refine k1_ ?_ | refine ka_ ?_ _)); refine blk_put (cs := #[.slice Ao30 x150000_1.length co30, .bool false]) ?_ 1 _ rfl; (with_reducible repeat (first | refine kN_ ?_ _ | refine k1_ ?_ | refine ka_ ?_ _)); refine blk_put (cs := #[.slice none 0 0, .bool false]) ?_ 0 _ rfl; exact pk BK145.out) Try.underlying115 rfl (by kernel_rfl)) rfl ?_
      exact ⟨_, by first | rfl | (simp [errW_none, errW_some] <;> rfl) | (simp only [← hji6]; first | rfl | (simp [errW_none, errW_some] <;> rfl)) | (simp [*, errW_none, errW_some] <;> rfl), by (with_reducible repeat (first | apply Kd.R_alloc | apply Kd.R_drewN | apply Kd.R_drew)); exact Kd.R_mono (Kd.R_far (p := ⟨gb145, 1, none⟩) (Kd.R_far (p := ⟨gb145, 0, none⟩) (Kd.R_types HO_150000.out BK145.out (by decide)) (fun _ hk => hk.2) (.slice Ao30 x150000_1.length co30)) (fun _ hk => hk.2) (.bool ((ji6) == 1))) (fun _ hk => trivial), by repeat (first | exact HB.out | apply ba_ | apply bN_ | apply b1_ | refine below_set ?_ (Aside0.out (by assumption)))⟩
  ·
   rw [if_neg c4] at H
   exact absurd H (by simp)
 ·
  rw [if_neg c3] at H
  exact absurd H (by simp)
end Go.Proofs.Ythkchdfkeieabaa.QGr
