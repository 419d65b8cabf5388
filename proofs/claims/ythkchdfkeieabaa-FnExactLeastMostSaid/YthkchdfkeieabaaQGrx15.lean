/- Contracts of functions of the given program, walked: each call returns what its Lean function says. Conditions: those that stand at each theorem. (Written by a program of this session.) -/
import Derived.Test.YthkchdfkeieabaaQGrx0
namespace Go.Proofs.Ythkchdfkeieabaa.QGr
open Go.RowKit Go.Proofs.YthkchdfkeieabaaW.PrintWords Go.Proofs.YthkchdfkeieabaaW.PrintLast Go.Proofs.YthkchdfkeieabaaW.PrintMore
open List (setIfInBounds_toArray set_cons_zero set_cons_succ map_toArray map_cons map_nil)
attribute [local go_sem] max2_int min2_int max_two min_two max_three min_three max_four min_four
set_option linter.unusedVariables false
set_option maxHeartbeats 8000000
set_option maxRecDepth 100000
set_option linter.unusedSimpArgs false
def impl_stateOf.l0 : Nat → Int → Int → Int → List Bool → Bool → Option (List Bool × Bool)
 | 0, _, _, _, _, _ => none
 | k + 1, x1, x17, x18, x419000, x419001 => if x18 < x17 then (if 0 ≤ x18 then (if x18 < (x419000.length : Int) then (impl_stateOf.l0 k x1 x17 (wrap64 (x18 + 1)) (x419000.set (x18 : Int).toNat ((Go.bits .and .i64 (shr .i64 x1 x18) 1) == 1)) x419001) else (none)) else (none)) else (some (x419000, x419001))
def impl_stateOf.f (k : Nat) (a0 : Int) (a1 : Int) : Option (List Bool × Bool) := if 0 ≤ a0 then (if (a0 : Int).toNat ≤ 281474976710656 then ((some (List.replicate (a0 : Int).toNat false : List Bool)).bind fun y415 => (impl_stateOf.l0 k a1 (y415.length : Int) 0 y415 ((Go.bits .and .i64 (shr .i64 a1 a0) 1) == 1))) else (none)) else (none)
theorem impl_stateOf.mono_l : ∀ k, (∀ y0 y1 y2 y3 y4, LeO (impl_stateOf.l0 k y0 y1 y2 y3 y4) (impl_stateOf.l0 (k + 1) y0 y1 y2 y3 y4))
 | 0 => fun _ _ _ _ _ r h => by simp [impl_stateOf.l0] at h
 | k + 1 => by
  have ih0 := impl_stateOf.mono_l k
  ·intro y0 y1 y2 y3 y4
   unfold impl_stateOf.l0
   repeat' first
   | (with_reducible first | exact ih0 _ _ _ _ _ | exact LeO.refl _ | exact LeO.none _ | refine LeO.ite ?_ ?_ | refine LeO.bind ?_ (fun _ => ?_))
   | exact ih0 _ _ _ _ _
   | exact LeO.none _
   | refine LeO.ite ?_ ?_
   | refine LeO.bind ?_ (fun _ => ?_)
theorem impl_stateOf.mono : ∀ a0 a1 k, LeO (impl_stateOf.f k a0 a1) (impl_stateOf.f (k + 1) a0 a1) := by
 intro a0 a1 k
 have ih0 := impl_stateOf.mono_l k
 unfold impl_stateOf.f
 repeat' first
  | (with_reducible first | exact ih0 _ _ _ _ _ | exact LeO.refl _ | exact LeO.none _ | refine LeO.ite ?_ ?_ | refine LeO.bind ?_ (fun _ => ?_))
  | exact ih0 _ _ _ _ _
  | exact LeO.none _
  | refine LeO.ite ?_ ?_
  | refine LeO.bind ?_ (fun _ => ?_)
def impl_stateOf.T1 : Bool × List (List Nat × List Nat) := (true, [([], []), ([0, 0], [0]), ([], []), ([], []), ([2, 3], [2, 3]), ([4], [4]), ([5], [5]), ([1, 6], [1, 6]), ([], []), ([8, 7, 0, 1, 2, 3, 4, 5, 6, 7, 8], [7, 8])])
def impl_stateOf.B1 : List Nat := [0, 1, 0, 0, 12, 28, 60, 127, 0, 511]
theorem impl_stateOf.tab1 : rtab .any (opsOf Try.f123 1) = impl_stateOf.T1 := by kernel_rfl
theorem impl_stateOf.bits1 : waitsOk impl_stateOf.T1.2 impl_stateOf.B1 = true := by kernel_rfl
def impl_stateOf.T5 : Bool × List (List Nat × List Nat) := (true, [([], []), ([0], [0]), ([], []), ([], []), ([], []), ([3, 4], [3, 4]), ([5], [5]), ([6], [6]), ([1, 2, 0, 1, 2, 3, 4, 5, 6, 7], [1, 2]), ([8, 7, 0, 1, 2, 3, 4, 5, 6, 7], [7, 8])])
def impl_stateOf.B5 : List Nat := [0, 1, 0, 0, 0, 24, 56, 120, 255, 511]
theorem impl_stateOf.tab5 : rtab .any (opsOf Try.f123 5) = impl_stateOf.T5 := by kernel_rfl
theorem impl_stateOf.bits5 : waitsOk impl_stateOf.T5.2 impl_stateOf.B5 = true := by kernel_rfl
theorem impl_stateOf.calls (k : Nat) (a0 : Int) (a1 : Int) (r1 : List Bool) (r2 : Bool) (w : World) (h : impl_stateOf.f k a0 a1 = some (r1, r2)) :
  Calls Try.prog 123 #[.int .i64 a0, .int .i64 a1] w fun e w' => ∃ v0_ : Value, e = .returned (.agg #[v0_, .bool r2]) ∧ Kd.R Kd.bool 4 w' w.heap.size (fun _ => True) v0_ r1 ∧ Below w.heap.size w w' := by
 have hu115 := Try.underlying115
 have HB := ak_ (Below.refl w.heap.size w)
 have H : (if 0 ≤ a0 then (if (a0 : Int).toNat ≤ 281474976710656 then ((some (List.replicate (a0 : Int).toNat false : List Bool)).bind fun y415 => (impl_stateOf.l0 k a1 (y415.length : Int) 0 y415 ((Go.bits .and .i64 (shr .i64 a1 a0) 1) == 1))) else (none)) else (none)) = some (r1, r2) := h
 clear h
 by_cases c3 : 0 ≤ a0
 ·
  rw [if_pos c3] at H
  have c3b0 := eq_true c3
  have c3b1 : decide (0 ≤ a0) = true := decide_eq_true c3
  clear c3
  by_cases c4 : (a0 : Int).toNat ≤ 281474976710656
  ·
   rw [if_pos c4] at H
   have c4b0 := eq_true c4
   have c4b1 : decide ((a0 : Int).toNat ≤ 281474976710656) = true := decide_eq_true c4
   clear c4
   obtain ⟨y415, hy415⟩ : ∃ y_ : List Bool, y_ = (List.replicate (a0 : Int).toNat false) := ⟨_, rfl⟩
   replace H : (impl_stateOf.l0 k a1 (y415.length : Int) 0 y415 ((Go.bits .and .i64 (shr .i64 a1 a0) 1) == 1)) = some (r1, r2) := by first | (rw [hy415]; exact H) | exact H
   have Ny415 := ak_ hy415
   clear hy415
   have c5b0 := eq_true (odt_ (by assumption) : 0 ≤ a0)
   obtain ⟨ji6, hji6⟩ : ∃ j_ : Int, (shr .i64 a1 a0) = j_ := ⟨_, rfl⟩
   replace H : (impl_stateOf.l0 k a1 (y415.length : Int) 0 y415 ((Go.bits .and .i64 (ji6) 1) == 1)) = some (r1, r2) := by first | (rw [hji6] at H; exact H) | (simp only [hji6] at H ⊢; exact H)
   have hji6_ : (a1 / 2 ^ min a0.toNat 64) = ji6 := hji6
   have hji6z : a0 ≤ 64 → (a1 / 2 ^ a0.toNat) = ji6 := shr_small hji6
   have H' := ak_ H
   clear H
   go_enter Try.func123, Try.ntmps123
   try go_wp2_with (first | ((with_reducible refine gate_dst (N := 4) rfl ?_); refine bx_ 4 #[.slice none 0 0, .bool false] 115 ?_; intro gb414 hg w7 hbox hb; have n0_ := ak_ (bs_ (bb_ HB.out) hb); have n1_ := ak_ (hbox); have n2_ := ak_ ((by rw [hg]; exact (bz_ (bb_ HB.out)) : w.heap.size ≤ gb414)); have n3_ := n2_; clear HB; have HB := n0_; have BK414 := n1_; have GW414 := n2_; have GE414 := n3_; clear n0_ n1_ n2_ n3_; clear hb hbox hg))
   have n0_ := ak_ (k1_ BK414.out)
   have n1_ := ak_ (b1_ HB.out)
   clear BK414 HB
   have BK414 := n0_; have HB := n1_
   clear n0_ n1_
   refine start_ (n := 10) (S := fun w' => True) (ds := []) (mb_ 10 0) (by kernel_rfl) rfl rfl trivial (fun hHeld => ?_); refine with_tabW impl_stateOf.tab1 impl_stateOf.bits1 (fun HT_ HW_ => ?_)
   generalize w7.drew = w8 at BK414 HB hHeld ⊢
   refine pu_ 0 7 10 1 ?_
   refine pu_ 2 9 10 5 ?_
   refine pu_ 3 10 10 13 ?_
   refine pu_ 4 11 10 29 ?_
   refine pu_ 5 12 10 61 ?_
   refine pu_ 6 13 10 125 ?_
   refine join_ (σ := Value × Nat) 1 (mb_ 10 511) (fun s_ => [(8, s_.1), (5, .pointer (some ⟨s_.2, 0, none⟩)), (14, .agg #[s_.1, .bool ((Go.bits .and .i64 (ji6) 1) == 1)])]) (fun s_ w' => (Kd.R Kd.bool 4 w' w.heap.size (fun _ => True) s_.1 y415) ∧ (w'.heap[gb414]? = some (.cells #[.slice none 0 0, .bool false] 115 (0, 0))) ∧ (w'.heap[s_.2]? = some (.cells #[.slice none 0 0, .bool false] 115 (0, 0))) ∧ (w.heap.size ≤ s_.2) ∧ (w.heap.size ≤ s_.2) ∧ (gb414 ≠ s_.2) ∧ (s_.2 ≠ gb414) ∧ (Below w.heap.size w w')) ?_ ?_
   rotate_left
   ·
    intro hCont
    refine two_ (i := 1) (j := 8) (Ni := some 8) (Nj := some 5) (mb_ 10 127) (mb_ 10 381) rfl rfl rfl rfl (two_of HT_.out (by kernel_rfl)) (by decide) (by decide) (fun K hK => ?_) (fun K hK => ?_)
    ·
     skip
     refine Kd.R_make_step Kd.bool _ 4 (by rfl) (N := 8) rfl 38 _ _ rfl a0 rfl rfl Try.underlying38 (.bool false) 1 info4 rfl (by decide) (by omega) false (ok := fun _ => True) (okp := fun _ => True) rfl (fun _ hk => hk) trivial (odt_ (by assumption)) (Nat.le_trans (Nat.mul_le_mul_right _ (odt_ (by assumption) : a0.toNat ≤ 281474976710656)) (by omega)) (Below.refl _ _) (Nat.le_refl _) ?_
     intro v416 w9 ho10 hb hg_ hnew_
     clear hg_ hnew_
     (first | rw [← Ny415.out] at ho10 | (simp only [Int.reduceToNat] at ho10; rw [← Ny415.out] at ho10))
     have n0_ := ak_ (Kd.R_lower ho10 (bz_ bl_))
     have n1_ := ak_ (blk_below (pk BK414.out) hb)
     have n2_ := ak_ (bs_ bl_ hb)
     clear BK414 HB
     have HO417 := n0_; have BK414 := n1_; have HB := n2_
     clear n0_ n1_ n2_ hb ho10
     obtain ⟨Ao11, co11, eo11⟩ := Kd.R_slice HO417.out
     (first | subst eo11 | (injection eo11 with f1_ f2_ f3_; have f4_ := f1_.symm; have f5_ := f3_.symm; clear f1_ f2_ f3_; subst f4_; subst f5_))
     refine hK.out _ _ trivial (fun hHeld => ?_)
     clear hK K
     refine nm_ ?_
     refine pu_ 7 14 10 255 ?_
     refine on_ 8 5 10 511 (fun K hK => ?_)
     refine box_step ?hg (N := 5) ?hd (cs := #[.slice none 0 0, .bool false]) (t := 115) ?hr ?_; (case hd => rfl); (case hg => rfl); (case hr => go_simp <;> rfl)
     intro gb418 hg w12 hbox hb
     have n0_ := ak_ (Kd.R_below (Kd.pR HO417.out) hb)
     have n1_ := ak_ (blk_below (pk BK414.out) hb)
     have n2_ := ak_ (bs_ bl_ hb)
     have n3_ := ak_ (hbox)
     have n4_ := ak_ ((by rw [hg]; exact (bz_ bl_) : w.heap.size ≤ gb418))
     have n5_ := n4_
     have n6_ := ak_ ((by rw [hg]; exact Nat.ne_of_lt (blk_lt (pk BK414.out)) : gb414 ≠ gb418))
     have n7_ := ak_ n6_.out.symm
     clear HO417 BK414 HB
     have HO417 := n0_; have BK414 := n1_; have HB := n2_; have BK418 := n3_; have GW418 := n4_; have GE418 := n5_; have NB414_418 := n6_; have NB418_414 := n7_
     clear n0_ n1_ n2_ n3_ n4_ n5_ n6_ n7_ hb hbox hg
     refine hK.out _ _ trivial (fun hHeld => ?_)
     clear hK K
     refine nm_ ?_
     exact norm_ (by simp only [putAll, Act.put, setIfInBounds_toArray, set_cons_zero, set_cons_succ]) (hCont (.slice Ao11 y415.length co11, gb418) _ ⟨(Kd.pR HO417.out), (pk BK414.out), (pk BK418.out), GW418.out, GE418.out, NB414_418.out, NB418_414.out, bl_⟩)
    ·
     skip
     refine box_step ?hg (N := 5) ?hd (cs := #[.slice none 0 0, .bool false]) (t := 115) ?hr ?_; (case hd => rfl); (case hg => rfl); (case hr => go_simp <;> rfl)
     intro gb418 hg w9 hbox hb
     have n0_ := ak_ (blk_below (pk BK414.out) hb)
     have n1_ := ak_ (bs_ bl_ hb)
     have n2_ := ak_ (hbox)
     have n3_ := ak_ ((by rw [hg]; exact (bz_ bl_) : w.heap.size ≤ gb418))
     have n4_ := n3_
     have n5_ := ak_ ((by rw [hg]; exact Nat.ne_of_lt (blk_lt (pk BK414.out)) : gb414 ≠ gb418))
     have n6_ := ak_ n5_.out.symm
     clear BK414 HB
     have BK414 := n0_; have HB := n1_; have BK418 := n2_; have GW418 := n3_; have GE418 := n4_; have NB414_418 := n5_; have NB418_414 := n6_
     clear n0_ n1_ n2_ n3_ n4_ n5_ n6_ hb hbox hg
     refine hK.out _ _ trivial (fun hHeld => ?_)
     clear hK K
     refine nm_ ?_
     refine on_ 1 8 10 383 (fun K hK => ?_)
     refine Kd.R_make_step Kd.bool _ 4 (by rfl) (N := 8) rfl 38 _ _ rfl a0 rfl rfl Try.underlying38 (.bool false) 1 info4 rfl (by decide) (by omega) false (ok := fun _ => True) (okp := fun _ => True) rfl (fun _ hk => hk) trivial (odt_ (by assumption)) (Nat.le_trans (Nat.mul_le_mul_right _ (odt_ (by assumption) : a0.toNat ≤ 281474976710656)) (by omega)) (Below.refl _ _) (Nat.le_refl _) ?_
     intro v416 w10 ho11 hb hg_ hnew_
     clear hg_ hnew_
     (first | rw [← Ny415.out] at ho11 | (simp only [Int.reduceToNat] at ho11; rw [← Ny415.out] at ho11))
     have n0_ := ak_ (Kd.R_lower ho11 (bz_ bl_))
     have n1_ := ak_ (blk_below (pk BK414.out) hb)
     have n2_ := ak_ (blk_below (pk BK418.out) hb)
     have n3_ := ak_ (bs_ bl_ hb)
     clear BK414 BK418 HB
     have HO417 := n0_; have BK414 := n1_; have BK418 := n2_; have HB := n3_
     clear n0_ n1_ n2_ n3_ hb ho11
     obtain ⟨Ao12, co12, eo12⟩ := Kd.R_slice HO417.out
     (first | subst eo12 | (injection eo12 with f1_ f2_ f3_; have f4_ := f1_.symm; have f5_ := f3_.symm; clear f1_ f2_ f3_; subst f4_; subst f5_))
     refine hK.out _ _ trivial (fun hHeld => ?_)
     clear hK K
     refine nm_ ?_
     refine pu_ 7 14 10 511 ?_
     exact norm_ (by simp only [putAll, Act.put, setIfInBounds_toArray, set_cons_zero, set_cons_succ]) (hCont (.slice Ao12 y415.length co12, gb418) _ ⟨(Kd.pR HO417.out), (pk BK414.out), (pk BK418.out), GW418.out, GE418.out, NB414_418.out, NB418_414.out, bl_⟩)
   rintro ⟨v416, gb418⟩ w13 ⟨h0_, h1_, h2_, h3_, h4_, h5_, h6_, h7_⟩
   have n0_ : Aside0 (Kd.R Kd.bool 4 w13 w.heap.size (fun _ => True) v416 y415) := ⟨h0_⟩
   have n1_ : Aside0 (w13.heap[gb414]? = some (.cells #[.slice none 0 0, .bool false] 115 (0, 0))) := ⟨h1_⟩
   have n2_ : Aside0 (w13.heap[gb418]? = some (.cells #[.slice none 0 0, .bool false] 115 (0, 0))) := ⟨h2_⟩
   have n3_ : Aside0 (w.heap.size ≤ gb418) := ⟨h3_⟩
   have n4_ : Aside0 (w.heap.size ≤ gb418) := ⟨h4_⟩
   have n5_ : Aside0 (gb414 ≠ gb418) := ⟨h5_⟩
   have n6_ : Aside0 (gb418 ≠ gb414) := ⟨h6_⟩
   have n7_ : Aside0 (Below w.heap.size w w13) := ⟨h7_⟩
   clear BK414 HB h0_ h1_ h2_ h3_ h4_ h5_ h6_ h7_
   have HO417 := n0_; have BK414 := n1_; have BK418 := n2_; have GW418 := n3_; have GE418 := n4_; have NB414_418 := n5_; have NB418_414 := n6_; have HB := n7_
   clear n0_ n1_ n2_ n3_ n4_ n5_ n6_ n7_
   have hHeld := trivial
   obtain ⟨Ao14, co14, eo14⟩ := Kd.R_slice HO417.out
   (first | subst eo14 | (injection eo14 with f1_ f2_ f3_; have f4_ := f1_.symm; have f5_ := f3_.symm; clear f1_ f2_ f3_; subst f4_; subst f5_))
   refine norm_ (a' := ?_) ?_ ?_
   rotate_left
   ·
    simp only [putAll, Act.put, setIfInBounds_toArray, set_cons_zero, set_cons_succ]
    rfl
   refine one_ (i := 9) (N := none) (mb_ 10 1023) rfl rfl (one_of HT_.out (by kernel_rfl)) (by decide) (fun K hK => ?_)
   have hs15 : w13.cell? ⟨gb418, 0, none⟩ = some (.slice none 0 0) := (blk_cell BK418.out 0).trans rfl
   have hfs15 := blk_frozen BK418.out 0
   have hns15_0 := NB414_418.out
   have hms15_0 := NB418_414.out
   have hs16 : w13.cell? ⟨gb418, 1, none⟩ = some (.bool false) := (blk_cell BK418.out 1).trans rfl
   have hfs16 := blk_frozen BK418.out 1
   have hns16_0 := NB414_418.out
   have hms16_0 := NB418_414.out
   refine skip_ (w1 := ?_) (by rfl) rfl ?_ ?_
   rotate_left
   ·
    go_simp
    rfl
   refine hK.out _ _ trivial (fun hHeld => ?_)
   clear hK K
   refine done_ (done_of HT_.out (by kernel_rfl)) ?_
   have hnb17 := NB418_414.out
   have hnc17 := NB414_418.out
   have hcz18_0 : w13.cell? ⟨gb418, 0, none⟩ = some (.slice none 0 0) := (blk_cell BK418.out 0).trans rfl
   have hcz18_1 : w13.cell? ⟨gb418, 1, none⟩ = some (.bool false) := (blk_cell BK418.out 1).trans rfl
   have hfz18_0 := blk_frozen BK418.out 0
   have hfz18_1 := blk_frozen BK418.out 1
   try go_wp2
   go_loopg [18] k (fun kq v18 w' => ∃ (x18_1 : Int) (x419000_1 : List Bool) (u419000 : Value), v18 = .int .i64 x18_1 ∧ Aside0 (impl_stateOf.l0 kq a1 (y415.length : Int) x18_1 x419000_1 ((Go.bits .and .i64 (ji6) 1) == 1) = some (r1, r2)) ∧ Aside0 (kq ≤ k) ∧ Aside0 (Kd.R Kd.bool 4 w' w.heap.size (fun _ => True) u419000 x419000_1) ∧ Aside0 (w'.heap[gb414]? = some (.cells #[(.slice none 0 0), .bool false] 115 (0, 0))) ∧ Aside0 (w'.heap[gb418]? = some (.cells #[u419000, .bool ((Go.bits .and .i64 (ji6) 1) == 1)] 115 (0, 0))) ∧ Aside0 (Below w.heap.size w w'))
   case atStart => exact ⟨(0), (y415), (.slice Ao14 y415.length co14), (ry_), H', ⟨Nat.le_refl _⟩, ⟨by (with_reducible repeat (first | apply Kd.R_alloc | apply Kd.R_drewN | apply Kd.R_drew)); exact Kd.R_mono (Kd.R_far (p := ⟨gb418, 1, none⟩) (Kd.R_far (p := ⟨gb418, 0, none⟩) (Kd.R_types HO417.out BK418.out (by decide)) (fun _ hk => hk.2) (.slice Ao14 y415.length co14)) (fun _ hk => hk.2) (.bool ((Go.bits .and .i64 (ji6) 1) == 1))) (fun _ hk => trivial)⟩, ⟨by (with_reducible repeat (first | refine kN_ ?_ _ | refine k1_ ?_ | refine ka_ ?_ _)); refine blk_far ?_ NB414_418.out _; (with_reducible repeat (first | refine kN_ ?_ _ | refine k1_ ?_ | refine ka_ ?_ _)); refine blk_far ?_ NB414_418.out _; exact pk BK414.out⟩, ⟨by (with_reducible repeat (first | refine kN_ ?_ _ | refine k1_ ?_ | refine ka_ ?_ _)); refine blk_put (cs := #[.slice Ao14 y415.length co14, .bool false]) ?_ 1 _ rfl; (with_reducible repeat (first | refine kN_ ?_ _ | refine k1_ ?_ | refine ka_ ?_ _)); refine blk_put (cs := #[.slice none 0 0, .bool false]) ?_ 0 _ rfl; exact pk BK418.out⟩, ⟨by repeat (first | exact HB.out | apply ba_ | apply bN_ | apply b1_ | refine below_set ?_ (Aside0.out (by assumption)))⟩⟩
   case round =>
    clear H'
    try clear c1
    try clear p2
    try clear c3
    try clear c3b0
    try clear c3b1
    try clear c4
    try clear c4b0
    try clear c4b1
    try clear c5
    try clear c5b0
    try clear c12
    try clear c17
    try clear hcz18_0
    try clear hcz18_1
    try clear hfz18_0
    try clear hfz18_1
    obtain ⟨x18_1, x419000_1, u419000, rfl, HA, HK1, HO_419000, BK414, BK418, HB⟩ := hrel
    cases gk with
    | zero => exact absurd HA.out (by simp [impl_stateOf.l0])
    | succ k1 =>
     have H := HA.out
     clear HA
     simp only [impl_stateOf.l0] at H
     by_cases c19 : x18_1 < (y415.length : Int)
     ·
      rw [if_pos c19] at H
      have c19b0 : decide (x18_1 < (y415.length : Int)) = true := decide_eq_true c19
      clear c19
      by_cases c20 : 0 ≤ x18_1
      ·
       rw [if_pos c20] at H
       have c20b0 := eq_true c20
       have c20b1 : decide (0 ≤ x18_1) = true := decide_eq_true c20
       clear c20
       obtain ⟨ji21, hji21⟩ : ∃ j_ : Int, (shr .i64 a1 x18_1) = j_ := ⟨_, rfl⟩
       replace H : (if x18_1 < (x419000_1.length : Int) then (impl_stateOf.l0 k1 a1 (y415.length : Int) (wrap64 (x18_1 + 1)) (x419000_1.set (x18_1 : Int).toNat ((Go.bits .and .i64 (ji21) 1) == 1)) ((Go.bits .and .i64 (ji6) 1) == 1)) else (none)) = some (r1, r2) := by first | (rw [hji21] at H; exact H) | (simp only [hji21] at H ⊢; exact H)
       have hji21_ : (a1 / 2 ^ min x18_1.toNat 64) = ji21 := hji21
       have hji21z : x18_1 ≤ 64 → (a1 / 2 ^ x18_1.toNat) = ji21 := shr_small hji21
       by_cases c22 : x18_1 < (x419000_1.length : Int)
       ·
        rw [if_pos c22] at H
        have c22b0 : decide (x18_1 < (x419000_1.length : Int)) = true := decide_eq_true c22
        clear c22
        obtain ⟨y419, hy419⟩ : ∃ y_ : List Bool, y_ = (x419000_1.set (x18_1 : Int).toNat ((Go.bits .and .i64 (ji21) 1) == 1)) := ⟨_, rfl⟩
        replace H : (impl_stateOf.l0 k1 a1 (y415.length : Int) (wrap64 (x18_1 + 1)) y419 ((Go.bits .and .i64 (ji6) 1) == 1)) = some (r1, r2) := by first | (rw [hy419]; exact H) | exact H
        have Ny419 := ak_ hy419
        clear hy419
        have H' := ak_ H
        clear H
        try go_wp2
        have n0_ := ak_ (Kd.R_drew HO_419000.out)
        have n1_ := ak_ (k1_ BK414.out)
        have n2_ := ak_ (k1_ BK418.out)
        have n3_ := ak_ (b1_ HB.out)
        clear HO_419000 BK414 BK418 HB
        have HO_419000 := n0_; have BK414 := n1_; have BK418 := n2_; have HB := n3_
        clear n0_ n1_ n2_ n3_
        have p23 : 0 ≤ (x18_1 : Int) := odt_ (by assumption)
        have q23 : (x18_1 : Int) < ((x419000_1.length : Int) : Int) := odt_ (by assumption)
        obtain ⟨go23, co23, eo23, gb23, gl23, cl23, HG23⟩ := Kd.R_form HO_419000.out (by omega)
        (first | cases eo23 | (injection eo23 with ea_ en_ ec_; (first | subst ea_ | (injection ea_ with ea_; subst ea_)); subst ec_; clear en_))
        have GB23 := ak_ gb23
        have GG23 := ak_ HG23
        clear gb23 gl23 HG23
        obtain ⟨hx23_0, hf23_0⟩ := Kd.R_celln false HO_419000.out (x18_1 : Int) p23 q23
        replace p23 := eq_true p23
        replace q23 := eq_true q23
        have HP25 := Kd.R_putn HO_419000.out (x18_1 : Int) ((Go.bits .and .i64 (ji21) 1) == 1)
        rw [← Ny419.out] at HP25
        have HQ25 := ak_ HP25
        clear HP25
        refine start_ (n := 10) (S := fun w' => w'.cell? ⟨gb418, 0, none⟩ = some (.slice (some ⟨go23, 0, none⟩) x419000_1.length co23) ∧ w'.cell? ⟨gb418, 1, none⟩ = some (.bool ((Go.bits .and .i64 (ji6) 1) == 1))) (ds := [9]) (mb_ 10 0) (by kernel_rfl) rfl rfl ⟨(blk_cell BK418.out 0).trans rfl, (blk_cell BK418.out 1).trans rfl⟩ (fun hHeld => ?_); refine with_tabW impl_stateOf.tab5 impl_stateOf.bits5 (fun HT_ HW_ => ?_)
        generalize wr.drew = w24 at HO_419000 BK414 BK418 HB GG23 HQ25 hf23_0 hx23_0 hHeld ⊢
        refine pu_ 0 21 10 1 ?_
        refine pu_ 2 23 10 5 ?_
        refine pu_ 3 24 10 13 ?_
        refine pu_ 4 25 10 29 ?_
        refine pu_ 5 26 10 61 ?_
        refine pu_ 6 27 10 125 ?_
        refine pu_ 7 28 10 253 ?_
        refine tk_ 1 22 10 255 ?_ (hy := by rintro w' ⟨s0, s1⟩; go_simp; with_reducible rfl)
        refine pu_ 8 29 10 511 ?_
        refine last_ (i := 9) (N := none) (mb_ 10 1023) rfl rfl (one_of HT_.out (by kernel_rfl)) (by decide) (fun K hK => ?_)
        refine skip_ (w1 := ?_) (by rfl) rfl ?_ ?_
        rotate_left
        ·
         go_simp
         rfl
        refine hK.out _ _ ?_
        clear hK K
        refine done_ (done_of HT_.out (by kernel_rfl)) ?_
        try go_wp2
        go_roundg k1
        case measure => have := HK1.out; omega
        case rel => exact ⟨(wrap64 (x18_1 + 1)), (y419), (.slice (some ⟨go23, 0, none⟩) x419000_1.length co23), (ry_), H', ⟨by have := HK1.out; omega⟩, ⟨Kd.pR HQ25.out⟩, ⟨by (with_reducible repeat (first | refine kN_ ?_ _ | refine k1_ ?_ | refine ka_ ?_ _)); refine blk_far ?_ (by have h_ := Kd.R_ne HO_419000.out BK414.out (by decide); intro e_; exact h_ (by rw [e_]; rfl)) _; exact pk BK414.out⟩, ⟨by (with_reducible repeat (first | refine kN_ ?_ _ | refine k1_ ?_ | refine ka_ ?_ _)); refine blk_far ?_ (by have h_ := Kd.R_ne HO_419000.out BK418.out (by decide); intro e_; exact h_ (by rw [e_]; rfl)) _; exact pk BK418.out⟩, ⟨by repeat (first | exact HB.out | apply ba_ | apply bN_ | apply b1_ | refine below_set ?_ GB23.out | refine below_set ?_ (Aside0.out (by assumption)))⟩⟩
       ·
        rw [if_neg c22] at H
        exact absurd H (by simp)
      ·
       rw [if_neg c20] at H
       exact absurd H (by simp)
     ·
      rw [if_neg c19] at H
      have c19b0 : decide (x18_1 < (y415.length : Int)) = false := decide_eq_false c19
      clear c19
      simp only [Option.some.injEq, Prod.mk.injEq] at H
      obtain ⟨rfl, rfl⟩ := H
      have hnb26 := NB418_414.out
      have hnc26 := NB414_418.out
      have hcz27_0 : wr.cell? ⟨gb418, 0, none⟩ = some (u419000) := (blk_cell BK418.out 0).trans rfl
      have hcz27_1 : wr.cell? ⟨gb418, 1, none⟩ = some (.bool ((Go.bits .and .i64 (ji6) 1) == 1)) := (blk_cell BK418.out 1).trans rfl
      have hfz27_0 := blk_frozen BK418.out 0
      have hfz27_1 := blk_frozen BK418.out 1
      obtain ⟨Ao28, co28, eo28⟩ := Kd.R_slice HO_419000.out
      subst eo28
      have hcz29_0 : wr.cell? ⟨gb414, 0, none⟩ = some (.slice none 0 0) := (blk_cell BK414.out 0).trans rfl
      have hcz29_1 : wr.cell? ⟨gb414, 1, none⟩ = some (.bool false) := (blk_cell BK414.out 1).trans rfl
      have hfz29_0 := blk_frozen BK414.out 0
      have hfz29_1 := blk_frozen BK414.out 1
      go_wp2
      refine bodyPost_ret (results_cell_row rfl _ _ gb414 115 #[.slice Ao28 x419000_1.length co28, .bool ((Go.bits .and .i64 (ji6) 1) == 1)] (0, 0) _ rfl (by (with_reducible repeat (first | refine kN_ ?_ _ | refine k1_ ?_ | refine ka_ ?_ _)); refine blk_put (cs := #[.slice Ao28 x419000_1.length co28, .bool false]) ?_ 1 _ rfl; (with_reducible repeat (first | refine kN_ ?_ _ | refine k1_ ?_ | refine ka_ ?_ _)); refine blk_put (cs := #[.slice none 0 0, .bool false]) ?_ 0 _ rfl; exact pk BK414.out) Try.underlying115 rfl (by kernel_rfl)) rfl ?_
      exact ⟨_, by first | rfl | (simp [errW_none, errW_some] <;> rfl) | (simp only [← hji6]; first | rfl | (simp [errW_none, errW_some] <;> rfl)) | (simp [*, errW_none, errW_some] <;> rfl), by (with_reducible repeat (first | apply Kd.R_alloc | apply Kd.R_drewN | apply Kd.R_drew)); exact Kd.R_mono (Kd.R_far (p := ⟨gb414, 1, none⟩) (Kd.R_far (p := ⟨gb414, 0, none⟩) (Kd.R_types HO_419000.out BK414.out (by decide)) (fun _ hk => hk.2) (.slice Ao28 x419000_1.length co28)) (fun _ hk => hk.2) (.bool ((Go.bits .and .i64 (ji6) 1) == 1))) (fun _ hk => trivial), by repeat (first | exact HB.out | apply ba_ | apply bN_ | apply b1_ | refine below_set ?_ (Aside0.out (by assumption)))⟩
  ·
   rw [if_neg c4] at H
   exact absurd H (by simp)
 ·
  rw [if_neg c3] at H
  exact absurd H (by simp)
def slices_Clone_bool_bool_s.f (l0 : List Bool) : Option (List Bool) := (some (([] : List Bool) : List Bool)).bind fun y420 => (if y420.length + l0.length < 140737488355328 then (some (y420 ++ l0)) else (none))
theorem slices_Clone_bool_bool_s.calls (ad0 : Addr) (c0 : Nat) (l0 : List Bool) (r : List Bool) (w : World) (hr0 : Kd.C Kd.bool w (some ad0) l0.length l0) (hc0 : l0.length ≤ c0) (h : slices_Clone_bool_bool_s.f l0 = some r) :
  Calls Try.prog 159 #[.slice (some ad0) l0.length c0] w fun e w' => ∃ v0_ : Value, e = .returned (v0_) ∧ Kd.R Kd.bool 4 w' w.heap.size (fun _ => True) v0_ r ∧ Below w.heap.size w w' := by
 have HR0 := ak_ hr0
 have HC0 := ak_ hc0
 clear hr0 hc0
 have HB := ak_ (Below.refl w.heap.size w)
 have H : ((some (([] : List Bool) : List Bool)).bind fun y420 => (if y420.length + l0.length < 140737488355328 then (some (y420 ++ l0)) else (none))) = some r := h
 clear h
 obtain ⟨y420, hy420⟩ : ∃ y_ : List Bool, y_ = (([] : List Bool)) := ⟨_, rfl⟩
 replace H : (if y420.length + l0.length < 140737488355328 then (some (y420 ++ l0)) else (none)) = some r := by first | (rw [hy420]; exact H) | exact H
 have Ny420 := ak_ hy420
 clear hy420
 by_cases c2 : y420.length + l0.length < 140737488355328
 ·rw [if_pos c2] at H
  have LMc2 := ak_ c2
  clear c2
  obtain ⟨y423, hy423⟩ : ∃ y_ : List Bool, y_ = (y420 ++ l0) := ⟨_, rfl⟩
  replace H : (some y423) = some r := by first | (rw [hy423]; exact H) | exact H
  have Ny423 := ak_ hy423
  clear hy423
  obtain rfl := Option.some.inj H
  have hnil := fun (W : World) (a : Option Addr) (n c : Nat) => Go.Lib.run_eql_slice_nil (P := Try.prog) W 38 4 a n c 0 0 Try.underlying38
  go_enter Try.func159, Try.ntmps159
  go_wp2_with (first | ((with_reducible refine gate_dst (N := 5) rfl ?_); refine Kd.R_lit Kd.bool _ 4 ?hg (N := 5) ?hd (xs := ([] : List Bool)) (inner := []) (ok := fun _ => True) (okp := fun _ => True) ?hr ?hp (fun _ hk => hk) trivial (Below.refl _ _) (Nat.le_refl _) (by simp) ?_; (case hd => rfl); (case hg => rfl); (case hr => go_simp <;> rfl); (case hp => exact (Reps.none _ _)); intro v421 w3 ho4 hb hg_ hnew_; clear hg_ hnew_; (first | rw [← Ny420.out] at ho4 | (simp only [Int.reduceToNat] at ho4; rw [← Ny420.out] at ho4)); have n0_ := ak_ (Kd.R_lower ho4 (bz_ (bb_ HB.out))); have n1_ := ak_ (bs_ (bb_ HB.out) hb); clear HB; have HO422 := n0_; have HB := n1_; clear n0_ n1_; clear hb ho4) | ((with_reducible refine gate_builtin (b := .append) (xs := #[.tmp 5, .tmp 6]) rfl ?_); at_builtin; refine Kd.R_append_rows Kd.bool (w0 := w) w.heap.size rfl (.tmp 5) (.tmp 6) 38 4 (.bool false) 1 rfl Try.underlying38 info4 rfl (by decide) (by omega) v421 y420 l0 _ _ _ (fun _ => True) (fun _ => False) rfl rfl ?aO ?aR (fun _ _ h => h) (fun _ h => h.elim) ?aF ?aB ?aS ?aL ?_; (case aR => repeat (first | exact (Kd.C_below HR0.out HB.out) | (with_reducible refine Kd.C_alloc ?_ _) | (with_reducible refine Kd.C_drewN ?_ _) | (with_reducible refine Kd.C_drew ?_))); (case aB => exact (bb_ HB.out)); (case aF => exact (fun _ _ => trivial)); (case aO => exact (Kd.pR HO422.out)); (case aS => exact (bz_ (bb_ HB.out))); (case aL => have := LMc2.out; omega); intro v424 w5 ho hb hg hat; rw [← Ny423.out] at ho; have n0_ := ak_ (hb); have n1_ := ak_ (ho); clear HB; clear HO422; have HB := n0_; have HO425 := n1_; clear n0_ n1_; clear ho hb hg hat))
  go_ret
  exact ⟨_, rx_, by (with_reducible repeat (first | apply Kd.R_alloc | apply Kd.R_drewN | apply Kd.R_drew)); exact HO425.out, bb_ HB.out⟩
 ·rw [if_neg c2] at H
  exact absurd H (by simp)
theorem slices_Clone_bool_bool_s.f_eq (l0 : List Bool) : slices_Clone_bool_bool_s.f l0 = if l0.length < 140737488355328 then some l0 else none := by
 unfold slices_Clone_bool_bool_s.f
 simp
def slices_Clone_bool_bool.f (l0 : List Bool) : Option (List Bool) := if l0.length < 140737488355328 then some l0 else none
theorem slices_Clone_bool_bool.calls (A0 : Option Addr) (c0 : Nat) (l0 : List Bool) (r : List Bool) (w : World) (hr0 : Kd.C Kd.bool w A0 l0.length l0) (hc0 : l0.length ≤ c0) (h : slices_Clone_bool_bool.f l0 = some r) :
  Calls Try.prog 159 #[.slice A0 l0.length c0] w fun e w' => ∃ v0_ : Value, e = .returned (v0_) ∧ Kd.R Kd.bool 4 w' w.heap.size (fun _ => True) v0_ r ∧ Below w.heap.size w w' := by
 cases A0 with
 | some ad => exact slices_Clone_bool_bool_s.calls ad c0 l0 r w hr0 hc0 (by rw [slices_Clone_bool_bool_s.f_eq]; exact h)
 | none =>
  obtain rfl : l0 = [] := by
   cases l0 with
   | nil => rfl
   | cons x xs =>
    obtain ⟨ad, he, _⟩ := hr0.2.2 (by simp)
    exact absurd he (by simp)
  obtain rfl : [] = r := by
   unfold slices_Clone_bool_bool.f at h
   simpa using h
  clear hr0 h
  have hnil := fun (W : World) (a : Option Addr) (n c : Nat) => Go.Lib.run_eql_slice_nil (P := Try.prog) W 38 4 a n c 0 0 Try.underlying38
  go_enter Try.func159, Try.ntmps159
  go_wp2
  go_ret
  exact ⟨_, rfl, Kd.R_nil Kd.bool 4 w w.heap.size _, Below.refl _ _⟩
end Go.Proofs.Ythkchdfkeieabaa.QGr
