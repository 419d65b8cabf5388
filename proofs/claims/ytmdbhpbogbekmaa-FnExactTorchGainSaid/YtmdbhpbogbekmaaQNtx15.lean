/- Contracts of functions of the given program, walked. Conditions: those at each theorem. -/
import Derived.Test.YtmdbhpbogbekmaaQNtx0
import Derived.Test.YtmdbhpbogbekmaaQNtx12
namespace Go.Proofs.Ytmdbhpbogbekmaa.QNt
open Go.RowKit Go.Proofs.YtmdbhpbogbekmaaW.PrintWords Go.Proofs.YtmdbhpbogbekmaaW.PrintLast Go.Proofs.YtmdbhpbogbekmaaW.PrintMore
open List (setIfInBounds_toArray set_cons_zero set_cons_succ map_toArray map_cons map_nil)
attribute [local go_sem] max2_int min2_int max_two min_two max_three min_three max_four min_four
set_option linter.unusedVariables false
set_option maxHeartbeats 8000000
set_option maxRecDepth 100000
set_option linter.unusedSimpArgs false
def impl_stateOf.l0 : Nat → Int → Int → Int → List Bool → Bool → Option (List Bool × Bool)
 | 0, _, _, _, _, _ => none
 | k + 1, x1, x17, x18, x462000, x462001 => if x18 < x17 then (if 0 ≤ x18 then (if x18 < (x462000.length : Int) then (impl_stateOf.l0 k x1 x17 (wrap64 (x18 + 1)) (x462000.set (x18 : Int).toNat ((Go.bits .and .i64 (shr .i64 x1 x18) 1) == 1)) x462001) else (none)) else (none)) else (some (x462000, x462001))
def impl_stateOf.f (k : Nat) (a0 : Int) (a1 : Int) : Option (List Bool × Bool) := if 0 ≤ a0 then (if (a0 : Int).toNat ≤ 281474976710656 then ((some (List.replicate (a0 : Int).toNat false : List Bool)).bind fun y458 => (impl_stateOf.l0 k a1 (y458.length : Int) 0 y458 ((Go.bits .and .i64 (shr .i64 a1 a0) 1) == 1))) else (none)) else (none)
theorem impl_stateOf.mono_l : ∀ k, (∀ y0 y1 y2 y3 y4, LeO (impl_stateOf.l0 k y0 y1 y2 y3 y4) (impl_stateOf.l0 (k + 1) y0 y1 y2 y3 y4))
 | 0 => fun _ _ _ _ _ r h => by simp [impl_stateOf.l0] at h
 | k + 1 => by
  have ih0 := impl_stateOf.mono_l k
  ·intro y0 y1 y2 y3 y4
   unfold impl_stateOf.l0
   repeat' first
   | (with_reducible first | exact ih0 _ _ _ _ _ | exact LeO.refl _ | exact LeO.none _ | refine LeO.ite ?_ ?_ | refine LeO.bind ?_ (fun _ => ?_))
theorem impl_stateOf.mono : ∀ a0 a1 k, LeO (impl_stateOf.f k a0 a1) (impl_stateOf.f (k + 1) a0 a1) := by
 intro a0 a1 k
 have ih0 := impl_stateOf.mono_l k
 unfold impl_stateOf.f
 repeat' first
  | (with_reducible first | exact ih0 _ _ _ _ _ | exact LeO.refl _ | exact LeO.none _ | refine LeO.ite ?_ ?_ | refine LeO.bind ?_ (fun _ => ?_))
def impl_stateOf.T1 : Bool × List (List Nat × List Nat) := (true, [([], []), ([0, 0], [0]), ([], []), ([], []), ([2, 3], [2, 3]), ([4], [4]), ([5], [5]), ([1, 6], [1, 6]), ([], []), ([8, 7, 0, 1, 2, 3, 4, 5, 6, 7, 8], [7, 8])])
def impl_stateOf.B1 : List Nat := [0, 1, 0, 0, 12, 28, 60, 127, 0, 511]
theorem impl_stateOf.tab1 : rtab .any (opsOf Try.f96 1) = impl_stateOf.T1 := by kernel_rfl
theorem impl_stateOf.bits1 : waitsOk impl_stateOf.T1.2 impl_stateOf.B1 = true := by kernel_rfl
def impl_stateOf.T5 : Bool × List (List Nat × List Nat) := (true, [([], []), ([0], [0]), ([], []), ([], []), ([], []), ([3, 4], [3, 4]), ([5], [5]), ([6], [6]), ([1, 2, 0, 1, 2, 3, 4, 5, 6, 7], [1, 2]), ([8, 7, 0, 1, 2, 3, 4, 5, 6, 7], [7, 8])])
def impl_stateOf.B5 : List Nat := [0, 1, 0, 0, 0, 24, 56, 120, 255, 511]
theorem impl_stateOf.tab5 : rtab .any (opsOf Try.f96 5) = impl_stateOf.T5 := by kernel_rfl
theorem impl_stateOf.bits5 : waitsOk impl_stateOf.T5.2 impl_stateOf.B5 = true := by kernel_rfl
theorem impl_stateOf.calls (k : Nat) (a0 : Int) (a1 : Int) (r1 : List Bool) (r2 : Bool) (w : World) (h : impl_stateOf.f k a0 a1 = some (r1, r2)) :
  Calls Try.prog 96 #[.int .i64 a0, .int .i64 a1] w fun e w' => ∃ v0_ : Value, e = .returned (.agg #[v0_, .bool r2]) ∧ Kd.R Kd.bool 4 w' w.heap.size (fun _ => True) v0_ r1 ∧ Below w.heap.size w w' := by
 have hu94 := Try.underlying94
 have HB := ak_ (Below.refl w.heap.size w)
 have H : (if 0 ≤ a0 then (if (a0 : Int).toNat ≤ 281474976710656 then ((some (List.replicate (a0 : Int).toNat false : List Bool)).bind fun y458 => (impl_stateOf.l0 k a1 (y458.length : Int) 0 y458 ((Go.bits .and .i64 (shr .i64 a1 a0) 1) == 1))) else (none)) else (none)) = some (r1, r2) := h
 clear h
 by_cases c3 : 0 ≤ a0
 ·
  rw [if_pos c3] at H
  have c3b0 := eq_true c3
  have c3b1 := decide_eq_true c3
  clear c3
  by_cases c4 : (a0 : Int).toNat ≤ 281474976710656
  ·
   rw [if_pos c4] at H
   have c4b0 := eq_true c4
   have c4b1 := decide_eq_true c4
   clear c4
   obtain ⟨y458, hy458⟩ : ∃ y_ : List Bool, y_ = (List.replicate (a0 : Int).toNat false) := ⟨_, rfl⟩
   replace H : (impl_stateOf.l0 k a1 (y458.length : Int) 0 y458 ((Go.bits .and .i64 (shr .i64 a1 a0) 1) == 1)) = some (r1, r2) := by first | (rw [hy458]; exact H) | exact H
   have Ny458 := ak_ hy458
   clear hy458
   have c5b0 := eq_true (odt_ (by assumption) : 0 ≤ a0)
   obtain ⟨ji6, hji6⟩ : ∃ j_ : Int, (shr .i64 a1 a0) = j_ := ⟨_, rfl⟩
   replace H : (impl_stateOf.l0 k a1 (y458.length : Int) 0 y458 ((Go.bits .and .i64 (ji6) 1) == 1)) = some (r1, r2) := by first | (rw [hji6] at H; exact H) | (simp only [hji6] at H ⊢; exact H)
   have hji6_ : (a1 / 2 ^ min a0.toNat 64) = ji6 := hji6
   have hji6z : a0 ≤ 64 → (a1 / 2 ^ a0.toNat) = ji6 := shr_small hji6
   have H' := ak_ H
   clear H
   go_enter Try.func96, Try.ntmps96
   try go_wp2_with (first | ((with_reducible refine gate_dst (N := 4) rfl ?_); refine bx_ 4 #[.slice none 0 0, .bool false] 94 ?_; intro gb457 hg w7 hbox hb; have BK457 := ak_ (hbox); have GW457 := ak_ ((by rw [hg]; exact (bz_ (bb_ HB.out)) : w.heap.size ≤ gb457)); replace HB := ak_ (bs_ (bb_ HB.out) hb); have GE457 := GW457; clear hb hbox hg))
   have n0_ := ak_ (k1_ BK457.out)
   have n1_ := ak_ (b1_ HB.out)
   clear BK457 HB
   have BK457 := n0_; have HB := n1_
   clear n0_ n1_
   refine start_ (n := 10) (S := fun w' => True) (ds := []) (mb_ 10 0) (by kernel_rfl) rfl rfl trivial (fun hHeld => ?_); refine with_tabW impl_stateOf.tab1 impl_stateOf.bits1 (fun HT_ HW_ => ?_)
   generalize w7.drew = w8 at BK457 HB hHeld ⊢
   refine pu_ 0 7 10 1 ?_
   refine pu_ 2 9 10 5 ?_
   refine pu_ 3 10 10 13 ?_
   refine pu_ 4 11 10 29 ?_
   refine pu_ 5 12 10 61 ?_
   refine pu_ 6 13 10 125 ?_
   refine join_ (σ := Value × Nat) 1 (mb_ 10 511) (fun s_ => [(8, s_.1), (5, .pointer (some ⟨s_.2, 0, none⟩)), (14, .agg #[s_.1, .bool ((Go.bits .and .i64 (ji6) 1) == 1)])]) (fun s_ w' => (Kd.R Kd.bool 4 w' w.heap.size (fun _ => True) s_.1 y458) ∧ (w'.heap[gb457]? = some (.cells #[.slice none 0 0, .bool false] 94 (0, 0))) ∧ (w'.heap[s_.2]? = some (.cells #[.slice none 0 0, .bool false] 94 (0, 0))) ∧ (w.heap.size ≤ s_.2) ∧ (w.heap.size ≤ s_.2) ∧ (gb457 ≠ s_.2) ∧ (s_.2 ≠ gb457) ∧ (Below w.heap.size w w')) ?_ ?_
   rotate_left
   ·
    intro hCont
    refine two_ (i := 1) (j := 8) (Ni := some 8) (Nj := some 5) (mb_ 10 127) (mb_ 10 381) rfl rfl rfl rfl (two_of HT_.out (by kernel_rfl)) (by decide) (by decide) (fun K hK => ?_) (fun K hK => ?_)
    ·
     skip
     refine Kd.R_make_step Kd.bool _ 4 (by rfl) (N := 8) rfl 25 _ _ rfl a0 rfl rfl Try.underlying25 (.bool false) 1 info4 rfl (by decide) (by omega) false (ok := fun _ => True) (okp := fun _ => True) rfl (fun _ hk => hk) trivial (odt_ (by assumption)) (Nat.le_trans (Nat.mul_le_mul_right _ (odt_ (by assumption) : a0.toNat ≤ 281474976710656)) (by omega)) (Below.refl _ _) (Nat.le_refl _) ?_
     intro v459 w9 ho10 hb hg_ hnew_
     clear hg_ hnew_
     (first | rw [← Ny458.out] at ho10 | (simp only [Int.reduceToNat] at ho10; rw [← Ny458.out] at ho10))
     have n0_ := ak_ (Kd.R_lower ho10 (bz_ bl_))
     have n1_ := ak_ (blk_below (pk BK457.out) hb)
     have n2_ := ak_ (bs_ bl_ hb)
     clear BK457 HB
     have HO460 := n0_; have BK457 := n1_; have HB := n2_
     clear n0_ n1_ n2_ hb ho10
     obtain ⟨Ao11, co11, eo11⟩ := Kd.R_slice HO460.out
     (first | subst eo11 | (injection eo11 with f1_ f2_ f3_; have f4_ := f1_.symm; have f5_ := f3_.symm; clear f1_ f2_ f3_; subst f4_; subst f5_))
     refine hK.out _ _ trivial (fun hHeld => ?_)
     clear hK K
     refine nm_ ?_
     refine pu_ 7 14 10 255 ?_
     refine on_ 8 5 10 511 (fun K hK => ?_)
     refine box_step ?hg (N := 5) ?hd (cs := #[.slice none 0 0, .bool false]) (t := 94) ?hr ?_; (case hd => rfl); (case hg => rfl); (case hr => go_simp <;> rfl)
     intro gb461 hg w12 hbox hb
     have n0_ := ak_ (Kd.R_below (Kd.pR HO460.out) hb)
     have n1_ := ak_ (blk_below (pk BK457.out) hb)
     have n2_ := ak_ (bs_ bl_ hb)
     have n3_ := ak_ (hbox)
     have n4_ := ak_ ((by rw [hg]; exact (bz_ bl_) : w.heap.size ≤ gb461))
     have n5_ := n4_
     have n6_ := ak_ ((by rw [hg]; exact Nat.ne_of_lt (blk_lt (pk BK457.out)) : gb457 ≠ gb461))
     have n7_ := ak_ n6_.out.symm
     clear HO460 BK457 HB
     have HO460 := n0_; have BK457 := n1_; have HB := n2_; have BK461 := n3_; have GW461 := n4_; have GE461 := n5_; have NB457_461 := n6_; have NB461_457 := n7_
     clear n0_ n1_ n2_ n3_ n4_ n5_ n6_ n7_ hb hbox hg
     refine hK.out _ _ trivial (fun hHeld => ?_)
     clear hK K
     refine nm_ ?_
     exact norm_ (by simp only [putAll, Act.put, setIfInBounds_toArray, set_cons_zero, set_cons_succ]) (hCont (.slice Ao11 y458.length co11, gb461) _ ⟨(Kd.pR HO460.out), (pk BK457.out), (pk BK461.out), GW461.out, GE461.out, NB457_461.out, NB461_457.out, bl_⟩)
    ·
     skip
     refine box_step ?hg (N := 5) ?hd (cs := #[.slice none 0 0, .bool false]) (t := 94) ?hr ?_; (case hd => rfl); (case hg => rfl); (case hr => go_simp <;> rfl)
     intro gb461 hg w9 hbox hb
     have n0_ := ak_ (blk_below (pk BK457.out) hb)
     have n1_ := ak_ (bs_ bl_ hb)
     have n2_ := ak_ (hbox)
     have n3_ := ak_ ((by rw [hg]; exact (bz_ bl_) : w.heap.size ≤ gb461))
     have n4_ := n3_
     have n5_ := ak_ ((by rw [hg]; exact Nat.ne_of_lt (blk_lt (pk BK457.out)) : gb457 ≠ gb461))
     have n6_ := ak_ n5_.out.symm
     clear BK457 HB
     have BK457 := n0_; have HB := n1_; have BK461 := n2_; have GW461 := n3_; have GE461 := n4_; have NB457_461 := n5_; have NB461_457 := n6_
     clear n0_ n1_ n2_ n3_ n4_ n5_ n6_ hb hbox hg
     refine hK.out _ _ trivial (fun hHeld => ?_)
     clear hK K
     refine nm_ ?_
     refine on_ 1 8 10 383 (fun K hK => ?_)
     refine Kd.R_make_step Kd.bool _ 4 (by rfl) (N := 8) rfl 25 _ _ rfl a0 rfl rfl Try.underlying25 (.bool false) 1 info4 rfl (by decide) (by omega) false (ok := fun _ => True) (okp := fun _ => True) rfl (fun _ hk => hk) trivial (odt_ (by assumption)) (Nat.le_trans (Nat.mul_le_mul_right _ (odt_ (by assumption) : a0.toNat ≤ 281474976710656)) (by omega)) (Below.refl _ _) (Nat.le_refl _) ?_
     intro v459 w10 ho11 hb hg_ hnew_
     clear hg_ hnew_
     (first | rw [← Ny458.out] at ho11 | (simp only [Int.reduceToNat] at ho11; rw [← Ny458.out] at ho11))
     have n0_ := ak_ (Kd.R_lower ho11 (bz_ bl_))
     have n1_ := ak_ (blk_below (pk BK457.out) hb)
     have n2_ := ak_ (blk_below (pk BK461.out) hb)
     have n3_ := ak_ (bs_ bl_ hb)
     clear BK457 BK461 HB
     have HO460 := n0_; have BK457 := n1_; have BK461 := n2_; have HB := n3_
     clear n0_ n1_ n2_ n3_ hb ho11
     obtain ⟨Ao12, co12, eo12⟩ := Kd.R_slice HO460.out
     (first | subst eo12 | (injection eo12 with f1_ f2_ f3_; have f4_ := f1_.symm; have f5_ := f3_.symm; clear f1_ f2_ f3_; subst f4_; subst f5_))
     refine hK.out _ _ trivial (fun hHeld => ?_)
     clear hK K
     refine nm_ ?_
     refine pu_ 7 14 10 511 ?_
     exact norm_ (by simp only [putAll, Act.put, setIfInBounds_toArray, set_cons_zero, set_cons_succ]) (hCont (.slice Ao12 y458.length co12, gb461) _ ⟨(Kd.pR HO460.out), (pk BK457.out), (pk BK461.out), GW461.out, GE461.out, NB457_461.out, NB461_457.out, bl_⟩)
   rintro ⟨v459, gb461⟩ w13 ⟨h0_, h1_, h2_, h3_, h4_, h5_, h6_, h7_⟩
   have n0_ : Aside0 (Kd.R Kd.bool 4 w13 w.heap.size (fun _ => True) v459 y458) := ⟨h0_⟩
   have n1_ : Aside0 (w13.heap[gb457]? = some (.cells #[.slice none 0 0, .bool false] 94 (0, 0))) := ⟨h1_⟩
   have n2_ : Aside0 (w13.heap[gb461]? = some (.cells #[.slice none 0 0, .bool false] 94 (0, 0))) := ⟨h2_⟩
   have n3_ : Aside0 (w.heap.size ≤ gb461) := ⟨h3_⟩
   have n4_ : Aside0 (w.heap.size ≤ gb461) := ⟨h4_⟩
   have n5_ : Aside0 (gb457 ≠ gb461) := ⟨h5_⟩
   have n6_ : Aside0 (gb461 ≠ gb457) := ⟨h6_⟩
   have n7_ : Aside0 (Below w.heap.size w w13) := ⟨h7_⟩
   clear BK457 HB h0_ h1_ h2_ h3_ h4_ h5_ h6_ h7_
   have HO460 := n0_; have BK457 := n1_; have BK461 := n2_; have GW461 := n3_; have GE461 := n4_; have NB457_461 := n5_; have NB461_457 := n6_; have HB := n7_
   clear n0_ n1_ n2_ n3_ n4_ n5_ n6_ n7_
   have hHeld := trivial
   obtain ⟨Ao14, co14, eo14⟩ := Kd.R_slice HO460.out
   (first | subst eo14 | (injection eo14 with f1_ f2_ f3_; have f4_ := f1_.symm; have f5_ := f3_.symm; clear f1_ f2_ f3_; subst f4_; subst f5_))
   refine norm_ (a' := ?_) ?_ ?_
   rotate_left
   ·
    simp only [putAll, Act.put, setIfInBounds_toArray, set_cons_zero, set_cons_succ]
    rfl
   refine one_ (i := 9) (N := none) (mb_ 10 1023) rfl rfl (one_of HT_.out (by kernel_rfl)) (by decide) (fun K hK => ?_)
   have hs15 : w13.cell? ⟨gb461, 0, none⟩ = some (.slice none 0 0) := (blk_cell BK461.out 0).trans rfl
   have hfs15 := blk_frozen BK461.out 0
   have hns15_0 := NB457_461.out
   have hms15_0 := NB461_457.out
   have hs16 : w13.cell? ⟨gb461, 1, none⟩ = some (.bool false) := (blk_cell BK461.out 1).trans rfl
   have hfs16 := blk_frozen BK461.out 1
   have hns16_0 := NB457_461.out
   have hms16_0 := NB461_457.out
   refine skip_ (w1 := ?_) (by rfl) rfl ?_ ?_
   rotate_left
   ·
    go_simp
    rfl
   refine hK.out _ _ trivial (fun hHeld => ?_)
   clear hK K
   refine done_ (done_of HT_.out (by kernel_rfl)) ?_
   have hnb17 := NB461_457.out
   have hnc17 := NB457_461.out
   obtain ⟨hcz18_0, hcz18_1, hfz18_0, hfz18_1⟩ := c2_ BK461.out
   try go_wp2
   go_loopg [18] k (fun kq v18 w' => ∃ (x18_1 : Int) (x462000_1 : List Bool) (u462000 : Value), v18 = .int .i64 x18_1 ∧ Aside0 (impl_stateOf.l0 kq a1 (y458.length : Int) x18_1 x462000_1 ((Go.bits .and .i64 (ji6) 1) == 1) = some (r1, r2)) ∧ Aside0 (kq ≤ k) ∧ Aside0 (Kd.R Kd.bool 4 w' w.heap.size (fun _ => True) u462000 x462000_1) ∧ Aside0 (w'.heap[gb457]? = some (.cells #[(.slice none 0 0), .bool false] 94 (0, 0))) ∧ Aside0 (w'.heap[gb461]? = some (.cells #[u462000, .bool ((Go.bits .and .i64 (ji6) 1) == 1)] 94 (0, 0))) ∧ Aside0 (Below w.heap.size w w'))
   case atStart => exact ⟨(0), (y458), (.slice Ao14 y458.length co14), (ry_), H', ⟨Nat.le_refl _⟩, ⟨by (with_reducible repeat (first | apply Kd.R_alloc | apply Kd.R_drewN | apply Kd.R_drew)); exact Kd.R_mono (Kd.R_far (p := ⟨gb461, 1, none⟩) (Kd.R_far (p := ⟨gb461, 0, none⟩) (Kd.R_types HO460.out BK461.out (by decide)) (fun _ hk => hk.2) (.slice Ao14 y458.length co14)) (fun _ hk => hk.2) (.bool ((Go.bits .and .i64 (ji6) 1) == 1))) (fun _ hk => trivial)⟩, ⟨by (with_reducible repeat (first | refine kN_ ?_ _ | refine k1_ ?_ | refine ka_ ?_ _)); refine blk_far ?_ NB457_461.out _; (with_reducible repeat (first | refine kN_ ?_ _ | refine k1_ ?_ | refine ka_ ?_ _)); refine blk_far ?_ NB457_461.out _; exact pk BK457.out⟩, ⟨by (with_reducible repeat (first | refine kN_ ?_ _ | refine k1_ ?_ | refine ka_ ?_ _)); refine blk_put (cs := #[.slice Ao14 y458.length co14, .bool false]) ?_ 1 _ rfl; (with_reducible repeat (first | refine kN_ ?_ _ | refine k1_ ?_ | refine ka_ ?_ _)); refine blk_put (cs := #[.slice none 0 0, .bool false]) ?_ 0 _ rfl; exact pk BK461.out⟩, ⟨bl_⟩⟩
   case round =>
    clear H'
    try clear c1
    try clear p2
    try clear c3
    try clear c3b0
    try clear c3b1
    try clear c4
    try clear c4b0
    try clear c4b1
    try clear c5
    try clear c5b0
    try clear c9
    try clear c17
    try clear hcz18_0
    try clear hcz18_1
    try clear hfz18_0
    try clear hfz18_1
    obtain ⟨x18_1, x462000_1, u462000, rfl, HA, HK1, HO_462000, BK457, BK461, HB⟩ := hrel
    cases gk with
    | zero => exact absurd HA.out (by simp [impl_stateOf.l0])
    | succ k1 =>
     have H := HA.out
     clear HA
     simp only [impl_stateOf.l0] at H
     by_cases c19 : x18_1 < (y458.length : Int)
     ·
      rw [if_pos c19] at H
      have c19b0 := decide_eq_true c19
      clear c19
      by_cases c20 : 0 ≤ x18_1
      ·
       rw [if_pos c20] at H
       have c20b0 := eq_true c20
       have c20b1 := decide_eq_true c20
       clear c20
       obtain ⟨ji21, hji21⟩ : ∃ j_ : Int, (shr .i64 a1 x18_1) = j_ := ⟨_, rfl⟩
       replace H : (if x18_1 < (x462000_1.length : Int) then (impl_stateOf.l0 k1 a1 (y458.length : Int) (wrap64 (x18_1 + 1)) (x462000_1.set (x18_1 : Int).toNat ((Go.bits .and .i64 (ji21) 1) == 1)) ((Go.bits .and .i64 (ji6) 1) == 1)) else (none)) = some (r1, r2) := by first | (rw [hji21] at H; exact H) | (simp only [hji21] at H ⊢; exact H)
       have hji21_ : (a1 / 2 ^ min x18_1.toNat 64) = ji21 := hji21
       have hji21z : x18_1 ≤ 64 → (a1 / 2 ^ x18_1.toNat) = ji21 := shr_small hji21
       by_cases c22 : x18_1 < (x462000_1.length : Int)
       ·
        rw [if_pos c22] at H
        have c22b0 := decide_eq_true c22
        clear c22
        obtain ⟨y462, hy462⟩ : ∃ y_ : List Bool, y_ = (x462000_1.set (x18_1 : Int).toNat ((Go.bits .and .i64 (ji21) 1) == 1)) := ⟨_, rfl⟩
        replace H : (impl_stateOf.l0 k1 a1 (y458.length : Int) (wrap64 (x18_1 + 1)) y462 ((Go.bits .and .i64 (ji6) 1) == 1)) = some (r1, r2) := by first | (rw [hy462]; exact H) | exact H
        have Ny462 := ak_ hy462
        clear hy462
        have H' := ak_ H
        clear H
        try go_wp2
        have n0_ := ak_ (Kd.R_drew HO_462000.out)
        have n1_ := ak_ (k1_ BK457.out)
        have n2_ := ak_ (k1_ BK461.out)
        have n3_ := ak_ (b1_ HB.out)
        clear HO_462000 BK457 BK461 HB
        have HO_462000 := n0_; have BK457 := n1_; have BK461 := n2_; have HB := n3_
        clear n0_ n1_ n2_ n3_
        have p23 : 0 ≤ (x18_1 : Int) := od_
        have q23 : (x18_1 : Int) < ((x462000_1.length : Int) : Int) := od_
        obtain ⟨go23, co23, eo23, gb23, gl23, cl23, HG23⟩ := Kd.R_form HO_462000.out (by omega)
        (first | cases eo23 | (injection eo23 with ea_ en_ ec_; (first | subst ea_ | (injection ea_ with ea_; subst ea_)); subst ec_; clear en_))
        have GB23 := ak_ gb23
        have GG23 := ak_ HG23
        clear gb23 gl23 HG23
        obtain ⟨hx23_0, hf23_0⟩ := Kd.R_celln false HO_462000.out (x18_1 : Int) p23 q23
        replace p23 := eq_true p23
        replace q23 := eq_true q23
        have HP25 := Kd.R_putn HO_462000.out (x18_1 : Int) ((Go.bits .and .i64 (ji21) 1) == 1)
        rw [← Ny462.out] at HP25
        have HQ25 := ak_ HP25
        clear HP25
        refine start_ (n := 10) (S := fun w' => w'.cell? ⟨gb461, 0, none⟩ = some (.slice (some ⟨go23, 0, none⟩) x462000_1.length co23) ∧ w'.cell? ⟨gb461, 1, none⟩ = some (.bool ((Go.bits .and .i64 (ji6) 1) == 1))) (ds := [9]) (mb_ 10 0) (by kernel_rfl) rfl rfl ⟨(blk_cell BK461.out 0).trans rfl, (blk_cell BK461.out 1).trans rfl⟩ (fun hHeld => ?_); refine with_tabW impl_stateOf.tab5 impl_stateOf.bits5 (fun HT_ HW_ => ?_)
        generalize wr.drew = w24 at HO_462000 BK457 BK461 HB GG23 HQ25 hf23_0 hx23_0 hHeld ⊢
        refine pu_ 0 21 10 1 ?_
        refine pu_ 2 23 10 5 ?_
        refine pu_ 3 24 10 13 ?_
        refine pu_ 4 25 10 29 ?_
        refine pu_ 5 26 10 61 ?_
        refine pu_ 6 27 10 125 ?_
        refine pu_ 7 28 10 253 ?_
        refine tk_ 1 22 10 255 ?_ (hy := by rintro w' ⟨s0, s1⟩; go_simp; with_reducible rfl)
        refine pu_ 8 29 10 511 ?_
        refine last_ (i := 9) (N := none) (mb_ 10 1023) rfl rfl (one_of HT_.out (by kernel_rfl)) (by decide) (fun K hK => ?_)
        refine skip_ (w1 := ?_) (by rfl) rfl ?_ ?_
        rotate_left
        ·
         go_simp
         rfl
        refine hK.out _ _ ?_
        clear hK K
        refine done_ (done_of HT_.out (by kernel_rfl)) ?_
        try go_wp2
        go_roundg k1
        case measure => have := HK1.out; omega
        case rel => exact ⟨(wrap64 (x18_1 + 1)), (y462), (.slice (some ⟨go23, 0, none⟩) x462000_1.length co23), (ry_), H', ⟨by have := HK1.out; omega⟩, ⟨Kd.pR HQ25.out⟩, ⟨by (with_reducible repeat (first | refine kN_ ?_ _ | refine k1_ ?_ | refine ka_ ?_ _)); refine blk_far ?_ (by have h_ := Kd.R_ne HO_462000.out BK457.out (by decide); intro e_; exact h_ (by rw [e_]; rfl)) _; exact pk BK457.out⟩, ⟨by (with_reducible repeat (first | refine kN_ ?_ _ | refine k1_ ?_ | refine ka_ ?_ _)); refine blk_far ?_ (by have h_ := Kd.R_ne HO_462000.out BK461.out (by decide); intro e_; exact h_ (by rw [e_]; rfl)) _; exact pk BK461.out⟩, ⟨by repeat (with_reducible first | exact HB.out | apply ba_ | apply bN_ | apply b1_ | refine below_set ?_ GB23.out | refine below_set ?_ (Aside0.out (by assumption)))⟩⟩
       ·
        rw [if_neg c22] at H
        exact absurd H (by simp)
      ·
       rw [if_neg c20] at H
       exact absurd H (by simp)
     ·
      rw [if_neg c19] at H
      have c19b0 := decide_eq_false c19
      clear c19
      simp only [Option.some.injEq, Prod.mk.injEq] at H
      obtain ⟨rfl, rfl⟩ := H
      have hnb26 := NB461_457.out
      have hnc26 := NB457_461.out
      obtain ⟨hcz27_0, hcz27_1, hfz27_0, hfz27_1⟩ := c2_ BK461.out
      obtain ⟨Ao28, co28, eo28⟩ := Kd.R_slice HO_462000.out
      subst eo28
      obtain ⟨hcz29_0, hcz29_1, hfz29_0, hfz29_1⟩ := c2_ BK457.out
      go_wp2
      refine bodyPost_ret (results_cell_row rfl _ _ gb457 94 #[.slice Ao28 x462000_1.length co28, .bool ((Go.bits .and .i64 (ji6) 1) == 1)] (0, 0) _ rfl (by (with_reducible repeat (first | refine kN_ ?_ _ | refine k1_ ?_ | refine ka_ ?_ _)); refine blk_put (cs := #[.slice Ao28 x462000_1.length co28, .bool false]) ?_ 1 _ rfl; (with_reducible repeat (first | refine kN_ ?_ _ | refine k1_ ?_ | refine ka_ ?_ _)); refine blk_put (cs := #[.slice none 0 0, .bool false]) ?_ 0 _ rfl; exact pk BK457.out) Try.underlying94 rfl (by kernel_rfl)) rfl ?_
      exact ⟨_, by first | rfl | (simp [errW_none, errW_some] <;> rfl) | (simp only [← hji6]; first | rfl | (simp [errW_none, errW_some] <;> rfl)) | (simp [*, errW_none, errW_some] <;> rfl), by (with_reducible repeat (first | apply Kd.R_alloc | apply Kd.R_drewN | apply Kd.R_drew)); exact Kd.R_mono (Kd.R_far (p := ⟨gb457, 1, none⟩) (Kd.R_far (p := ⟨gb457, 0, none⟩) (Kd.R_types HO_462000.out BK457.out (by decide)) (fun _ hk => hk.2) (.slice Ao28 x462000_1.length co28)) (fun _ hk => hk.2) (.bool ((Go.bits .and .i64 (ji6) 1) == 1))) (fun _ hk => trivial), bl_⟩
  ·
   rw [if_neg c4] at H
   exact absurd H (by simp)
 ·
  rw [if_neg c3] at H
  exact absurd H (by simp)
def impl_Night_camp.f (k : Nat) (l0_0 : List Int) (a0_1 : Int) (a0_2 : Int) (a1 : Int) : Option (List Bool × Int) := (impl_stateOf.f k (l0_0.length : Int) (Go.bits .and .i64 a1 (wrap64 ((shl .i64 1 (l0_0.length : Int)) - 1)))).bind fun bt465 => (some (bt465.1, shr .i64 a1 (l0_0.length : Int)))
theorem impl_Night_camp.mono : ∀ a0 a1 a2 a3 k, LeO (impl_Night_camp.f k a0 a1 a2 a3) (impl_Night_camp.f (k + 1) a0 a1 a2 a3) := by
 intro a0 a1 a2 a3 k
 unfold impl_Night_camp.f
 repeat' first
  | (with_reducible first | exact impl_stateOf.mono _ _ _ | exact LeO.refl _ | exact LeO.none _ | refine LeO.ite ?_ ?_ | refine LeO.bind ?_ (fun _ => ?_))
def impl_Night_camp.T2 : Bool × List (List Nat × List Nat) := (true, [([], []), ([], []), ([], []), ([2], [2]), ([3], [3]), ([1, 4], [1, 4]), ([0, 5], [0, 5]), ([6], [6]), ([], []), ([], []), ([8, 9], [8, 9]), ([7, 10], [7, 10]), ([11, 6, 0, 1, 2, 3, 4, 5, 6, 7, 8, 9, 10, 11], [11])])
def impl_Night_camp.B2 : List Nat := [0, 0, 0, 4, 12, 30, 63, 127, 0, 0, 768, 2047, 4095]
theorem impl_Night_camp.tab2 : rtab .any (opsOf Try.f77 2) = impl_Night_camp.T2 := by kernel_rfl
theorem impl_Night_camp.bits2 : waitsOk impl_Night_camp.T2.2 impl_Night_camp.B2 = true := by kernel_rfl
theorem impl_Night_camp.calls (k : Nat) (A0_0 : Option Addr) (c0_0 : Nat) (l0_0 : List Int) (a0_1 : Int) (a0_2 : Int) (a1 : Int) (r1 : List Bool) (r2 : Int) (w : World) (hr0_0 : Kd.C (Kd.int .i64) w A0_0 l0_0.length l0_0) (hc0_0 : l0_0.length ≤ c0_0) (h : impl_Night_camp.f k l0_0 a0_1 a0_2 a1 = some (r1, r2)) :
  Calls Try.prog 77 #[.agg #[.slice A0_0 l0_0.length c0_0, .int .i64 a0_1, .int .i64 a0_2], .int .i64 a1] w fun e w' => ∃ v0_ : Value, e = .returned (.agg #[v0_, .int .i64 r2]) ∧ Kd.R Kd.bool 4 w' w.heap.size (fun _ => True) v0_ r1 ∧ Below w.heap.size w w' := by
 have hu33 := Try.underlying33
 have hu35 := Try.underlying35
 have hu94 := Try.underlying94
 have HR0_0 := ak_ hr0_0
 have HC0_0 := ak_ hc0_0
 clear hr0_0 hc0_0
 have HB := ak_ (Below.refl w.heap.size w)
 have H : ((impl_stateOf.f k (l0_0.length : Int) (Go.bits .and .i64 a1 (wrap64 ((shl .i64 1 (l0_0.length : Int)) - 1)))).bind fun bt465 => (some (bt465.1, shr .i64 a1 (l0_0.length : Int)))) = some (r1, r2) := h
 clear h
 obtain ⟨ji3, hji3⟩ : ∃ j_ : Int, (shl .i64 1 (l0_0.length : Int)) = j_ := ⟨_, rfl⟩
 replace H : ((impl_stateOf.f k (l0_0.length : Int) (Go.bits .and .i64 a1 (wrap64 ((ji3) - 1)))).bind fun bt465 => (some (bt465.1, shr .i64 a1 (l0_0.length : Int)))) = some (r1, r2) := by first | (rw [hji3] at H; exact H) | (simp only [hji3] at H ⊢; exact H)
 have hji3_ : (IntKind.i64.wrap (1 * 2 ^ min (l0_0.length : Int).toNat 64)) = ji3 := hji3
 have hji3z : (l0_0.length : Int) ≤ 64 → (IntKind.i64.wrap (1 * 2 ^ (l0_0.length : Int).toNat)) = ji3 := shl_small hji3
 have hji3p : (IntKind.i64.wrap (1 * 2 ^ min l0_0.length 64)) = ji3 := hji3_
 have hji3q : (l0_0.length : Int) ≤ 64 → (IntKind.i64.wrap (1 * 2 ^ l0_0.length)) = ji3 := hji3z
 have hji3r : (IntKind.i64.wrap (2 ^ min l0_0.length 64)) = ji3 := by have h_ := hji3p; rw [Int.one_mul] at h_; exact h_
 have hji3s : (l0_0.length : Int) ≤ 64 → (IntKind.i64.wrap (2 ^ l0_0.length)) = ji3 := fun hle_ => by have h_ := hji3q hle_; rw [Int.one_mul] at h_; exact h_
 have hji3u : (IntKind.i64.wrap (2 ^ min (l0_0.length : Int).toNat 64)) = ji3 := by have h_ := hji3_; rw [Int.one_mul] at h_; exact h_
 have hji3v : (l0_0.length : Int) ≤ 64 → (IntKind.i64.wrap (2 ^ (l0_0.length : Int).toNat)) = ji3 := fun hle_ => by have h_ := hji3z hle_; rw [Int.one_mul] at h_; exact h_
 have hji3y : (wrap64 (1 * 2 ^ min (l0_0.length : Int).toNat 64)) = ji3 := (i64_w _).symm.trans hji3_
 have hji3x : (l0_0.length : Int) ≤ 64 → (wrap64 (1 * 2 ^ (l0_0.length : Int).toNat)) = ji3 := fun h_ => (i64_w _).symm.trans (hji3z h_)
 replace H := Option.bind_eq_some_iff.mp H
 obtain ⟨⟨t465, t468⟩, A40, H⟩ := H
 replace H : (some (t465, shr .i64 a1 (l0_0.length : Int))) = some (r1, r2) := H
 have A4 := ak_ A40
 clear A40
 obtain ⟨ji5, hji5⟩ : ∃ j_ : Int, (shr .i64 a1 (l0_0.length : Int)) = j_ := ⟨_, rfl⟩
 replace H : (some (t465, ji5)) = some (r1, r2) := by first | (rw [hji5] at H; exact H) | (simp only [hji5] at H ⊢; exact H)
 (try rw [hji5] at A4)
 have hji5_ : (a1 / 2 ^ min (l0_0.length : Int).toNat 64) = ji5 := hji5
 have hji5z : (l0_0.length : Int) ≤ 64 → (a1 / 2 ^ (l0_0.length : Int).toNat) = ji5 := shr_small hji5
 have hji5p : (a1 / 2 ^ min l0_0.length 64) = ji5 := hji5_
 have hji5q : (l0_0.length : Int) ≤ 64 → (a1 / 2 ^ l0_0.length) = ji5 := hji5z
 simp only [Option.some.injEq, Prod.mk.injEq] at H
 obtain ⟨rfl, rfl⟩ := H
 go_enter Try.func77, Try.ntmps77
 try go_wp2_with (first | ((with_reducible refine gate_dst (N := 2) rfl ?_); refine bx_ 2 #[.slice A0_0 l0_0.length c0_0, .int .i64 a0_1, .int .i64 a0_2] 33 ?_; intro gb463 hg w6 hbox hb; have BK463 := ak_ (hbox); have GW463 := ak_ ((by rw [hg]; exact (bz_ (bb_ HB.out)) : w.heap.size ≤ gb463)); replace HB := ak_ (bs_ (bb_ HB.out) hb); have GE463 := GW463; clear hb hbox hg) | ((with_reducible refine gate_dst (N := 4) rfl ?_); refine bx_ 4 #[.slice none 0 0, .int .i64 0] 35 ?_; intro gb464 hg w7 hbox hb; have BK464 := ak_ (hbox); have GW464 := ak_ ((by rw [hg]; exact (bz_ bl_) : w.heap.size ≤ gb464)); replace HB := ak_ (bs_ bl_ hb); have GE464 := GW464; have NB463_464 := ak_ ((by rw [hg]; exact Nat.ne_of_lt (blk_lt (pk BK463.out)) : gb463 ≠ gb464)); replace BK463 := ak_ (blk_below (pk BK463.out) hb); have NB464_463 := ak_ NB463_464.out.symm; clear hb hbox hg; have hnb8 := NB463_464.out; have hnc8 := NB464_463.out; obtain ⟨hcz9_0, hcz9_1, hcz9_2, hfz9_0, hfz9_1, hfz9_2⟩ := c3_ BK463.out))
 have n0_ := ak_ (k1_ BK463.out)
 have n1_ := ak_ (k1_ BK464.out)
 have n2_ := ak_ (b1_ HB.out)
 clear BK463 BK464 HB
 have BK463 := n0_; have BK464 := n1_; have HB := n2_
 clear n0_ n1_ n2_
 refine start_ (n := 13) (S := fun w' => True) (ds := []) (mb_ 13 0) (by kernel_rfl) rfl rfl trivial (fun hHeld => ?_); refine with_tabW impl_Night_camp.tab2 impl_Night_camp.bits2 (fun HT_ HW_ => ?_)
 generalize w7.drew = w10 at BK463 BK464 HB hHeld ⊢
 refine pure_ (i := 0) (N := some 9) (v := ?_) (a' := ?_) (mb_ 13 1) rfl rfl (any_of HT_.out (by kernel_rfl)) (fun _ _ _ h => h) (Or.inl ⟨by rfl, ?_⟩) ?_ ?_
 rotate_left
 ·
  intro w'
  go_simp
  first | with_reducible rfl | rfl
 rotate_left
 ·
  simp only [Act.put, setIfInBounds_toArray, set_cons_zero, set_cons_succ, i64_w, i32_w]
  rfl
 refine pure_ (i := 1) (N := some 10) (v := ?_) (a' := ?_) (mb_ 13 3) rfl rfl (any_of HT_.out (by kernel_rfl)) (fun _ _ _ h => h) (Or.inl ⟨by rfl, ?_⟩) ?_ ?_
 rotate_left
 ·
  intro w'
  go_simp
  first | with_reducible rfl | rfl
 rotate_left
 ·
  simp only [Act.put, setIfInBounds_toArray, set_cons_zero, set_cons_succ, i64_w, i32_w]
  rfl
 refine pure_ (i := 2) (N := some 11) (v := ?_) (a' := ?_) (mb_ 13 7) rfl rfl (any_of HT_.out (by kernel_rfl)) (fun _ _ _ h => h) (Or.inl ⟨by rfl, ?_⟩) ?_ ?_
 rotate_left
 ·
  intro w'
  go_simp
  first | with_reducible rfl | rfl
 rotate_left
 ·
  simp only [Act.put, setIfInBounds_toArray, set_cons_zero, set_cons_succ, i64_w, i32_w]
  rfl
 refine pure_ (i := 3) (N := some 12) (v := ?_) (a' := ?_) (mb_ 13 15) rfl rfl (any_of HT_.out (by kernel_rfl)) (fun _ _ _ h => h) (Or.inl ⟨by rfl, ?_⟩) ?_ ?_
 rotate_left
 ·
  intro w'
  go_simp
  first | with_reducible rfl | rfl
 rotate_left
 ·
  simp only [Act.put, setIfInBounds_toArray, set_cons_zero, set_cons_succ, i64_w, i32_w]
  rfl
 refine pure_ (i := 4) (N := some 13) (v := ?_) (a' := ?_) (mb_ 13 31) rfl rfl (any_of HT_.out (by kernel_rfl)) (fun _ _ _ h => h) (Or.inl ⟨by rfl, ?_⟩) ?_ ?_
 rotate_left
 ·
  intro w'
  go_simp
  first | with_reducible rfl | rfl
 rotate_left
 ·
  simp only [Act.put, setIfInBounds_toArray, set_cons_zero, set_cons_succ, i64_w, i32_w]
  rfl
 refine pure_ (i := 5) (N := some 14) (v := ?_) (a' := ?_) (mb_ 13 63) rfl rfl (any_of HT_.out (by kernel_rfl)) (fun _ _ _ h => h) (Or.inl ⟨by rfl, ?_⟩) ?_ ?_
 rotate_left
 ·
  intro w'
  go_simp
  first | with_reducible rfl | rfl
 rotate_left
 ·
  simp only [Act.put, setIfInBounds_toArray, set_cons_zero, set_cons_succ, i64_w, i32_w]
  rfl
 refine pure_ (i := 8) (N := some 17) (v := ?_) (a' := ?_) (mb_ 13 319) rfl rfl (any_of HT_.out (by kernel_rfl)) (fun _ _ _ h => h) (Or.inl ⟨by rfl, ?_⟩) ?_ ?_
 rotate_left
 ·
  intro w'
  go_simp
  first | with_reducible rfl | rfl
 rotate_left
 ·
  simp only [Act.put, setIfInBounds_toArray, set_cons_zero, set_cons_succ, i64_w, i32_w]
  rfl
 refine pure_ (i := 9) (N := some 18) (v := ?_) (a' := ?_) (mb_ 13 831) rfl rfl (any_of HT_.out (by kernel_rfl)) (fun _ _ _ h => h) (Or.inl ⟨by rfl, ?_⟩) ?_ ?_
 rotate_left
 ·
  intro w'
  go_simp
  first | with_reducible rfl | rfl
 rotate_left
 ·
  simp only [Act.put, setIfInBounds_toArray, set_cons_zero, set_cons_succ, i64_w, i32_w]
  rfl
 refine pure_ (i := 10) (N := some 19) (v := ?_) (a' := ?_) (mb_ 13 1855) rfl rfl (any_of HT_.out (by kernel_rfl)) (fun _ _ _ h => h) (Or.inl ⟨by rfl, ?_⟩) ?_ ?_
 rotate_left
 ·
  intro w'
  go_simp
  first | with_reducible rfl | rfl
 rotate_left
 ·
  simp only [Act.put, setIfInBounds_toArray, set_cons_zero, set_cons_succ, i64_w, i32_w]
  rfl
 refine on_ 6 15 13 1919 (fun K hK => ?_)
 refine goes_ Try.func96 (by kernel_rfl) rfl #[.int .i64 (l0_0.length : Int), .int .i64 (Go.bits .and .i64 a1 (wrap64 ((ji3) - 1)))] (by rfl) rfl rfl (by (try simp only [List.map_toArray, List.map_cons, List.map_nil]); first | done | (simp only [hji3]; rfl) | rfl | (simp only [List.length_drop, List.length_take]; rfl)) ?_
 with_reducible refine (impl_stateOf.calls k (l0_0.length : Int) (Go.bits .and .i64 a1 (wrap64 ((ji3) - 1))) t465 t468 _ A4.out).mono ?_
 rintro e w11 ⟨v466, rfl, ho0, hb⟩
 refine ⟨_, rfl, ?_⟩
 have n0_ := ak_ (Kd.R_lower ho0 (bz_ bl_))
 have n1_ := ak_ (blk_below (pk BK463.out) hb)
 have n2_ := ak_ (blk_below (pk BK464.out) hb)
 have n3_ := ak_ (bs_ bl_ hb)
 clear BK463 BK464 HB
 have HO467 := n0_; have BK463 := n1_; have BK464 := n2_; have HB := n3_
 clear n0_ n1_ n2_ n3_
 (try clear hb)
 (try clear hb2)
 (try clear hk)
 (try clear hi)
 (try clear ho0)
 obtain ⟨Ao12, co12, eo12⟩ := Kd.R_slice HO467.out
 (first | subst eo12 | (injection eo12 with f1_ f2_ f3_; have f4_ := f1_.symm; have f5_ := f3_.symm; clear f1_ f2_ f3_; subst f4_; subst f5_))
 refine hK.out _ _ trivial (fun hHeld => ?_)
 clear hK K
 refine nm_ ?_
 refine pure_ (i := 7) (N := some 16) (v := ?_) (a' := ?_) (mb_ 13 2047) rfl rfl (any_of HT_.out (by kernel_rfl)) (fun _ _ _ h => h) (Or.inl ⟨by rfl, ?_⟩) ?_ ?_
 rotate_left
 ·
  intro w'
  go_simp
  first | with_reducible rfl | rfl
 rotate_left
 ·
  simp only [Act.put, setIfInBounds_toArray, set_cons_zero, set_cons_succ, i64_w, i32_w]
  rfl
 refine pure_ (i := 11) (N := some 20) (v := ?_) (a' := ?_) (mb_ 13 4095) rfl rfl (any_of HT_.out (by kernel_rfl)) (fun _ _ _ h => h) (Or.inl ⟨by rfl, ?_⟩) ?_ ?_
 rotate_left
 ·
  intro w'
  go_simp
  first | with_reducible rfl | rfl
 rotate_left
 ·
  simp only [Act.put, setIfInBounds_toArray, set_cons_zero, set_cons_succ, i64_w, i32_w]
  rfl
 refine one_ (i := 12) (N := none) (mb_ 13 8191) rfl rfl (one_of HT_.out (by kernel_rfl)) (by decide) (fun K hK => ?_)
 have hs13 : w11.cell? ⟨gb464, 0, none⟩ = some (.slice none 0 0) := (blk_cell BK464.out 0).trans rfl
 have hfs13 := blk_frozen BK464.out 0
 have hns13_0 := NB463_464.out
 have hms13_0 := NB464_463.out
 have hs14 : w11.cell? ⟨gb464, 1, none⟩ = some (.int .i64 0) := (blk_cell BK464.out 1).trans rfl
 have hfs14 := blk_frozen BK464.out 1
 have hns14_0 := NB463_464.out
 have hms14_0 := NB464_463.out
 refine skip_ (w1 := ?_) (by rfl) rfl ?_ ?_
 rotate_left
 ·
  go_simp
  rfl
 refine hK.out _ _ trivial (fun hHeld => ?_)
 clear hK K
 refine done_ (done_of HT_.out (by kernel_rfl)) ?_
 try go_wp2
 refine bodyPost_ret (results_cell_row rfl _ _ gb464 35 #[.slice Ao12 t465.length co12, .int .i64 ji5] (0, 0) _ rfl (by (with_reducible repeat (first | refine kN_ ?_ _ | refine k1_ ?_ | refine ka_ ?_ _)); refine blk_put (cs := #[.slice Ao12 t465.length co12, .int .i64 0]) ?_ 1 _ rfl; (with_reducible repeat (first | refine kN_ ?_ _ | refine k1_ ?_ | refine ka_ ?_ _)); refine blk_put (cs := #[.slice none 0 0, .int .i64 0]) ?_ 0 _ rfl; exact pk BK464.out) Try.underlying35 rfl (by kernel_rfl)) rfl ?_
 exact ⟨_, by first | rfl | (simp [errW_none, errW_some] <;> rfl) | (simp only [← hji3, ← hji5]; first | rfl | (simp [errW_none, errW_some] <;> rfl)) | (simp [*, errW_none, errW_some] <;> rfl), by (with_reducible repeat (first | apply Kd.R_alloc | apply Kd.R_drewN | apply Kd.R_drew)); exact Kd.R_mono (Kd.R_far (p := ⟨gb464, 1, none⟩) (Kd.R_far (p := ⟨gb464, 0, none⟩) (Kd.R_types HO467.out BK464.out (by decide)) (fun _ hk => hk.2) (.slice Ao12 t465.length co12)) (fun _ hk => hk.2) (.int .i64 ji5)) (fun _ hk => trivial), bl_⟩
def impl_slowest.l0 : Nat → List Int → Int → List Int → Int → Int → Option (Int)
 | 0, _, _, _, _, _ => none
 | k + 1, x0, x5, x8, x9, x10 => if x10 < x9 then (if 0 ≤ x10 then (if x10 < (x8.length : Int) then (if 0 ≤ (rd x8 x10) then (if (rd x8 x10) < (x0.length : Int) then (impl_slowest.l0 k x0 (mx x5 (rd x0 (rd x8 x10))) x8 x9 (wrap64 (x10 + 1))) else (none)) else (none)) else (none)) else (none)) else (some x5)
def impl_slowest.f (k : Nat) (l0 : List Int) (l1 : List Int) : Option (Int) := impl_slowest.l0 k l0 0 l1 (l1.length : Int) 0
theorem impl_slowest.calls (k : Nat) (A0 : Option Addr) (c0 : Nat) (l0 : List Int) (A1 : Option Addr) (c1 : Nat) (l1 : List Int) (r : Int) (w : World) (hr0 : Kd.C (Kd.int .i64) w A0 l0.length l0) (hc0 : l0.length ≤ c0) (hr1 : Kd.C (Kd.int .i64) w A1 l1.length l1) (hc1 : l1.length ≤ c1) (h : impl_slowest.f k l0 l1 = some r) :
  Calls Try.prog 97 #[.slice A0 l0.length c0, .slice A1 l1.length c1] w fun e w' => e = .returned (.int .i64 r) ∧ Below w.heap.size w w' := by
 have HR0 := ak_ hr0
 have HC0 := ak_ hc0
 clear hr0 hc0
 have HR1 := ak_ hr1
 have HC1 := ak_ hc1
 clear hr1 hc1
 have HB := ak_ (Below.refl w.heap.size w)
 have H : (impl_slowest.l0 k l0 0 l1 (l1.length : Int) 0) = some r := h
 clear h
 have H' := ak_ H
 clear H
 go_enter Try.func97, Try.ntmps97
 go_wp2
 go_loopg [5, 10] k (fun kq v5 v10 w' => ∃ (x5_1 : Int) (x10_1 : Int), v5 = .int .i64 x5_1 ∧ v10 = .int .i64 x10_1 ∧ Aside0 (impl_slowest.l0 kq l0 x5_1 l1 (l1.length : Int) x10_1 = some r) ∧ Aside0 (kq ≤ k) ∧ Aside0 (Below w.heap.size w w'))
 case atStart => exact ⟨(0), (0), (ry_), (ry_), H', ⟨Nat.le_refl _⟩, ⟨bb_ HB.out⟩⟩
 case round =>
  clear H'
  try clear c1
  try clear p2
  obtain ⟨x5_1, x10_1, rfl, rfl, HA, HK1, HB⟩ := hrel
  cases gk with
  | zero => exact absurd HA.out (by simp [impl_slowest.l0])
  | succ k1 =>
   have H := HA.out
   clear HA
   simp only [impl_slowest.l0] at H
   by_cases c3 : x10_1 < (l1.length : Int)
   ·
    rw [if_pos c3] at H
    have c3b0 := decide_eq_true c3
    clear c3
    by_cases c4 : 0 ≤ x10_1
    ·
     rw [if_pos c4] at H
     have c4b0 := decide_eq_true c4
     clear c4
     by_cases c5 : x10_1 < (l1.length : Int)
     ·
      rw [if_pos c5] at H
      have c5b0 := decide_eq_true c5
      clear c5
      by_cases c6 : 0 ≤ (rd l1 x10_1)
      ·
       rw [if_pos c6] at H
       have c6b0 := decide_eq_true c6
       clear c6
       by_cases c7 : (rd l1 x10_1) < (l0.length : Int)
       ·
        rw [if_pos c7] at H
        have c7b0 := decide_eq_true c7
        clear c7
        obtain ⟨ji8, hji8⟩ : ∃ j_ : Int, (mx x5_1 (rd l0 (rd l1 x10_1))) = j_ := ⟨_, rfl⟩
        replace H : (impl_slowest.l0 k1 l0 ji8 l1 (l1.length : Int) (wrap64 (x10_1 + 1))) = some r := by first | (rw [hji8] at H; exact H) | (simp only [hji8] at H ⊢; exact H)
        have hji8_ : (if x5_1 < (rd l0 (rd l1 x10_1)) then (rd l0 (rd l1 x10_1)) else x5_1) = ji8 := hji8
        have H' := ak_ H
        clear H
        have p469 : 0 ≤ (x10_1 : Int) := od_
        have q469 : x10_1 < (l1.length : Int) := od_
        obtain ⟨ad469, e469, hx469_0⟩ := Kd.at_int HR1.out x10_1 p469 q469
        cases e469
        try replace hx469_0 := (HB.out.cell (World.block_lt_of_cell? w _ hx469_0)).trans hx469_0
        replace p469 := eq_true p469
        replace q469 := eq_true q469
        have p470 : 0 ≤ ((rd l1 x10_1) : Int) := od_
        have q470 : (rd l1 x10_1) < (l0.length : Int) := od_
        obtain ⟨ad470, e470, hx470_0⟩ := Kd.at_int HR0.out (rd l1 x10_1) p470 q470
        cases e470
        try replace hx470_0 := (HB.out.cell (World.block_lt_of_cell? w _ hx470_0)).trans hx470_0
        replace p470 := eq_true p470
        replace q470 := eq_true q470
        go_wp2
        go_roundg k1
        case measure => have := HK1.out; omega
        case rel => exact ⟨(ji8), (wrap64 (x10_1 + 1)), (by first | rfl | (simp; done) | (simp only [← hji8] <;> (first | rfl | simp)) | (simp [*]; done)), (ry_), H', ⟨by have := HK1.out; omega⟩, ⟨bb_ HB.out⟩⟩
       ·
        rw [if_neg c7] at H
        exact absurd H (by simp)
      ·
       rw [if_neg c6] at H
       exact absurd H (by simp)
     ·
      rw [if_neg c5] at H
      exact absurd H (by simp)
    ·
     rw [if_neg c4] at H
     exact absurd H (by simp)
   ·
    rw [if_neg c3] at H
    have c3b0 := decide_eq_false c3
    clear c3
    obtain rfl := Option.some.inj H
    go_wp2
    go_ret
    exact ⟨rx_, bb_ HB.out⟩
def impl_Night_roundTime.l0 : Nat → Int → List (List Int) → Int → Int → List Int → Int → Int → Option (Int)
 | 0, _, _, _, _, _, _, _ => none
 | k + 1, x5, x8, x9, x10, x472000, x472001, x472002 => if x10 < x9 then (if 0 ≤ x10 then (if x10 < (x8.length : Int) then ((impl_slowest.f k x472000 (rd_L1 x8 x10)).bind fun t473 => (impl_Night_roundTime.l0 k (mx x5 t473) x8 x9 (wrap64 (x10 + 1)) x472000 x472001 x472002)) else (none)) else (none)) else (some x5)
def impl_Night_roundTime.f (k : Nat) (l0_0 : List Int) (a0_1 : Int) (a0_2 : Int) (l1 : List (List Int)) : Option (Int) := impl_Night_roundTime.l0 k 0 l1 (l1.length : Int) 0 l0_0 a0_1 a0_2
theorem impl_Night_roundTime.calls (k : Nat) (A0_0 : Option Addr) (c0_0 : Nat) (l0_0 : List Int) (a0_1 : Int) (a0_2 : Int) (A1 : Option Addr) (c1 : Nat) (l1 : List (List Int)) (r : Int) (w : World) (hr0_0 : Kd.C (Kd.int .i64) w A0_0 l0_0.length l0_0) (hc0_0 : l0_0.length ≤ c0_0) (hr1 : Kd.C (Kd.slice 3 (Kd.int .i64)) w A1 l1.length l1) (hc1 : l1.length ≤ c1) (h : impl_Night_roundTime.f k l0_0 a0_1 a0_2 l1 = some r) :
  Calls Try.prog 78 #[.agg #[.slice A0_0 l0_0.length c0_0, .int .i64 a0_1, .int .i64 a0_2], .slice A1 l1.length c1] w fun e w' => e = .returned (.int .i64 r) ∧ Below w.heap.size w w' := by
 have hu33 := Try.underlying33
 have HR0_0 := ak_ hr0_0
 have HC0_0 := ak_ hc0_0
 clear hr0_0 hc0_0
 have HR1 := ak_ hr1
 have HC1 := ak_ hc1
 clear hr1 hc1
 have HB := ak_ (Below.refl w.heap.size w)
 have H : (impl_Night_roundTime.l0 k 0 l1 (l1.length : Int) 0 l0_0 a0_1 a0_2) = some r := h
 clear h
 have H' := ak_ H
 clear H
 go_enter Try.func78, Try.ntmps78
 go_wp2_with (first | ((with_reducible refine gate_dst (N := 2) rfl ?_); refine bx_ 2 #[.slice A0_0 l0_0.length c0_0, .int .i64 a0_1, .int .i64 a0_2] 33 ?_; intro gb471 hg w3 hbox hb; have BK471 := ak_ (hbox); have GW471 := ak_ ((by rw [hg]; exact (bz_ (bb_ HB.out)) : w.heap.size ≤ gb471)); replace HB := ak_ (bs_ (bb_ HB.out) hb); have GE471 := GW471; clear hb hbox hg))
 go_loopg [5, 10] k (fun kq v5 v10 w' => ∃ (x5_1 : Int) (x10_1 : Int), v5 = .int .i64 x5_1 ∧ v10 = .int .i64 x10_1 ∧ Aside0 (impl_Night_roundTime.l0 kq x5_1 l1 (l1.length : Int) x10_1 l0_0 a0_1 a0_2 = some r) ∧ Aside0 (kq ≤ k) ∧ Aside0 (w'.heap[gb471]? = some (.cells #[(.slice A0_0 l0_0.length c0_0), .int .i64 a0_1, .int .i64 a0_2] 33 (0, 0))) ∧ Aside0 (Below w.heap.size w w'))
 case atStart => exact ⟨(0), (0), (ry_), (ry_), H', ⟨Nat.le_refl _⟩, ⟨pk BK471.out⟩, ⟨bl_⟩⟩
 case round =>
  clear H'
  try clear c1
  try clear p2
  obtain ⟨x5_1, x10_1, rfl, rfl, HA, HK1, BK471, HB⟩ := hrel
  cases gk with
  | zero => exact absurd HA.out (by simp [impl_Night_roundTime.l0])
  | succ k1 =>
   have H := HA.out
   clear HA
   simp only [impl_Night_roundTime.l0] at H
   by_cases c4 : x10_1 < (l1.length : Int)
   ·
    rw [if_pos c4] at H
    have c4b0 := decide_eq_true c4
    clear c4
    by_cases c5 : 0 ≤ x10_1
    ·
     rw [if_pos c5] at H
     have c5b0 := decide_eq_true c5
     clear c5
     by_cases c6 : x10_1 < (l1.length : Int)
     ·
      rw [if_pos c6] at H
      have c6b0 := decide_eq_true c6
      clear c6
      replace H := Option.bind_eq_some_iff.mp H
      obtain ⟨t473, A70, H⟩ := H
      replace H : (impl_Night_roundTime.l0 k1 (mx x5_1 t473) l1 (l1.length : Int) (wrap64 (x10_1 + 1)) l0_0 a0_1 a0_2) = some r := H
      have A7 := ak_ A70
      clear A70
      obtain ⟨ji8, hji8⟩ : ∃ j_ : Int, (mx x5_1 t473) = j_ := ⟨_, rfl⟩
      replace H : (impl_Night_roundTime.l0 k1 ji8 l1 (l1.length : Int) (wrap64 (x10_1 + 1)) l0_0 a0_1 a0_2) = some r := by first | (rw [hji8] at H; exact H) | (simp only [hji8] at H ⊢; exact H)
      (try rw [hji8] at A7)
      have hji8_ : (if x5_1 < t473 then t473 else x5_1) = ji8 := hji8
      have H' := ak_ H
      clear H
      have p472 : 0 ≤ (x10_1 : Int) := od_
      have q472 : x10_1 < (l1.length : Int) := od_
      obtain ⟨ad472, A472_0, c472_0, e472, hx472_0, hl472_0, hi472_0⟩ := at_L1 HR1.out x10_1 p472 q472
      cases e472
      try replace hx472_0 := (HB.out.cell (World.block_lt_of_cell? w _ hx472_0)).trans hx472_0
      have HR472_0 := ak_ hi472_0
      have HC472_0 := ak_ hl472_0
      clear hi472_0 hl472_0
      replace p472 := eq_true p472
      replace q472 := eq_true q472
      obtain ⟨hcz9_0, hcz9_1, hcz9_2, hfz9_0, hfz9_1, hfz9_2⟩ := c3_ BK471.out
      go_wp2_with (first | ((with_reducible refine gate_callee (f := 97) rfl ?_); refine goesL_ (some 18) rfl rfl Try.func97 (by kernel_rfl) rfl #[.slice A0_0 l0_0.length c0_0, .slice A472_0 (rd_L1 l1 x10_1).length c472_0] rfl rs_ ?_; (with_reducible refine (impl_slowest.calls k1 _ _ l0_0 _ _ (rd_L1 l1 x10_1) t473 _ ?side1 ?side2 ?side3 ?side4 A7.out).mono ?_); (case side1 => exact cs_ (Kd.C_below HR0_0.out HB.out)); (case side2 => exact HC0_0.out); (case side3 => exact cs_ (Kd.C_below HR472_0.out HB.out)); (case side4 => exact HC472_0.out); rintro e w10 ⟨rfl, hb⟩; refine ⟨_, rfl, ?_⟩; replace BK471 := ak_ (blk_below (pk BK471.out) hb); replace HB := ak_ (bs_ bl_ hb); (try clear hb); (try clear hb2); (try clear hk); (try clear hi)))
      go_roundg k1
      case measure => have := HK1.out; omega
      case rel => exact ⟨(ji8), (wrap64 (x10_1 + 1)), (by first | rfl | (simp; done) | (simp only [← hji8] <;> (first | rfl | simp)) | (simp [*]; done)), (ry_), H', ⟨by have := HK1.out; omega⟩, ⟨pk BK471.out⟩, ⟨bl_⟩⟩
     ·
      rw [if_neg c6] at H
      exact absurd H (by simp)
    ·
     rw [if_neg c5] at H
     exact absurd H (by simp)
   ·
    rw [if_neg c4] at H
    have c4b0 := decide_eq_false c4
    clear c4
    obtain rfl := Option.some.inj H
    go_wp2
    go_ret
    exact ⟨rx_, bl_⟩
def slices_Clone_bool_bool_s.f (l0 : List Bool) : Option (List Bool) := (some (([] : List Bool) : List Bool)).bind fun y474 => (if y474.length + l0.length < 140737488355328 then (some (y474 ++ l0)) else (none))
theorem slices_Clone_bool_bool_s.calls (ad0 : Addr) (c0 : Nat) (l0 : List Bool) (r : List Bool) (w : World) (hr0 : Kd.C Kd.bool w (some ad0) l0.length l0) (hc0 : l0.length ≤ c0) (h : slices_Clone_bool_bool_s.f l0 = some r) :
  Calls Try.prog 98 #[.slice (some ad0) l0.length c0] w fun e w' => ∃ v0_ : Value, e = .returned (v0_) ∧ Kd.R Kd.bool 4 w' w.heap.size (fun _ => True) v0_ r ∧ Below w.heap.size w w' := by
 have HR0 := ak_ hr0
 have HC0 := ak_ hc0
 clear hr0 hc0
 have HB := ak_ (Below.refl w.heap.size w)
 have H : ((some (([] : List Bool) : List Bool)).bind fun y474 => (if y474.length + l0.length < 140737488355328 then (some (y474 ++ l0)) else (none))) = some r := h
 clear h
 obtain ⟨y474, hy474⟩ : ∃ y_ : List Bool, y_ = (([] : List Bool)) := ⟨_, rfl⟩
 replace H : (if y474.length + l0.length < 140737488355328 then (some (y474 ++ l0)) else (none)) = some r := by first | (rw [hy474]; exact H) | exact H
 have Ny474 := ak_ hy474
 clear hy474
 by_cases c2 : y474.length + l0.length < 140737488355328
 ·rw [if_pos c2] at H
  have LMc2 := ak_ c2
  clear c2
  obtain ⟨y477, hy477⟩ : ∃ y_ : List Bool, y_ = (y474 ++ l0) := ⟨_, rfl⟩
  replace H : (some y477) = some r := by first | (rw [hy477]; exact H) | exact H
  have Ny477 := ak_ hy477
  clear hy477
  obtain rfl := Option.some.inj H
  have hnil := fun (W : World) (a : Option Addr) (n c : Nat) => Go.Lib.run_eql_slice_nil (P := Try.prog) W 25 4 a n c 0 0 Try.underlying25
  go_enter Try.func98, Try.ntmps98
  go_wp2_with (first | ((with_reducible refine gate_dst (N := 5) rfl ?_); refine Kd.R_lit Kd.bool _ 4 ?hg (N := 5) ?hd (xs := ([] : List Bool)) (inner := []) (ok := fun _ => True) (okp := fun _ => True) ?hr ?hp (fun _ hk => hk) trivial (Below.refl _ _) (Nat.le_refl _) (by simp) ?_; (case hd => rfl); (case hg => rfl); (case hr => go_simp <;> rfl); (case hp => exact (Reps.none _ _)); intro v475 w3 ho4 hb hg_ hnew_; clear hg_ hnew_; (first | rw [← Ny474.out] at ho4 | (simp only [Int.reduceToNat] at ho4; rw [← Ny474.out] at ho4)); have HO476 := ak_ (Kd.R_lower ho4 (bz_ (bb_ HB.out))); replace HB := ak_ (bs_ (bb_ HB.out) hb); clear hb ho4) | ((with_reducible refine gate_builtin (b := .append) (xs := #[.tmp 5, .tmp 6]) rfl ?_); at_builtin; refine Kd.R_append_rows Kd.bool (w0 := w) w.heap.size rfl (.tmp 5) (.tmp 6) 25 4 (.bool false) 1 rfl Try.underlying25 info4 rfl (by decide) (by omega) v475 y474 l0 _ _ _ (fun _ => True) (fun _ => False) rfl rfl ?aO ?aR (fun _ _ h => h) (fun _ h => h.elim) ?aF ?aB ?aS ?aL ?_; (case aR => repeat (first | exact (Kd.C_below HR0.out HB.out) | (with_reducible refine Kd.C_alloc ?_ _) | (with_reducible refine Kd.C_drewN ?_ _) | (with_reducible refine Kd.C_drew ?_))); (case aB => exact (bb_ HB.out)); (case aF => exact (fun _ _ => trivial)); (case aO => exact (Kd.pR HO476.out)); (case aS => exact (bz_ (bb_ HB.out))); (case aL => have := LMc2.out; omega); intro v478 w5 ho hb hg hat; rw [← Ny477.out] at ho; replace HB := ak_ (hb); have HO479 := ak_ (ho); clear HO476; clear ho hb hg hat))
  go_ret
  exact ⟨_, rx_, by (with_reducible repeat (first | apply Kd.R_alloc | apply Kd.R_drewN | apply Kd.R_drew)); exact HO479.out, bb_ HB.out⟩
 ·rw [if_neg c2] at H
  exact absurd H (by simp)
theorem slices_Clone_bool_bool_s.f_eq (l0 : List Bool) : slices_Clone_bool_bool_s.f l0 = if l0.length < 140737488355328 then some l0 else none := by
 unfold slices_Clone_bool_bool_s.f
 simp
def slices_Clone_bool_bool.f (l0 : List Bool) : Option (List Bool) := if l0.length < 140737488355328 then some l0 else none
theorem slices_Clone_bool_bool.calls (A0 : Option Addr) (c0 : Nat) (l0 : List Bool) (r : List Bool) (w : World) (hr0 : Kd.C Kd.bool w A0 l0.length l0) (hc0 : l0.length ≤ c0) (h : slices_Clone_bool_bool.f l0 = some r) :
  Calls Try.prog 98 #[.slice A0 l0.length c0] w fun e w' => ∃ v0_ : Value, e = .returned (v0_) ∧ Kd.R Kd.bool 4 w' w.heap.size (fun _ => True) v0_ r ∧ Below w.heap.size w w' := by
 cases A0 with
 | some ad => exact slices_Clone_bool_bool_s.calls ad c0 l0 r w hr0 hc0 (by rw [slices_Clone_bool_bool_s.f_eq]; exact h)
 | none =>
  obtain rfl : l0 = [] := by
   cases l0 with
   | nil => rfl
   | cons x xs =>
    obtain ⟨ad, he, _⟩ := hr0.2.2 (by simp)
    exact absurd he (by simp)
  obtain rfl : [] = r := by
   unfold slices_Clone_bool_bool.f at h
   simpa using h
  clear hr0 h
  have hnil := fun (W : World) (a : Option Addr) (n c : Nat) => Go.Lib.run_eql_slice_nil (P := Try.prog) W 25 4 a n c 0 0 Try.underlying25
  go_enter Try.func98, Try.ntmps98
  go_wp2
  go_ret
  exact ⟨_, rfl, Kd.R_nil Kd.bool 4 w w.heap.size _, Below.refl _ _⟩
mutual
def impl_Camp_after.l0 : Nat → List (List Int) → Int → Int → List Bool → Int → List Bool → Int → Option (List Bool × Int)
 | 0, _, _, _, _, _, _, _ => none
 | k + 1, x16, x17, x18, x481000, x481001, x486000, x486001 => if x18 < x17 then (if 0 ≤ x18 then (if x18 < (x16.length : Int) then (if 0 < ((rd_L1 x16 x18).length : Int) then (if 0 ≤ (rd (rd_L1 x16 x18) 0) then (if (rd (rd_L1 x16 x18) 0) < (x481000.length : Int) then ((impl_bit.f (rdOf false x481000 (rd (rd_L1 x16 x18) 0))).bind fun t489 => (impl_Camp_after.l1 k x16 x17 x18 (rd_L1 x16 x18) ((rd_L1 x16 x18).length : Int) 0 x481000 x481001 x486000 (wrap64 (x486001 + (wrap64 (1 - (wrap64 (2 * t489)))))))) else (none)) else (none)) else (none)) else (none)) else (none)) else (some (x486000, x486001))
def impl_Camp_after.l1 : Nat → List (List Int) → Int → Int → List Int → Int → Int → List Bool → Int → List Bool → Int → Option (List Bool × Int)
 | 0, _, _, _, _, _, _, _, _, _, _ => none
 | k + 1, x16, x17, x18, x36, x37, x38, x481000, x481001, x486000, x486001 => if x38 < x37 then (if 0 ≤ x38 then (if x38 < (x36.length : Int) then (if 0 ≤ (rd x36 x38) then (if (rd x36 x38) < (x481000.length : Int) then (if (rd x36 x38) < (x486000.length : Int) then (impl_Camp_after.l1 k x16 x17 x18 x36 x37 (wrap64 (x38 + 1)) x481000 x481001 (x486000.set ((rd x36 x38) : Int).toNat (!(rdOf false x481000 (rd x36 x38)))) x486001) else (none)) else (none)) else (none)) else (none)) else (none)) else (impl_Camp_after.l0 k x16 x17 (wrap64 (x18 + 1)) x481000 x481001 x486000 x486001)
end
def impl_Camp_after.f (k : Nat) (l0_0 : List Bool) (a0_1 : Int) (l1 : List (List Int)) : Option (List Bool × Int) := (slices_Clone_bool_bool.f l0_0).bind fun t482 => (impl_Camp_after.l0 k l1 (l1.length : Int) 0 l0_0 a0_1 t482 a0_1)
def impl_Camp_after.T1 : Bool × List (List Nat × List Nat) := (true, [([], []), ([0], [0]), ([1], [1]), ([], []), ([3], [3]), ([2, 4], [2, 4]), ([], []), ([6, 5, 2, 0, 1, 2, 3, 4, 5, 6], [5, 6])])
def impl_Camp_after.B1 : List Nat := [0, 1, 3, 0, 8, 31, 0, 127]
theorem impl_Camp_after.tab1 : rtab .any (opsOf Try.f79 1) = impl_Camp_after.T1 := by kernel_rfl
theorem impl_Camp_after.bits1 : waitsOk impl_Camp_after.T1.2 impl_Camp_after.B1 = true := by kernel_rfl
def impl_Camp_after.T5 : Bool × List (List Nat × List Nat) := (true, [([], []), ([0], [0]), ([], []), ([2], [2]), ([], []), ([4], [4]), ([5], [5]), ([3, 6], [3, 6]), ([7], [7]), ([8], [8]), ([9], [9]), ([10], [10]), ([1, 11], [1, 11]), ([0, 1, 2, 3, 4, 5, 6, 7, 8, 9, 10, 11, 12], []), ([13, 12, 9, 0, 1, 2, 3, 4, 5, 6, 7, 8, 9, 10, 11, 12], [12, 13])])
def impl_Camp_after.B5 : List Nat := [0, 1, 0, 4, 0, 16, 48, 124, 252, 508, 1020, 2044, 4095, 8191, 16383]
theorem impl_Camp_after.tab5 : rtab .any (opsOf Try.f79 5) = impl_Camp_after.T5 := by kernel_rfl
theorem impl_Camp_after.bits5 : waitsOk impl_Camp_after.T5.2 impl_Camp_after.B5 = true := by kernel_rfl
def impl_Camp_after.T9 : Bool × List (List Nat × List Nat) := (true, [([], []), ([0], [0]), ([], []), ([], []), ([3], [3]), ([], []), ([4, 5], [4, 5]), ([6], [6]), ([7], [7]), ([1, 2, 0, 1, 2, 3, 4, 5, 6, 7, 8], [1, 2]), ([9, 8, 0, 1, 2, 3, 4, 5, 6, 7, 8], [8, 9])])
def impl_Camp_after.B9 : List Nat := [0, 1, 0, 0, 8, 0, 56, 120, 248, 511, 1023]
theorem impl_Camp_after.tab9 : rtab .any (opsOf Try.f79 9) = impl_Camp_after.T9 := by kernel_rfl
theorem impl_Camp_after.bits9 : waitsOk impl_Camp_after.T9.2 impl_Camp_after.B9 = true := by kernel_rfl
theorem impl_Camp_after.calls (k : Nat) (A0_0 : Option Addr) (c0_0 : Nat) (l0_0 : List Bool) (a0_1 : Int) (A1 : Option Addr) (c1 : Nat) (l1 : List (List Int)) (r1 : List Bool) (r2 : Int) (w : World) (hr0_0 : Kd.C Kd.bool w A0_0 l0_0.length l0_0) (hc0_0 : l0_0.length ≤ c0_0) (hr1 : Kd.C (Kd.slice 3 (Kd.int .i64)) w A1 l1.length l1) (hc1 : l1.length ≤ c1) (h : impl_Camp_after.f k l0_0 a0_1 l1 = some (r1, r2)) :
  Calls Try.prog 79 #[.agg #[.slice A0_0 l0_0.length c0_0, .int .i64 a0_1], .slice A1 l1.length c1] w fun e w' => ∃ v0_ : Value, e = .returned (.agg #[v0_, .int .i64 r2]) ∧ Kd.R Kd.bool 4 w' w.heap.size (fun _ => True) v0_ r1 ∧ Below w.heap.size w w' := by
 have hu35 := Try.underlying35
 have HR0_0 := ak_ hr0_0
 have HC0_0 := ak_ hc0_0
 clear hr0_0 hc0_0
 have HR1 := ak_ hr1
 have HC1 := ak_ hc1
 clear hr1 hc1
 have HB := ak_ (Below.refl w.heap.size w)
 have H : ((slices_Clone_bool_bool.f l0_0).bind fun t482 => (impl_Camp_after.l0 k l1 (l1.length : Int) 0 l0_0 a0_1 t482 a0_1)) = some (r1, r2) := h
 clear h
 replace H := Option.bind_eq_some_iff.mp H
 obtain ⟨t482, A30, H⟩ := H
 replace H : (impl_Camp_after.l0 k l1 (l1.length : Int) 0 l0_0 a0_1 t482 a0_1) = some (r1, r2) := H
 have A3 := ak_ A30
 clear A30
 have H' := ak_ H
 clear H
 go_enter Try.func79, Try.ntmps79
 try go_wp2_with (first | ((with_reducible refine gate_dst (N := 2) rfl ?_); refine bx_ 2 #[.slice A0_0 l0_0.length c0_0, .int .i64 a0_1] 35 ?_; intro gb480 hg w4 hbox hb; have BK480 := ak_ (hbox); have GW480 := ak_ ((by rw [hg]; exact (bz_ (bb_ HB.out)) : w.heap.size ≤ gb480)); replace HB := ak_ (bs_ (bb_ HB.out) hb); have GE480 := GW480; clear hb hbox hg) | ((with_reducible refine gate_dst (N := 4) rfl ?_); refine bx_ 4 #[.slice none 0 0, .int .i64 0] 35 ?_; intro gb481 hg w5 hbox hb; have BK481 := ak_ (hbox); have GW481 := ak_ ((by rw [hg]; exact (bz_ bl_) : w.heap.size ≤ gb481)); replace HB := ak_ (bs_ bl_ hb); have GE481 := GW481; have NB480_481 := ak_ ((by rw [hg]; exact Nat.ne_of_lt (blk_lt (pk BK480.out)) : gb480 ≠ gb481)); replace BK480 := ak_ (blk_below (pk BK480.out) hb); have NB481_480 := ak_ NB480_481.out.symm; clear hb hbox hg))
 have n0_ := ak_ (k1_ BK480.out)
 have n1_ := ak_ (k1_ BK481.out)
 have n2_ := ak_ (b1_ HB.out)
 clear BK480 BK481 HB
 have BK480 := n0_; have BK481 := n1_; have HB := n2_
 clear n0_ n1_ n2_
 refine start_ (n := 8) (S := fun w' => w'.cell? ⟨gb480, 0, none⟩ = some (.slice A0_0 l0_0.length c0_0) ∧ w'.cell? ⟨gb480, 1, none⟩ = some (.int .i64 a0_1)) (ds := []) (mb_ 8 0) (by kernel_rfl) rfl rfl ⟨(blk_cell BK480.out 0).trans rfl, (blk_cell BK480.out 1).trans rfl⟩ (fun hHeld => ?_); refine with_tabW impl_Camp_after.tab1 impl_Camp_after.bits1 (fun HT_ HW_ => ?_)
 generalize w5.drew = w6 at BK480 BK481 HB hHeld ⊢
 refine pu_ 0 10 8 1 ?_
 refine pu_ 3 13 8 9 ?_
 refine tk_ 1 11 8 11 ?_ (hy := by rintro w' ⟨s0, s1⟩; go_simp; with_reducible rfl)
 refine tk_ 4 14 8 27 ?_ (hy := by rintro w' ⟨s0, s1⟩; go_simp; with_reducible rfl)
 refine join_ (σ := Value × Nat) 1 (mb_ 8 127) (fun s_ => [(12, s_.1), (5, .pointer (some ⟨s_.2, 0, none⟩)), (15, .agg #[s_.1, .int .i64 a0_1])]) (fun s_ w' => (w'.cell? ⟨gb480, 0, none⟩ = some (.slice A0_0 l0_0.length c0_0) ∧ w'.cell? ⟨gb480, 1, none⟩ = some (.int .i64 a0_1)) ∧ (Kd.R Kd.bool 4 w' w.heap.size (fun _ => True) s_.1 t482) ∧ (w'.heap[gb480]? = some (.cells #[.slice A0_0 l0_0.length c0_0, .int .i64 a0_1] 35 (0, 0))) ∧ (w'.heap[gb481]? = some (.cells #[.slice none 0 0, .int .i64 0] 35 (0, 0))) ∧ (w'.heap[s_.2]? = some (.cells #[.slice none 0 0, .int .i64 0] 35 (0, 0))) ∧ (w.heap.size ≤ s_.2) ∧ (w.heap.size ≤ s_.2) ∧ (gb480 ≠ s_.2) ∧ (s_.2 ≠ gb480) ∧ (gb481 ≠ s_.2) ∧ (s_.2 ≠ gb481) ∧ (Below w.heap.size w w')) ?_ ?_
 rotate_left
 ·
  intro hCont
  refine two_ (i := 2) (j := 6) (Ni := some 12) (Nj := some 5) (mb_ 8 31) (mb_ 8 91) rfl rfl rfl rfl (two_of HT_.out (by kernel_rfl)) (by decide) (by decide) (fun K hK => ?_) (fun K hK => ?_)
  ·
   skip
   refine goes_ Try.func98 (by kernel_rfl) rfl #[.slice A0_0 l0_0.length c0_0] (by rfl) rfl rfl rs_ ?_
   with_reducible refine (slices_Clone_bool_bool.calls _ _ l0_0 t482 _ ?side1 ?side2 A3.out).mono ?_
   (case side1 => exact cs_ (Kd.C_below HR0_0.out HB.out))
   (case side2 => exact HC0_0.out)
   rintro e w7 ⟨v483, rfl, ho0, hb⟩
   refine ⟨_, rfl, ?_⟩
   have n0_ := ak_ (Kd.R_lower ho0 (bz_ bl_))
   have n1_ := ak_ (blk_below (pk BK480.out) hb)
   have n2_ := ak_ (blk_below (pk BK481.out) hb)
   have n3_ := ak_ (bs_ bl_ hb)
   clear BK480 BK481 HB
   have HO484 := n0_; have BK480 := n1_; have BK481 := n2_; have HB := n3_
   clear n0_ n1_ n2_ n3_
   (try clear hb)
   (try clear hb2)
   (try clear hk)
   (try clear hi)
   (try clear ho0)
   obtain ⟨Ao8, co8, eo8⟩ := Kd.R_slice HO484.out
   (first | subst eo8 | (injection eo8 with f1_ f2_ f3_; have f4_ := f1_.symm; have f5_ := f3_.symm; clear f1_ f2_ f3_; subst f4_; subst f5_))
   refine hK.out _ _ ⟨(blk_cell BK480.out 0).trans rfl, (blk_cell BK480.out 1).trans rfl⟩ (fun hHeld => ?_)
   clear hK K
   refine nm_ ?_
   refine pu_ 5 15 8 63 ?_
   refine on_ 6 5 8 127 (fun K hK => ?_)
   refine box_step ?hg (N := 5) ?hd (cs := #[.slice none 0 0, .int .i64 0]) (t := 35) ?hr ?_; (case hd => rfl); (case hg => rfl); (case hr => go_simp <;> rfl)
   intro gb485 hg w9 hbox hb
   have n0_ := ak_ (Kd.R_below (Kd.pR HO484.out) hb)
   have n1_ := ak_ (blk_below (pk BK480.out) hb)
   have n2_ := ak_ (blk_below (pk BK481.out) hb)
   have n3_ := ak_ (bs_ bl_ hb)
   have n4_ := ak_ (hbox)
   have n5_ := ak_ ((by rw [hg]; exact (bz_ bl_) : w.heap.size ≤ gb485))
   have n6_ := n5_
   have n7_ := ak_ ((by rw [hg]; exact Nat.ne_of_lt (blk_lt (pk BK480.out)) : gb480 ≠ gb485))
   have n8_ := ak_ n7_.out.symm
   have n9_ := ak_ ((by rw [hg]; exact Nat.ne_of_lt (blk_lt (pk BK481.out)) : gb481 ≠ gb485))
   have n10_ := ak_ n9_.out.symm
   clear HO484 BK480 BK481 HB
   have HO484 := n0_; have BK480 := n1_; have BK481 := n2_; have HB := n3_; have BK485 := n4_; have GW485 := n5_; have GE485 := n6_; have NB480_485 := n7_; have NB485_480 := n8_; have NB481_485 := n9_; have NB485_481 := n10_
   clear n0_ n1_ n2_ n3_ n4_ n5_ n6_ n7_ n8_ n9_ n10_ hb hbox hg
   refine hK.out _ _ ⟨(blk_cell BK480.out 0).trans rfl, (blk_cell BK480.out 1).trans rfl⟩ (fun hHeld => ?_)
   clear hK K
   refine nm_ ?_
   exact norm_ (by simp only [putAll, Act.put, setIfInBounds_toArray, set_cons_zero, set_cons_succ]) (hCont (.slice Ao8 t482.length co8, gb485) _ ⟨hHeld, (Kd.pR HO484.out), (pk BK480.out), (pk BK481.out), (pk BK485.out), GW485.out, GE485.out, NB480_485.out, NB485_480.out, NB481_485.out, NB485_481.out, bl_⟩)
  ·
   skip
   refine box_step ?hg (N := 5) ?hd (cs := #[.slice none 0 0, .int .i64 0]) (t := 35) ?hr ?_; (case hd => rfl); (case hg => rfl); (case hr => go_simp <;> rfl)
   intro gb485 hg w7 hbox hb
   have n0_ := ak_ (blk_below (pk BK480.out) hb)
   have n1_ := ak_ (blk_below (pk BK481.out) hb)
   have n2_ := ak_ (bs_ bl_ hb)
   have n3_ := ak_ (hbox)
   have n4_ := ak_ ((by rw [hg]; exact (bz_ bl_) : w.heap.size ≤ gb485))
   have n5_ := n4_
   have n6_ := ak_ ((by rw [hg]; exact Nat.ne_of_lt (blk_lt (pk BK480.out)) : gb480 ≠ gb485))
   have n7_ := ak_ n6_.out.symm
   have n8_ := ak_ ((by rw [hg]; exact Nat.ne_of_lt (blk_lt (pk BK481.out)) : gb481 ≠ gb485))
   have n9_ := ak_ n8_.out.symm
   clear BK480 BK481 HB
   have BK480 := n0_; have BK481 := n1_; have HB := n2_; have BK485 := n3_; have GW485 := n4_; have GE485 := n5_; have NB480_485 := n6_; have NB485_480 := n7_; have NB481_485 := n8_; have NB485_481 := n9_
   clear n0_ n1_ n2_ n3_ n4_ n5_ n6_ n7_ n8_ n9_ hb hbox hg
   refine hK.out _ _ ⟨(blk_cell BK480.out 0).trans rfl, (blk_cell BK480.out 1).trans rfl⟩ (fun hHeld => ?_)
   clear hK K
   refine nm_ ?_
   refine on_ 2 12 8 95 (fun K hK => ?_)
   refine goes_ Try.func98 (by kernel_rfl) rfl #[.slice A0_0 l0_0.length c0_0] (by rfl) rfl rfl rs_ ?_
   with_reducible refine (slices_Clone_bool_bool.calls _ _ l0_0 t482 _ ?side1 ?side2 A3.out).mono ?_
   (case side1 => exact cs_ (Kd.C_below HR0_0.out HB.out))
   (case side2 => exact HC0_0.out)
   rintro e w8 ⟨v483, rfl, ho0, hb⟩
   refine ⟨_, rfl, ?_⟩
   have n0_ := ak_ (Kd.R_lower ho0 (bz_ bl_))
   have n1_ := ak_ (blk_below (pk BK480.out) hb)
   have n2_ := ak_ (blk_below (pk BK481.out) hb)
   have n3_ := ak_ (blk_below (pk BK485.out) hb)
   have n4_ := ak_ (bs_ bl_ hb)
   clear BK480 BK481 BK485 HB
   have HO484 := n0_; have BK480 := n1_; have BK481 := n2_; have BK485 := n3_; have HB := n4_
   clear n0_ n1_ n2_ n3_ n4_
   (try clear hb)
   (try clear hb2)
   (try clear hk)
   (try clear hi)
   (try clear ho0)
   obtain ⟨Ao9, co9, eo9⟩ := Kd.R_slice HO484.out
   (first | subst eo9 | (injection eo9 with f1_ f2_ f3_; have f4_ := f1_.symm; have f5_ := f3_.symm; clear f1_ f2_ f3_; subst f4_; subst f5_))
   refine hK.out _ _ ⟨(blk_cell BK480.out 0).trans rfl, (blk_cell BK480.out 1).trans rfl⟩ (fun hHeld => ?_)
   clear hK K
   refine nm_ ?_
   refine pu_ 5 15 8 127 ?_
   exact norm_ (by simp only [putAll, Act.put, setIfInBounds_toArray, set_cons_zero, set_cons_succ]) (hCont (.slice Ao9 t482.length co9, gb485) _ ⟨hHeld, (Kd.pR HO484.out), (pk BK480.out), (pk BK481.out), (pk BK485.out), GW485.out, GE485.out, NB480_485.out, NB485_480.out, NB481_485.out, NB485_481.out, bl_⟩)
 rintro ⟨v483, gb485⟩ w10 ⟨hS_, h0_, h1_, h2_, h3_, h4_, h5_, h6_, h7_, h8_, h9_, h10_⟩
 have n0_ : Aside0 (Kd.R Kd.bool 4 w10 w.heap.size (fun _ => True) v483 t482) := ⟨h0_⟩
 have n1_ : Aside0 (w10.heap[gb480]? = some (.cells #[.slice A0_0 l0_0.length c0_0, .int .i64 a0_1] 35 (0, 0))) := ⟨h1_⟩
 have n2_ : Aside0 (w10.heap[gb481]? = some (.cells #[.slice none 0 0, .int .i64 0] 35 (0, 0))) := ⟨h2_⟩
 have n3_ : Aside0 (w10.heap[gb485]? = some (.cells #[.slice none 0 0, .int .i64 0] 35 (0, 0))) := ⟨h3_⟩
 have n4_ : Aside0 (w.heap.size ≤ gb485) := ⟨h4_⟩
 have n5_ : Aside0 (w.heap.size ≤ gb485) := ⟨h5_⟩
 have n6_ : Aside0 (gb480 ≠ gb485) := ⟨h6_⟩
 have n7_ : Aside0 (gb485 ≠ gb480) := ⟨h7_⟩
 have n8_ : Aside0 (gb481 ≠ gb485) := ⟨h8_⟩
 have n9_ : Aside0 (gb485 ≠ gb481) := ⟨h9_⟩
 have n10_ : Aside0 (Below w.heap.size w w10) := ⟨h10_⟩
 clear BK480 BK481 HB h0_ h1_ h2_ h3_ h4_ h5_ h6_ h7_ h8_ h9_ h10_
 have HO484 := n0_; have BK480 := n1_; have BK481 := n2_; have BK485 := n3_; have GW485 := n4_; have GE485 := n5_; have NB480_485 := n6_; have NB485_480 := n7_; have NB481_485 := n8_; have NB485_481 := n9_; have HB := n10_
 clear n0_ n1_ n2_ n3_ n4_ n5_ n6_ n7_ n8_ n9_ n10_
 have hHeld : w10.cell? ⟨gb480, 0, none⟩ = some (.slice A0_0 l0_0.length c0_0) ∧ w10.cell? ⟨gb480, 1, none⟩ = some (.int .i64 a0_1) := hS_
 obtain ⟨Ao11, co11, eo11⟩ := Kd.R_slice HO484.out
 (first | subst eo11 | (injection eo11 with f1_ f2_ f3_; have f4_ := f1_.symm; have f5_ := f3_.symm; clear f1_ f2_ f3_; subst f4_; subst f5_))
 refine norm_ (a' := ?_) ?_ ?_
 rotate_left
 ·
  simp only [putAll, Act.put, setIfInBounds_toArray, set_cons_zero, set_cons_succ]
  rfl
 refine one_ (i := 7) (N := none) (mb_ 8 255) rfl rfl (one_of HT_.out (by kernel_rfl)) (by decide) (fun K hK => ?_)
 have hs12 : w10.cell? ⟨gb485, 0, none⟩ = some (.slice none 0 0) := (blk_cell BK485.out 0).trans rfl
 have hfs12 := blk_frozen BK485.out 0
 have hns12_0 := NB480_485.out
 have hns12_1 := NB481_485.out
 have hms12_0 := NB485_480.out
 have hms12_1 := NB485_481.out
 have hs13 : w10.cell? ⟨gb485, 1, none⟩ = some (.int .i64 0) := (blk_cell BK485.out 1).trans rfl
 have hfs13 := blk_frozen BK485.out 1
 have hns13_0 := NB480_485.out
 have hns13_1 := NB481_485.out
 have hms13_0 := NB485_480.out
 have hms13_1 := NB485_481.out
 refine skip_ (w1 := ?_) (by rfl) rfl ?_ ?_
 rotate_left
 ·
  go_simp
  rfl
 refine hK.out _ _ ⟨((cell_far (p := ⟨gb485, _, none⟩) NB480_485.out _).trans (((cell_far (p := ⟨gb485, _, none⟩) NB480_485.out _).trans (hHeld.1)))), ((cell_far (p := ⟨gb485, _, none⟩) NB480_485.out _).trans (((cell_far (p := ⟨gb485, _, none⟩) NB480_485.out _).trans (hHeld.2))))⟩ (fun hHeld => ?_)
 clear hK K
 refine done_ (done_of HT_.out (by kernel_rfl)) ?_
 try go_wp2
 go_loopg [18] k (fun kq v18 w' => ∃ (x18_1 : Int) (x486000_1 : List Bool) (x486001_1 : Int) (u486000 : Value), v18 = .int .i64 x18_1 ∧ Aside0 (impl_Camp_after.l0 kq l1 (l1.length : Int) x18_1 l0_0 a0_1 x486000_1 x486001_1 = some (r1, r2)) ∧ Aside0 (kq ≤ k) ∧ Aside0 (Kd.R Kd.bool 4 w' w.heap.size (fun _ => True) u486000 x486000_1) ∧ Aside0 (w'.heap[gb480]? = some (.cells #[(.slice A0_0 l0_0.length c0_0), .int .i64 a0_1] 35 (0, 0))) ∧ Aside0 (w'.heap[gb481]? = some (.cells #[(.slice none 0 0), .int .i64 0] 35 (0, 0))) ∧ Aside0 (w'.heap[gb485]? = some (.cells #[u486000, .int .i64 x486001_1] 35 (0, 0))) ∧ Aside0 (Below w.heap.size w w'))
 case atStart => exact ⟨(0), (t482), (a0_1), (.slice Ao11 t482.length co11), (ry_), H', ⟨Nat.le_refl _⟩, ⟨by (with_reducible repeat (first | apply Kd.R_alloc | apply Kd.R_drewN | apply Kd.R_drew)); exact Kd.R_mono (Kd.R_far (p := ⟨gb485, 1, none⟩) (Kd.R_far (p := ⟨gb485, 0, none⟩) (Kd.R_types HO484.out BK485.out (by decide)) (fun _ hk => hk.2) (.slice Ao11 t482.length co11)) (fun _ hk => hk.2) (.int .i64 a0_1)) (fun _ hk => trivial)⟩, ⟨by (with_reducible repeat (first | refine kN_ ?_ _ | refine k1_ ?_ | refine ka_ ?_ _)); refine blk_far ?_ NB480_485.out _; (with_reducible repeat (first | refine kN_ ?_ _ | refine k1_ ?_ | refine ka_ ?_ _)); refine blk_far ?_ NB480_485.out _; exact pk BK480.out⟩, ⟨by (with_reducible repeat (first | refine kN_ ?_ _ | refine k1_ ?_ | refine ka_ ?_ _)); refine blk_far ?_ NB481_485.out _; (with_reducible repeat (first | refine kN_ ?_ _ | refine k1_ ?_ | refine ka_ ?_ _)); refine blk_far ?_ NB481_485.out _; exact pk BK481.out⟩, ⟨by (with_reducible repeat (first | refine kN_ ?_ _ | refine k1_ ?_ | refine ka_ ?_ _)); refine blk_put (cs := #[.slice Ao11 t482.length co11, .int .i64 0]) ?_ 1 _ rfl; (with_reducible repeat (first | refine kN_ ?_ _ | refine k1_ ?_ | refine ka_ ?_ _)); refine blk_put (cs := #[.slice none 0 0, .int .i64 0]) ?_ 0 _ rfl; exact pk BK485.out⟩, ⟨bl_⟩⟩
 case round =>
  clear H'
  try clear c1
  try clear p2
  try clear c7
  try clear c9
  obtain ⟨x18_1, x486000_1, x486001_1, u486000, rfl, HA, HK1, HO_486000, BK480, BK481, BK485, HB⟩ := hrel
  cases gk with
  | zero => exact absurd HA.out (by simp [impl_Camp_after.l0])
  | succ k1 =>
   have H := HA.out
   clear HA
   simp only [impl_Camp_after.l0] at H
   by_cases c14 : x18_1 < (l1.length : Int)
   ·
    rw [if_pos c14] at H
    have c14b0 := decide_eq_true c14
    clear c14
    by_cases c15 : 0 ≤ x18_1
    ·
     rw [if_pos c15] at H
     have c15b0 := decide_eq_true c15
     clear c15
     by_cases c16 : x18_1 < (l1.length : Int)
     ·
      rw [if_pos c16] at H
      have c16b0 := decide_eq_true c16
      clear c16
      by_cases c17 : 0 < ((rd_L1 l1 x18_1).length : Int)
      ·
       rw [if_pos c17] at H
       have c17b0 := decide_eq_true c17
       have c17b1 : decide (0 < (rd_L1 l1 x18_1).length) = true := decide_eq_true (by omega)
       clear c17
       by_cases c18 : 0 ≤ (rd (rd_L1 l1 x18_1) 0)
       ·
        rw [if_pos c18] at H
        have c18b0 := decide_eq_true c18
        clear c18
        by_cases c19 : (rd (rd_L1 l1 x18_1) 0) < (l0_0.length : Int)
        ·
         rw [if_pos c19] at H
         have c19b0 := decide_eq_true c19
         clear c19
         replace H := Option.bind_eq_some_iff.mp H
         obtain ⟨t489, A200, H⟩ := H
         replace H : (impl_Camp_after.l1 k1 l1 (l1.length : Int) x18_1 (rd_L1 l1 x18_1) ((rd_L1 l1 x18_1).length : Int) 0 l0_0 a0_1 x486000_1 (wrap64 (x486001_1 + (wrap64 (1 - (wrap64 (2 * t489))))))) = some (r1, r2) := H
         have A20 := ak_ A200
         clear A200
         have H' := ak_ H
         clear H
         have p486 : 0 ≤ (x18_1 : Int) := od_
         have q486 : x18_1 < (l1.length : Int) := od_
         obtain ⟨ad486, A486_0, c486_0, e486, hx486_0, hl486_0, hi486_0⟩ := at_L1 HR1.out x18_1 p486 q486
         cases e486
         try replace hx486_0 := (HB.out.cell (World.block_lt_of_cell? w _ hx486_0)).trans hx486_0
         have HR486_0 := ak_ hi486_0
         have HC486_0 := ak_ hl486_0
         clear hi486_0 hl486_0
         replace p486 := eq_true p486
         replace q486 := eq_true q486
         try go_wp2
         have n0_ := ak_ (Kd.R_drew HO_486000.out)
         have n1_ := ak_ (k1_ BK480.out)
         have n2_ := ak_ (k1_ BK481.out)
         have n3_ := ak_ (k1_ BK485.out)
         have n4_ := ak_ (b1_ HB.out)
         clear HO_486000 BK480 BK481 BK485 HB
         have HO_486000 := n0_; have BK480 := n1_; have BK481 := n2_; have BK485 := n3_; have HB := n4_
         clear n0_ n1_ n2_ n3_ n4_
         have p487 : 0 ≤ (0 : Int) := (by omega)
         have q487 : 0 < ((rd_L1 l1 x18_1).length : Int) := od_
         obtain ⟨ad487, e487, hx487_0⟩ := Kd.at_int HR486_0.out 0 p487 q487
         have hw487_0 := hx487_0
         (try rw [show ((0 : Int)).toNat = 0 from rfl] at hw487_0)
         (try rw [show 0 * 1 = 0 from rfl] at hw487_0)
         (try rw [Addr.add_zero'] at hw487_0)
         cases e487
         have qi487 : (0 < (rd_L1 l1 x18_1).length) = True := eq_true (by omega)
         (try rw [show ((0 : Int)).toNat = 0 from rfl] at hx487_0)
         (try rw [Addr.add_zero'] at hx487_0)
         try replace hx487_0 := (HB.out.cell (World.block_lt_of_cell? w _ hx487_0)).trans hx487_0
         replace p487 := eq_true p487
         replace q487 := eq_true q487
         have p488 : 0 ≤ ((rd (rd_L1 l1 x18_1) 0) : Int) := od_
         have q488 : (rd (rd_L1 l1 x18_1) 0) < (l0_0.length : Int) := od_
         obtain ⟨ad488, e488, hx488_0⟩ := Kd.at_bool HR0_0.out (rd (rd_L1 l1 x18_1) 0) p488 q488
         have hw488_0 := hx488_0
         cases e488
         try replace hx488_0 := (HB.out.cell (World.block_lt_of_cell? w _ hx488_0)).trans hx488_0
         replace p488 := eq_true p488
         replace q488 := eq_true q488
         refine start_ (n := 15) (S := fun w' => w'.cell? ⟨gb485, 0, none⟩ = some (u486000) ∧ w'.cell? ⟨gb485, 1, none⟩ = some (.int .i64 x486001_1) ∧ w'.cell? ⟨gb480, 0, none⟩ = some (.slice (some ad488) l0_0.length c0_0) ∧ w'.cell? ⟨gb480, 1, none⟩ = some (.int .i64 a0_1) ∧ w'.cell? ad487 = some (.int .i64 (rd (rd_L1 l1 x18_1) 0)) ∧ w'.cell? (ad488.add ((rd (rd_L1 l1 x18_1) 0)).toNat) = some (.bool (rdOf false l0_0 (rd (rd_L1 l1 x18_1) 0)))) (ds := [14]) (mb_ 15 0) (by kernel_rfl) rfl rfl ⟨(blk_cell BK485.out 0).trans rfl, (blk_cell BK485.out 1).trans rfl, (blk_cell BK480.out 0).trans rfl, (blk_cell BK480.out 1).trans rfl, ((HB.out.cell (World.block_lt_of_cell? w _ hw487_0)).trans hw487_0), ((HB.out.cell (World.block_lt_of_cell? w _ hw488_0)).trans hw488_0)⟩ (fun hHeld => ?_); refine with_tabW impl_Camp_after.tab5 impl_Camp_after.bits5 (fun HT_ HW_ => ?_)
         generalize wr.drew = w21 at HO_486000 BK480 BK481 BK485 HB hx487_0 hx488_0 hHeld ⊢
         refine pu_ 0 22 15 1 ?_
         refine pu_ 2 24 15 5 ?_
         refine pu_ 4 26 15 21 ?_
         refine pu_ 5 27 15 53 ?_
         refine tk_ 1 23 15 55 ?_ (hy := by rintro w' ⟨s0, s1, s2, s3, s4, s5⟩; go_simp; with_reducible rfl)
         refine tk_ 3 25 15 63 ?_ (hy := by rintro w' ⟨s0, s1, s2, s3, s4, s5⟩; go_simp; with_reducible rfl)
         refine tk_ 6 28 15 127 ?_ (hy := by rintro w' ⟨s0, s1, s2, s3, s4, s5⟩; go_simp; with_reducible rfl)
         refine pu_ 7 29 15 255 ?_
         refine tk_ 8 30 15 511 ?_ (hy := by rintro w' ⟨s0, s1, s2, s3, s4, s5⟩; go_simp; with_reducible rfl)
         refine on_ 9 31 15 1023 (fun K hK => ?_)
         refine goes_ Try.func81 (by kernel_rfl) rfl #[.bool (rdOf false l0_0 (rd (rd_L1 l1 x18_1) 0))] (by rfl) rfl rfl rs_ ?_
         with_reducible refine (impl_bit.calls (rdOf false l0_0 (rd (rd_L1 l1 x18_1) 0)) t489 _ A20.out).mono ?_
         rintro e w' ⟨rfl, ⟨nd, rfl⟩⟩
         refine ⟨_, rfl, ?_⟩
         refine hK.out _ _ ⟨(blk_cell BK485.out 0).trans rfl, (blk_cell BK485.out 1).trans rfl, (blk_cell BK480.out 0).trans rfl, (blk_cell BK480.out 1).trans rfl, ((HB.out.cell (World.block_lt_of_cell? w _ hw487_0)).trans hw487_0), ((HB.out.cell (World.block_lt_of_cell? w _ hw488_0)).trans hw488_0)⟩ (fun hHeld => ?_)
         clear hK K
         refine nm_ ?_
         refine pu_ 10 32 15 2047 ?_
         refine pu_ 11 33 15 4095 ?_
         refine pu_ 12 34 15 8191 ?_
         refine pu_ 13 35 15 16383 ?_
         refine last_ (i := 14) (N := none) (mb_ 15 32767) rfl rfl (one_of HT_.out (by kernel_rfl)) (by decide) (fun K hK => ?_)
         have hs22 : w21.cell? ⟨gb485, 1, none⟩ = some (.int .i64 x486001_1) := (blk_cell BK485.out 1).trans rfl
         have hfs22 := blk_frozen BK485.out 1
         have hns22_0 := NB480_485.out
         have hns22_1 := NB481_485.out
         have hms22_0 := NB485_480.out
         have hms22_1 := NB485_481.out
         refine skip_ (w1 := ?_) (by rfl) rfl ?_ ?_
         rotate_left
         ·
          go_simp
          rfl
         refine hK.out _ _ ?_
         clear hK K
         refine done_ (done_of HT_.out (by kernel_rfl)) ?_
         try go_wp2
         go_loopg [38] k1 (fun kq v38 w' => ∃ (x38_2 : Int) (x486000_2 : List Bool) (u486000 : Value), v38 = .int .i64 x38_2 ∧ Aside0 (impl_Camp_after.l1 kq l1 (l1.length : Int) x18_1 (rd_L1 l1 x18_1) ((rd_L1 l1 x18_1).length : Int) x38_2 l0_0 a0_1 x486000_2 (wrap64 (x486001_1 + (wrap64 (1 - (wrap64 (2 * t489)))))) = some (r1, r2)) ∧ Aside0 (kq ≤ k1) ∧ Aside0 (Kd.R Kd.bool 4 w' w.heap.size (fun _ => True) u486000 x486000_2) ∧ Aside0 (w'.heap[gb480]? = some (.cells #[(.slice (some ad488) l0_0.length c0_0), .int .i64 a0_1] 35 (0, 0))) ∧ Aside0 (w'.heap[gb481]? = some (.cells #[(.slice none 0 0), .int .i64 0] 35 (0, 0))) ∧ Aside0 (w'.heap[gb485]? = some (.cells #[u486000, .int .i64 (wrap64 (x486001_1 + (wrap64 (1 - (wrap64 (2 * t489))))))] 35 (0, 0))) ∧ Aside0 (Below w.heap.size w w'))
         case atStart => exact ⟨(0), (x486000_1), (u486000), (ry_), H', ⟨Nat.le_refl _⟩, ⟨by (with_reducible repeat (first | apply Kd.R_alloc | apply Kd.R_drewN | apply Kd.R_drew)); exact Kd.R_mono (Kd.R_far (p := ⟨gb485, 1, none⟩) (Kd.R_types HO_486000.out BK485.out (by decide)) (fun _ hk => hk.2) (.int .i64 (wrap64 (x486001_1 + (wrap64 (1 - (wrap64 (2 * t489)))))))) (fun _ hk => trivial)⟩, ⟨by (with_reducible repeat (first | refine kN_ ?_ _ | refine k1_ ?_ | refine ka_ ?_ _)); refine blk_far ?_ NB480_485.out _; exact pk BK480.out⟩, ⟨by (with_reducible repeat (first | refine kN_ ?_ _ | refine k1_ ?_ | refine ka_ ?_ _)); refine blk_far ?_ NB481_485.out _; exact pk BK481.out⟩, ⟨by (with_reducible repeat (first | refine kN_ ?_ _ | refine k1_ ?_ | refine ka_ ?_ _)); refine blk_put (cs := #[u486000, .int .i64 x486001_1]) ?_ 1 _ rfl; exact pk BK485.out⟩, ⟨bl_⟩⟩
         case round =>
          clear H'
          try clear c1
          try clear p2
          try clear c4
          try clear p4
          try clear q4
          try clear hx4
          try clear qi4
          try clear p6
          try clear c7
          try clear c8
          try clear c9
          try clear c14
          try clear c14b0
          try clear c15
          try clear c15b0
          try clear c16
          try clear c16b0
          try clear c17
          try clear c17b0
          try clear c17b1
          try clear c18
          try clear c18b0
          try clear c19
          try clear c19b0
          try clear hx486_0
          try clear hx487_0
          try clear hx488_0
          try clear p2
          try clear p486
          try clear p487
          try clear p488
          try clear q486
          try clear q487
          try clear q488
          obtain ⟨x38_2, x486000_2, u486000, rfl, HA, HK2, HO_486000, BK480, BK481, BK485, HB⟩ := hrel
          cases gk with
          | zero => exact absurd HA.out (by simp [impl_Camp_after.l1])
          | succ k2 =>
           have H := HA.out
           clear HA
           simp only [impl_Camp_after.l1] at H
           by_cases c23 : x38_2 < ((rd_L1 l1 x18_1).length : Int)
           ·
            rw [if_pos c23] at H
            have c23b0 := decide_eq_true c23
            clear c23
            by_cases c24 : 0 ≤ x38_2
            ·
             rw [if_pos c24] at H
             have c24b0 := decide_eq_true c24
             clear c24
             by_cases c25 : x38_2 < ((rd_L1 l1 x18_1).length : Int)
             ·
              rw [if_pos c25] at H
              have c25b0 := decide_eq_true c25
              clear c25
              by_cases c26 : 0 ≤ (rd (rd_L1 l1 x18_1) x38_2)
              ·
               rw [if_pos c26] at H
               have c26b0 := decide_eq_true c26
               clear c26
               by_cases c27 : (rd (rd_L1 l1 x18_1) x38_2) < (l0_0.length : Int)
               ·
                rw [if_pos c27] at H
                have c27b0 := decide_eq_true c27
                clear c27
                by_cases c28 : (rd (rd_L1 l1 x18_1) x38_2) < (x486000_2.length : Int)
                ·
                 rw [if_pos c28] at H
                 have c28b0 := decide_eq_true c28
                 clear c28
                 obtain ⟨y492, hy492⟩ : ∃ y_ : List Bool, y_ = (x486000_2.set ((rd (rd_L1 l1 x18_1) x38_2) : Int).toNat (!(rdOf false l0_0 (rd (rd_L1 l1 x18_1) x38_2)))) := ⟨_, rfl⟩
                 replace H : (impl_Camp_after.l1 k2 l1 (l1.length : Int) x18_1 (rd_L1 l1 x18_1) ((rd_L1 l1 x18_1).length : Int) (wrap64 (x38_2 + 1)) l0_0 a0_1 y492 (wrap64 (x486001_1 + (wrap64 (1 - (wrap64 (2 * t489))))))) = some (r1, r2) := by first | (rw [hy492]; exact H) | exact H
                 have Ny492 := ak_ hy492
                 clear hy492
                 have H' := ak_ H
                 clear H
                 have p490 : 0 ≤ (x38_2 : Int) := od_
                 have q490 : x38_2 < ((rd_L1 l1 x18_1).length : Int) := od_
                 obtain ⟨ad490, e490, hx490_0⟩ := Kd.at_int HR486_0.out x38_2 p490 q490
                 obtain rfl : ad487 = ad490 := (by injection e490)
                 try replace hx490_0 := (HB.out.cell (World.block_lt_of_cell? w _ hx490_0)).trans hx490_0
                 replace p490 := eq_true p490
                 replace q490 := eq_true q490
                 try go_wp2
                 have n0_ := ak_ (Kd.R_drew HO_486000.out)
                 have n1_ := ak_ (k1_ BK480.out)
                 have n2_ := ak_ (k1_ BK481.out)
                 have n3_ := ak_ (k1_ BK485.out)
                 have n4_ := ak_ (b1_ HB.out)
                 clear HO_486000 BK480 BK481 BK485 HB
                 have HO_486000 := n0_; have BK480 := n1_; have BK481 := n2_; have BK485 := n3_; have HB := n4_
                 clear n0_ n1_ n2_ n3_ n4_
                 have p491 : 0 ≤ ((rd (rd_L1 l1 x18_1) x38_2) : Int) := od_
                 have q491 : (rd (rd_L1 l1 x18_1) x38_2) < (l0_0.length : Int) := od_
                 obtain ⟨ad491, e491, hx491_0⟩ := Kd.at_bool HR0_0.out (rd (rd_L1 l1 x18_1) x38_2) p491 q491
                 have hw491_0 := hx491_0
                 obtain rfl : ad488 = ad491 := (by injection e491)
                 try replace hx491_0 := (HB.out.cell (World.block_lt_of_cell? w _ hx491_0)).trans hx491_0
                 replace p491 := eq_true p491
                 replace q491 := eq_true q491
                 have p29 : 0 ≤ ((rd (rd_L1 l1 x18_1) x38_2) : Int) := od_
                 have q29 : ((rd (rd_L1 l1 x18_1) x38_2) : Int) < ((x486000_2.length : Int) : Int) := od_
                 obtain ⟨go29, co29, eo29, gb29, gl29, cl29, HG29⟩ := Kd.R_form HO_486000.out (by omega)
                 (first | cases eo29 | (injection eo29 with ea_ en_ ec_; (first | subst ea_ | (injection ea_ with ea_; subst ea_)); subst ec_; clear en_))
                 have GB29 := ak_ gb29
                 have GG29 := ak_ HG29
                 clear gb29 gl29 HG29
                 obtain ⟨hx29_0, hf29_0⟩ := Kd.R_celln false HO_486000.out ((rd (rd_L1 l1 x18_1) x38_2) : Int) p29 q29
                 replace p29 := eq_true p29
                 replace q29 := eq_true q29
                 have HP31 := Kd.R_putn HO_486000.out ((rd (rd_L1 l1 x18_1) x38_2) : Int) (!(rdOf false l0_0 (rd (rd_L1 l1 x18_1) x38_2)))
                 rw [← Ny492.out] at HP31
                 have HQ31 := ak_ HP31
                 clear HP31
                 refine start_ (n := 11) (S := fun w' => w'.cell? ⟨gb485, 0, none⟩ = some (.slice (some ⟨go29, 0, none⟩) x486000_2.length co29) ∧ w'.cell? ⟨gb485, 1, none⟩ = some (.int .i64 (wrap64 (x486001_1 + (wrap64 (1 - (wrap64 (2 * t489))))))) ∧ w'.cell? ⟨gb480, 0, none⟩ = some (.slice (some ad488) l0_0.length c0_0) ∧ w'.cell? ⟨gb480, 1, none⟩ = some (.int .i64 a0_1) ∧ w'.cell? (ad488.add ((rd (rd_L1 l1 x18_1) x38_2)).toNat) = some (.bool (rdOf false l0_0 (rd (rd_L1 l1 x18_1) x38_2)))) (ds := [10]) (mb_ 11 0) (by kernel_rfl) rfl rfl ⟨(blk_cell BK485.out 0).trans rfl, (blk_cell BK485.out 1).trans rfl, (blk_cell BK480.out 0).trans rfl, (blk_cell BK480.out 1).trans rfl, ((HB.out.cell (World.block_lt_of_cell? w _ hw491_0)).trans hw491_0)⟩ (fun hHeld => ?_); refine with_tabW impl_Camp_after.tab9 impl_Camp_after.bits9 (fun HT_ HW_ => ?_)
                 generalize wr.drew = w30 at HO_486000 BK480 BK481 BK485 HB GG29 HQ31 hf29_0 hx29_0 hx491_0 hHeld ⊢
                 refine pu_ 0 42 11 1 ?_
                 refine pu_ 2 44 11 5 ?_
                 refine pu_ 3 45 11 13 ?_
                 refine pu_ 5 47 11 45 ?_
                 refine tk_ 1 43 11 47 ?_ (hy := by rintro w' ⟨s0, s1, s2, s3, s4⟩; go_simp; with_reducible rfl)
                 refine tk_ 4 46 11 63 ?_ (hy := by rintro w' ⟨s0, s1, s2, s3, s4⟩; go_simp; with_reducible rfl)
                 refine pu_ 6 48 11 127 ?_
                 refine tk_ 7 49 11 255 ?_ (hy := by rintro w' ⟨s0, s1, s2, s3, s4⟩; go_simp; with_reducible rfl)
                 refine pu_ 8 50 11 511 ?_
                 refine pu_ 9 51 11 1023 ?_
                 refine last_ (i := 10) (N := none) (mb_ 11 2047) rfl rfl (one_of HT_.out (by kernel_rfl)) (by decide) (fun K hK => ?_)
                 refine skip_ (w1 := ?_) (by rfl) rfl ?_ ?_
                 rotate_left
                 ·
                  go_simp
                  rfl
                 refine hK.out _ _ ?_
                 clear hK K
                 refine done_ (done_of HT_.out (by kernel_rfl)) ?_
                 try go_wp2
                 go_roundg k2
                 case measure => have := HK1.out; have := HK2.out; omega
                 case rel => exact ⟨(wrap64 (x38_2 + 1)), (y492), (.slice (some ⟨go29, 0, none⟩) x486000_2.length co29), (ry_), H', ⟨by have := HK1.out; have := HK2.out; omega⟩, ⟨Kd.pR HQ31.out⟩, ⟨by (with_reducible repeat (first | refine kN_ ?_ _ | refine k1_ ?_ | refine ka_ ?_ _)); refine blk_far ?_ (by have h_ := Kd.R_ne HO_486000.out BK480.out (by decide); intro e_; exact h_ (by rw [e_]; rfl)) _; exact pk BK480.out⟩, ⟨by (with_reducible repeat (first | refine kN_ ?_ _ | refine k1_ ?_ | refine ka_ ?_ _)); refine blk_far ?_ (by have h_ := Kd.R_ne HO_486000.out BK481.out (by decide); intro e_; exact h_ (by rw [e_]; rfl)) _; exact pk BK481.out⟩, ⟨by (with_reducible repeat (first | refine kN_ ?_ _ | refine k1_ ?_ | refine ka_ ?_ _)); refine blk_far ?_ (by have h_ := Kd.R_ne HO_486000.out BK485.out (by decide); intro e_; exact h_ (by rw [e_]; rfl)) _; exact pk BK485.out⟩, ⟨by repeat (with_reducible first | exact HB.out | apply ba_ | apply bN_ | apply b1_ | refine below_set ?_ GB29.out | refine below_set ?_ (Aside0.out (by assumption)))⟩⟩
                ·
                 rw [if_neg c28] at H
                 exact absurd H (by simp)
               ·
                rw [if_neg c27] at H
                exact absurd H (by simp)
              ·
               rw [if_neg c26] at H
               exact absurd H (by simp)
             ·
              rw [if_neg c25] at H
              exact absurd H (by simp)
            ·
             rw [if_neg c24] at H
             exact absurd H (by simp)
           ·
            rw [if_neg c23] at H
            have c23b0 := decide_eq_false c23
            clear c23
            have H' := ak_ H
            clear H
            go_wp2
            go_roundg k2
            case measure => have := HK1.out; have := HK2.out; omega
            case rel => exact ⟨(wrap64 (x18_1 + 1)), (x486000_2), ((wrap64 (x486001_1 + (wrap64 (1 - (wrap64 (2 * t489))))))), (u486000), (ry_), H', ⟨by have := HK1.out; have := HK2.out; omega⟩, ⟨Kd.pR HO_486000.out⟩, ⟨pk BK480.out⟩, ⟨pk BK481.out⟩, ⟨pk BK485.out⟩, ⟨bl_⟩⟩
        ·
         rw [if_neg c19] at H
         exact absurd H (by simp)
       ·
        rw [if_neg c18] at H
        exact absurd H (by simp)
      ·
       rw [if_neg c17] at H
       exact absurd H (by simp)
     ·
      rw [if_neg c16] at H
      exact absurd H (by simp)
    ·
     rw [if_neg c15] at H
     exact absurd H (by simp)
   ·
    rw [if_neg c14] at H
    have c14b0 := decide_eq_false c14
    clear c14
    simp only [Option.some.injEq, Prod.mk.injEq] at H
    obtain ⟨rfl, rfl⟩ := H
    have hnb32 := NB485_480.out
    have hnc32 := NB480_485.out
    have hnb33 := NB485_481.out
    have hnc33 := NB481_485.out
    obtain ⟨hcz34_0, hcz34_1, hfz34_0, hfz34_1⟩ := c2_ BK485.out
    obtain ⟨Ao35, co35, eo35⟩ := Kd.R_slice HO_486000.out
    subst eo35
    have hnb36 := NB481_480.out
    have hnc36 := NB480_481.out
    obtain ⟨hcz37_0, hcz37_1, hfz37_0, hfz37_1⟩ := c2_ BK481.out
    go_wp2
    refine bodyPost_ret (results_cell_row rfl _ _ gb481 35 #[.slice Ao35 x486000_1.length co35, .int .i64 x486001_1] (0, 0) _ rfl (by (with_reducible repeat (first | refine kN_ ?_ _ | refine k1_ ?_ | refine ka_ ?_ _)); refine blk_put (cs := #[.slice Ao35 x486000_1.length co35, .int .i64 0]) ?_ 1 _ rfl; (with_reducible repeat (first | refine kN_ ?_ _ | refine k1_ ?_ | refine ka_ ?_ _)); refine blk_put (cs := #[.slice none 0 0, .int .i64 0]) ?_ 0 _ rfl; exact pk BK481.out) Try.underlying35 rfl (by kernel_rfl)) rfl ?_
    exact ⟨_, rx_, by (with_reducible repeat (first | apply Kd.R_alloc | apply Kd.R_drewN | apply Kd.R_drew)); exact Kd.R_mono (Kd.R_far (p := ⟨gb481, 1, none⟩) (Kd.R_far (p := ⟨gb481, 0, none⟩) (Kd.R_types HO_486000.out BK481.out (by decide)) (fun _ hk => hk.2) (.slice Ao35 x486000_1.length co35)) (fun _ hk => hk.2) (.int .i64 x486001_1)) (fun _ hk => trivial), bl_⟩
end Go.Proofs.Ytmdbhpbogbekmaa.QNt
