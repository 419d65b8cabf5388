/- Contracts of functions of the given program, walked. Conditions: those at each theorem. -/
import Derived.Test.YthkchdfkeieabaaQGrx0
import Derived.Test.YthkchdfkeieabaaQGrx14
namespace Go.Proofs.Ythkchdfkeieabaa.QGr
open Go.RowKit Go.Proofs.YthkchdfkeieabaaW.PrintWords Go.Proofs.YthkchdfkeieabaaW.PrintLast Go.Proofs.YthkchdfkeieabaaW.PrintMore
open List (setIfInBounds_toArray set_cons_zero set_cons_succ map_toArray map_cons map_nil)
attribute [local go_sem] max2_int min2_int max_two min_two max_three min_three max_four min_four
set_option linter.unusedVariables false
set_option maxHeartbeats 8000000
set_option maxRecDepth 100000
set_option linter.unusedSimpArgs false
def impl_State_moved.l0 : Nat → List Int → Int → Int → List Bool → Bool → Option (List Bool × Bool)
 | 0, _, _, _, _, _ => none
 | k + 1, x15, x16, x17, x520000, x520001 => if x17 < x16 then (if 0 ≤ x17 then (if x17 < (x15.length : Int) then (if 0 ≤ (rd x15 x17) then (if (rd x15 x17) < (x520000.length : Int) then (impl_State_moved.l0 k x15 x16 (wrap64 (x17 + 1)) (x520000.set ((rd x15 x17) : Int).toNat x520001) x520001) else (none)) else (none)) else (none)) else (none)) else (some (x520000, x520001))
def impl_State_moved.f (k : Nat) (l0_0 : List Bool) (a0_1 : Bool) (l1 : List Int) : Option (List Bool × Bool) := (slices_Clone_bool_bool.f l0_0).bind fun t516 => (impl_State_moved.l0 k l1 (l1.length : Int) 0 t516 (!a0_1))
def impl_State_moved.T1 : Bool × List (List Nat × List Nat) := (true, [([], []), ([0], [0]), ([1], [1]), ([], []), ([3], [3]), ([4], [4]), ([2, 5], [2, 5]), ([], []), ([7, 6, 2, 0, 1, 2, 3, 4, 5, 6, 7], [6, 7])])
def impl_State_moved.B1 : List Nat := [0, 1, 3, 0, 8, 24, 63, 0, 255]
theorem impl_State_moved.tab1 : rtab .any (opsOf Try.f125 1) = impl_State_moved.T1 := by kernel_rfl
theorem impl_State_moved.bits1 : waitsOk impl_State_moved.T1.2 impl_State_moved.B1 = true := by kernel_rfl
theorem impl_State_moved.calls (k : Nat) (A0_0 : Option Addr) (c0_0 : Nat) (l0_0 : List Bool) (a0_1 : Bool) (A1 : Option Addr) (c1 : Nat) (l1 : List Int) (r1 : List Bool) (r2 : Bool) (w : World) (hr0_0 : Kd.C Kd.bool w A0_0 l0_0.length l0_0) (hc0_0 : l0_0.length ≤ c0_0) (hr1 : Kd.C (Kd.int .i64) w A1 l1.length l1) (hc1 : l1.length ≤ c1) (h : impl_State_moved.f k l0_0 a0_1 l1 = some (r1, r2)) :
  Calls Try.prog 125 #[.agg #[.slice A0_0 l0_0.length c0_0, .bool a0_1], .slice A1 l1.length c1] w fun e w' => ∃ v0_ : Value, e = .returned (.agg #[v0_, .bool r2]) ∧ Kd.R Kd.bool 4 w' w.heap.size (fun _ => True) v0_ r1 ∧ Below w.heap.size w w' := by
 have hu115 := Try.underlying115
 have HR0_0 := ak_ hr0_0
 have HC0_0 := ak_ hc0_0
 clear hr0_0 hc0_0
 have HR1 := ak_ hr1
 have HC1 := ak_ hc1
 clear hr1 hc1
 have HB := ak_ (Below.refl w.heap.size w)
 have H : ((slices_Clone_bool_bool.f l0_0).bind fun t516 => (impl_State_moved.l0 k l1 (l1.length : Int) 0 t516 (!a0_1))) = some (r1, r2) := h
 clear h
 replace H := Option.bind_eq_some_iff.mp H
 obtain ⟨t516, A30, H⟩ := H
 replace H : (impl_State_moved.l0 k l1 (l1.length : Int) 0 t516 (!a0_1)) = some (r1, r2) := H
 have A3 := ak_ A30
 clear A30
 have H' := ak_ H
 clear H
 go_enter Try.func125, Try.ntmps125
 try go_wp2_with (first | ((with_reducible refine gate_dst (N := 2) rfl ?_); refine bx_ 2 #[.slice A0_0 l0_0.length c0_0, .bool a0_1] 115 ?_; intro gb514 hg w4 hbox hb; have n0_ := ak_ (bs_ (bb_ HB.out) hb); have n1_ := ak_ (hbox); have n2_ := ak_ ((by rw [hg]; exact (bz_ (bb_ HB.out)) : w.heap.size ≤ gb514)); have n3_ := n2_; clear HB; have HB := n0_; have BK514 := n1_; have GW514 := n2_; have GE514 := n3_; clear n0_ n1_ n2_ n3_; clear hb hbox hg) | ((with_reducible refine gate_dst (N := 4) rfl ?_); refine bx_ 4 #[.slice none 0 0, .bool false] 115 ?_; intro gb515 hg w5 hbox hb; have n0_ := ak_ (blk_below (pk BK514.out) hb); have n1_ := ak_ (bs_ bl_ hb); have n2_ := ak_ (hbox); have n3_ := ak_ ((by rw [hg]; exact (bz_ bl_) : w.heap.size ≤ gb515)); have n4_ := n3_; have n5_ := ak_ ((by rw [hg]; exact Nat.ne_of_lt (blk_lt (pk BK514.out)) : gb514 ≠ gb515)); have n6_ := ak_ n5_.out.symm; clear BK514; clear HB; have BK514 := n0_; have HB := n1_; have BK515 := n2_; have GW515 := n3_; have GE515 := n4_; have NB514_515 := n5_; have NB515_514 := n6_; clear n0_ n1_ n2_ n3_ n4_ n5_ n6_; clear hb hbox hg))
 have n0_ := ak_ (k1_ BK514.out)
 have n1_ := ak_ (k1_ BK515.out)
 have n2_ := ak_ (b1_ HB.out)
 clear BK514 BK515 HB
 have BK514 := n0_; have BK515 := n1_; have HB := n2_
 clear n0_ n1_ n2_
 refine start_ (n := 9) (S := fun w' => w'.cell? ⟨gb514, 0, none⟩ = some (.slice A0_0 l0_0.length c0_0) ∧ w'.cell? ⟨gb514, 1, none⟩ = some (.bool a0_1)) (ds := []) (mb_ 9 0) (by kernel_rfl) rfl rfl ⟨(blk_cell BK514.out 0).trans rfl, (blk_cell BK514.out 1).trans rfl⟩ (fun hHeld => ?_); refine with_tabW impl_State_moved.tab1 impl_State_moved.bits1 (fun HT_ HW_ => ?_)
 generalize w5.drew = w6 at BK514 BK515 HB hHeld ⊢
 refine pu_ 0 8 9 1 ?_
 refine pu_ 3 11 9 9 ?_
 refine tk_ 1 9 9 11 ?_ (hy := by rintro w' ⟨s0, s1⟩; go_simp; with_reducible rfl)
 refine tk_ 4 12 9 27 ?_ (hy := by rintro w' ⟨s0, s1⟩; go_simp; with_reducible rfl)
 refine pu_ 5 13 9 59 ?_
 refine join_ (σ := Value × Nat) 1 (mb_ 9 255) (fun s_ => [(10, s_.1), (5, .pointer (some ⟨s_.2, 0, none⟩)), (14, .agg #[s_.1, .bool (!a0_1)])]) (fun s_ w' => (w'.cell? ⟨gb514, 0, none⟩ = some (.slice A0_0 l0_0.length c0_0) ∧ w'.cell? ⟨gb514, 1, none⟩ = some (.bool a0_1)) ∧ (Kd.R Kd.bool 4 w' w.heap.size (fun _ => True) s_.1 t516) ∧ (w'.heap[gb514]? = some (.cells #[.slice A0_0 l0_0.length c0_0, .bool a0_1] 115 (0, 0))) ∧ (w'.heap[gb515]? = some (.cells #[.slice none 0 0, .bool false] 115 (0, 0))) ∧ (w'.heap[s_.2]? = some (.cells #[.slice none 0 0, .bool false] 115 (0, 0))) ∧ (w.heap.size ≤ s_.2) ∧ (w.heap.size ≤ s_.2) ∧ (gb514 ≠ s_.2) ∧ (s_.2 ≠ gb514) ∧ (gb515 ≠ s_.2) ∧ (s_.2 ≠ gb515) ∧ (Below w.heap.size w w')) ?_ ?_
 rotate_left
 ·
  intro hCont
  refine two_ (i := 2) (j := 7) (Ni := some 10) (Nj := some 5) (mb_ 9 63) (mb_ 9 187) rfl rfl rfl rfl (two_of HT_.out (by kernel_rfl)) (by decide) (by decide) (fun K hK => ?_) (fun K hK => ?_)
  ·
   skip
   refine goes_ Try.func159 (by kernel_rfl) rfl #[.slice A0_0 l0_0.length c0_0] (by rfl) rfl rfl (by first | rfl | (simp only [map_toArray, map_cons, map_nil]; try rfl)) ?_
   with_reducible refine (slices_Clone_bool_bool.calls _ _ l0_0 t516 _ ?side1 ?side2 A3.out).mono ?_
   (case side1 => exact cs_ (Kd.C_below HR0_0.out HB.out))
   (case side2 => exact HC0_0.out)
   rintro e w7 ⟨v517, rfl, ho0, hb⟩
   refine ⟨_, rfl, ?_⟩
   have n0_ := ak_ (Kd.R_lower ho0 (bz_ bl_))
   have n1_ := ak_ (blk_below (pk BK514.out) hb)
   have n2_ := ak_ (blk_below (pk BK515.out) hb)
   have n3_ := ak_ (bs_ bl_ hb)
   clear BK514 BK515 HB
   have HO518 := n0_; have BK514 := n1_; have BK515 := n2_; have HB := n3_
   clear n0_ n1_ n2_ n3_
   (try clear hb)
   (try clear hb2)
   (try clear hk)
   (try clear hi)
   (try clear ho0)
   obtain ⟨Ao8, co8, eo8⟩ := Kd.R_slice HO518.out
   (first | subst eo8 | (injection eo8 with f1_ f2_ f3_; have f4_ := f1_.symm; have f5_ := f3_.symm; clear f1_ f2_ f3_; subst f4_; subst f5_))
   refine hK.out _ _ ⟨(blk_cell BK514.out 0).trans rfl, (blk_cell BK514.out 1).trans rfl⟩ (fun hHeld => ?_)
   clear hK K
   refine nm_ ?_
   refine pu_ 6 14 9 127 ?_
   refine on_ 7 5 9 255 (fun K hK => ?_)
   refine box_step ?hg (N := 5) ?hd (cs := #[.slice none 0 0, .bool false]) (t := 115) ?hr ?_; (case hd => rfl); (case hg => rfl); (case hr => go_simp <;> rfl)
   intro gb519 hg w9 hbox hb
   have n0_ := ak_ (Kd.R_below (Kd.pR HO518.out) hb)
   have n1_ := ak_ (blk_below (pk BK514.out) hb)
   have n2_ := ak_ (blk_below (pk BK515.out) hb)
   have n3_ := ak_ (bs_ bl_ hb)
   have n4_ := ak_ (hbox)
   have n5_ := ak_ ((by rw [hg]; exact (bz_ bl_) : w.heap.size ≤ gb519))
   have n6_ := n5_
   have n7_ := ak_ ((by rw [hg]; exact Nat.ne_of_lt (blk_lt (pk BK514.out)) : gb514 ≠ gb519))
   have n8_ := ak_ n7_.out.symm
   have n9_ := ak_ ((by rw [hg]; exact Nat.ne_of_lt (blk_lt (pk BK515.out)) : gb515 ≠ gb519))
   have n10_ := ak_ n9_.out.symm
   clear HO518 BK514 BK515 HB
   have HO518 := n0_; have BK514 := n1_; have BK515 := n2_; have HB := n3_; have BK519 := n4_; have GW519 := n5_; have GE519 := n6_; have NB514_519 := n7_; have NB519_514 := n8_; have NB515_519 := n9_; have NB519_515 := n10_
   clear n0_ n1_ n2_ n3_ n4_ n5_ n6_ n7_ n8_ n9_ n10_ hb hbox hg
   refine hK.out _ _ ⟨(blk_cell BK514.out 0).trans rfl, (blk_cell BK514.out 1).trans rfl⟩ (fun hHeld => ?_)
   clear hK K
   refine nm_ ?_
   exact norm_ (by simp only [putAll, Act.put, setIfInBounds_toArray, set_cons_zero, set_cons_succ]) (hCont (.slice Ao8 t516.length co8, gb519) _ ⟨hHeld, (Kd.pR HO518.out), (pk BK514.out), (pk BK515.out), (pk BK519.out), GW519.out, GE519.out, NB514_519.out, NB519_514.out, NB515_519.out, NB519_515.out, bl_⟩)
  ·
   skip
   refine box_step ?hg (N := 5) ?hd (cs := #[.slice none 0 0, .bool false]) (t := 115) ?hr ?_; (case hd => rfl); (case hg => rfl); (case hr => go_simp <;> rfl)
   intro gb519 hg w7 hbox hb
   have n0_ := ak_ (blk_below (pk BK514.out) hb)
   have n1_ := ak_ (blk_below (pk BK515.out) hb)
   have n2_ := ak_ (bs_ bl_ hb)
   have n3_ := ak_ (hbox)
   have n4_ := ak_ ((by rw [hg]; exact (bz_ bl_) : w.heap.size ≤ gb519))
   have n5_ := n4_
   have n6_ := ak_ ((by rw [hg]; exact Nat.ne_of_lt (blk_lt (pk BK514.out)) : gb514 ≠ gb519))
   have n7_ := ak_ n6_.out.symm
   have n8_ := ak_ ((by rw [hg]; exact Nat.ne_of_lt (blk_lt (pk BK515.out)) : gb515 ≠ gb519))
   have n9_ := ak_ n8_.out.symm
   clear BK514 BK515 HB
   have BK514 := n0_; have BK515 := n1_; have HB := n2_; have BK519 := n3_; have GW519 := n4_; have GE519 := n5_; have NB514_519 := n6_; have NB519_514 := n7_; have NB515_519 := n8_; have NB519_515 := n9_
   clear n0_ n1_ n2_ n3_ n4_ n5_ n6_ n7_ n8_ n9_ hb hbox hg
   refine hK.out _ _ ⟨(blk_cell BK514.out 0).trans rfl, (blk_cell BK514.out 1).trans rfl⟩ (fun hHeld => ?_)
   clear hK K
   refine nm_ ?_
   refine on_ 2 10 9 191 (fun K hK => ?_)
   refine goes_ Try.func159 (by kernel_rfl) rfl #[.slice A0_0 l0_0.length c0_0] (by rfl) rfl rfl (by first | rfl | (simp only [map_toArray, map_cons, map_nil]; try rfl)) ?_
   with_reducible refine (slices_Clone_bool_bool.calls _ _ l0_0 t516 _ ?side1 ?side2 A3.out).mono ?_
   (case side1 => exact cs_ (Kd.C_below HR0_0.out HB.out))
   (case side2 => exact HC0_0.out)
   rintro e w8 ⟨v517, rfl, ho0, hb⟩
   refine ⟨_, rfl, ?_⟩
   have n0_ := ak_ (Kd.R_lower ho0 (bz_ bl_))
   have n1_ := ak_ (blk_below (pk BK514.out) hb)
   have n2_ := ak_ (blk_below (pk BK515.out) hb)
   have n3_ := ak_ (blk_below (pk BK519.out) hb)
   have n4_ := ak_ (bs_ bl_ hb)
   clear BK514 BK515 BK519 HB
   have HO518 := n0_; have BK514 := n1_; have BK515 := n2_; have BK519 := n3_; have HB := n4_
   clear n0_ n1_ n2_ n3_ n4_
   (try clear hb)
   (try clear hb2)
   (try clear hk)
   (try clear hi)
   (try clear ho0)
   obtain ⟨Ao9, co9, eo9⟩ := Kd.R_slice HO518.out
   (first | subst eo9 | (injection eo9 with f1_ f2_ f3_; have f4_ := f1_.symm; have f5_ := f3_.symm; clear f1_ f2_ f3_; subst f4_; subst f5_))
   refine hK.out _ _ ⟨(blk_cell BK514.out 0).trans rfl, (blk_cell BK514.out 1).trans rfl⟩ (fun hHeld => ?_)
   clear hK K
   refine nm_ ?_
   refine pu_ 6 14 9 255 ?_
   exact norm_ (by simp only [putAll, Act.put, setIfInBounds_toArray, set_cons_zero, set_cons_succ]) (hCont (.slice Ao9 t516.length co9, gb519) _ ⟨hHeld, (Kd.pR HO518.out), (pk BK514.out), (pk BK515.out), (pk BK519.out), GW519.out, GE519.out, NB514_519.out, NB519_514.out, NB515_519.out, NB519_515.out, bl_⟩)
 rintro ⟨v517, gb519⟩ w10 ⟨hS_, h0_, h1_, h2_, h3_, h4_, h5_, h6_, h7_, h8_, h9_, h10_⟩
 have n0_ : Aside0 (Kd.R Kd.bool 4 w10 w.heap.size (fun _ => True) v517 t516) := ⟨h0_⟩
 have n1_ : Aside0 (w10.heap[gb514]? = some (.cells #[.slice A0_0 l0_0.length c0_0, .bool a0_1] 115 (0, 0))) := ⟨h1_⟩
 have n2_ : Aside0 (w10.heap[gb515]? = some (.cells #[.slice none 0 0, .bool false] 115 (0, 0))) := ⟨h2_⟩
 have n3_ : Aside0 (w10.heap[gb519]? = some (.cells #[.slice none 0 0, .bool false] 115 (0, 0))) := ⟨h3_⟩
 have n4_ : Aside0 (w.heap.size ≤ gb519) := ⟨h4_⟩
 have n5_ : Aside0 (w.heap.size ≤ gb519) := ⟨h5_⟩
 have n6_ : Aside0 (gb514 ≠ gb519) := ⟨h6_⟩
 have n7_ : Aside0 (gb519 ≠ gb514) := ⟨h7_⟩
 have n8_ : Aside0 (gb515 ≠ gb519) := ⟨h8_⟩
 have n9_ : Aside0 (gb519 ≠ gb515) := ⟨h9_⟩
 have n10_ : Aside0 (Below w.heap.size w w10) := ⟨h10_⟩
 clear BK514 BK515 HB h0_ h1_ h2_ h3_ h4_ h5_ h6_ h7_ h8_ h9_ h10_
 have HO518 := n0_; have BK514 := n1_; have BK515 := n2_; have BK519 := n3_; have GW519 := n4_; have GE519 := n5_; have NB514_519 := n6_; have NB519_514 := n7_; have NB515_519 := n8_; have NB519_515 := n9_; have HB := n10_
 clear n0_ n1_ n2_ n3_ n4_ n5_ n6_ n7_ n8_ n9_ n10_
 have hHeld : w10.cell? ⟨gb514, 0, none⟩ = some (.slice A0_0 l0_0.length c0_0) ∧ w10.cell? ⟨gb514, 1, none⟩ = some (.bool a0_1) := hS_
 obtain ⟨Ao11, co11, eo11⟩ := Kd.R_slice HO518.out
 (first | subst eo11 | (injection eo11 with f1_ f2_ f3_; have f4_ := f1_.symm; have f5_ := f3_.symm; clear f1_ f2_ f3_; subst f4_; subst f5_))
 refine norm_ (a' := ?_) ?_ ?_
 rotate_left
 ·
  simp only [putAll, Act.put, setIfInBounds_toArray, set_cons_zero, set_cons_succ]
  rfl
 refine one_ (i := 8) (N := none) (mb_ 9 511) rfl rfl (one_of HT_.out (by kernel_rfl)) (by decide) (fun K hK => ?_)
 have hs12 : w10.cell? ⟨gb519, 0, none⟩ = some (.slice none 0 0) := (blk_cell BK519.out 0).trans rfl
 have hfs12 := blk_frozen BK519.out 0
 have hns12_0 := NB514_519.out
 have hns12_1 := NB515_519.out
 have hms12_0 := NB519_514.out
 have hms12_1 := NB519_515.out
 have hs13 : w10.cell? ⟨gb519, 1, none⟩ = some (.bool false) := (blk_cell BK519.out 1).trans rfl
 have hfs13 := blk_frozen BK519.out 1
 have hns13_0 := NB514_519.out
 have hns13_1 := NB515_519.out
 have hms13_0 := NB519_514.out
 have hms13_1 := NB519_515.out
 refine skip_ (w1 := ?_) (by rfl) rfl ?_ ?_
 rotate_left
 ·
  go_simp
  rfl
 refine hK.out _ _ ⟨((cell_far (p := ⟨gb519, _, none⟩) NB514_519.out _).trans (((cell_far (p := ⟨gb519, _, none⟩) NB514_519.out _).trans (hHeld.1)))), ((cell_far (p := ⟨gb519, _, none⟩) NB514_519.out _).trans (((cell_far (p := ⟨gb519, _, none⟩) NB514_519.out _).trans (hHeld.2))))⟩ (fun hHeld => ?_)
 clear hK K
 refine done_ (done_of HT_.out (by kernel_rfl)) ?_
 try go_wp2
 go_loopg [17] k (fun kq v17 w' => ∃ (x17_1 : Int) (x520000_1 : List Bool) (u520000 : Value), v17 = .int .i64 x17_1 ∧ Aside0 (impl_State_moved.l0 kq l1 (l1.length : Int) x17_1 x520000_1 (!a0_1) = some (r1, r2)) ∧ Aside0 (kq ≤ k) ∧ Aside0 (Kd.R Kd.bool 4 w' w.heap.size (fun _ => True) u520000 x520000_1) ∧ Aside0 (w'.heap[gb514]? = some (.cells #[(.slice A0_0 l0_0.length c0_0), .bool a0_1] 115 (0, 0))) ∧ Aside0 (w'.heap[gb515]? = some (.cells #[(.slice none 0 0), .bool false] 115 (0, 0))) ∧ Aside0 (w'.heap[gb519]? = some (.cells #[u520000, .bool (!a0_1)] 115 (0, 0))) ∧ Aside0 (Below w.heap.size w w'))
 case atStart => exact ⟨(0), (t516), (.slice Ao11 t516.length co11), (ry_), H', ⟨Nat.le_refl _⟩, ⟨by (with_reducible repeat (first | apply Kd.R_alloc | apply Kd.R_drewN | apply Kd.R_drew)); exact Kd.R_mono (Kd.R_far (p := ⟨gb519, 1, none⟩) (Kd.R_far (p := ⟨gb519, 0, none⟩) (Kd.R_types HO518.out BK519.out (by decide)) (fun _ hk => hk.2) (.slice Ao11 t516.length co11)) (fun _ hk => hk.2) (.bool (!a0_1))) (fun _ hk => trivial)⟩, ⟨by (with_reducible repeat (first | refine kN_ ?_ _ | refine k1_ ?_ | refine ka_ ?_ _)); refine blk_far ?_ NB514_519.out _; (with_reducible repeat (first | refine kN_ ?_ _ | refine k1_ ?_ | refine ka_ ?_ _)); refine blk_far ?_ NB514_519.out _; exact pk BK514.out⟩, ⟨by (with_reducible repeat (first | refine kN_ ?_ _ | refine k1_ ?_ | refine ka_ ?_ _)); refine blk_far ?_ NB515_519.out _; (with_reducible repeat (first | refine kN_ ?_ _ | refine k1_ ?_ | refine ka_ ?_ _)); refine blk_far ?_ NB515_519.out _; exact pk BK515.out⟩, ⟨by (with_reducible repeat (first | refine kN_ ?_ _ | refine k1_ ?_ | refine ka_ ?_ _)); refine blk_put (cs := #[.slice Ao11 t516.length co11, .bool false]) ?_ 1 _ rfl; (with_reducible repeat (first | refine kN_ ?_ _ | refine k1_ ?_ | refine ka_ ?_ _)); refine blk_put (cs := #[.slice none 0 0, .bool false]) ?_ 0 _ rfl; exact pk BK519.out⟩, ⟨by repeat (first | exact HB.out | apply ba_ | apply bN_ | apply b1_ | refine below_set ?_ (Aside0.out (by assumption)))⟩⟩
 case round =>
  clear H'
  try clear c1
  try clear p2
  try clear c12
  obtain ⟨x17_1, x520000_1, u520000, rfl, HA, HK1, HO_520000, BK514, BK515, BK519, HB⟩ := hrel
  cases gk with
  | zero => exact absurd HA.out (by simp [impl_State_moved.l0])
  | succ k1 =>
   have H := HA.out
   clear HA
   simp only [impl_State_moved.l0] at H
   by_cases c14 : x17_1 < (l1.length : Int)
   ·
    rw [if_pos c14] at H
    have c14b0 : decide (x17_1 < (l1.length : Int)) = true := decide_eq_true c14
    clear c14
    by_cases c15 : 0 ≤ x17_1
    ·
     rw [if_pos c15] at H
     have c15b0 : decide (0 ≤ x17_1) = true := decide_eq_true c15
     clear c15
     by_cases c16 : x17_1 < (l1.length : Int)
     ·
      rw [if_pos c16] at H
      have c16b0 : decide (x17_1 < (l1.length : Int)) = true := decide_eq_true c16
      clear c16
      by_cases c17 : 0 ≤ (rd l1 x17_1)
      ·
       rw [if_pos c17] at H
       have c17b0 : decide (0 ≤ (rd l1 x17_1)) = true := decide_eq_true c17
       clear c17
       by_cases c18 : (rd l1 x17_1) < (x520000_1.length : Int)
       ·
        rw [if_pos c18] at H
        have c18b0 : decide ((rd l1 x17_1) < (x520000_1.length : Int)) = true := decide_eq_true c18
        clear c18
        obtain ⟨y521, hy521⟩ : ∃ y_ : List Bool, y_ = (x520000_1.set ((rd l1 x17_1) : Int).toNat (!a0_1)) := ⟨_, rfl⟩
        replace H : (impl_State_moved.l0 k1 l1 (l1.length : Int) (wrap64 (x17_1 + 1)) y521 (!a0_1)) = some (r1, r2) := by first | (rw [hy521]; exact H) | exact H
        have Ny521 := ak_ hy521
        clear hy521
        have H' := ak_ H
        clear H
        have p520 : 0 ≤ (x17_1 : Int) := odt_ (by assumption)
        have q520 : x17_1 < (l1.length : Int) := odt_ (by assumption)
        obtain ⟨ad520, e520, hx520_0⟩ := Kd.at_int HR1.out x17_1 p520 q520
        cases e520
        try replace hx520_0 := (HB.out.cell (World.block_lt_of_cell? w _ hx520_0)).trans hx520_0
        replace p520 := eq_true p520
        replace q520 := eq_true q520
        have hnb20 := NB519_514.out
        have hnc20 := NB514_519.out
        have hnb21 := NB519_515.out
        have hnc21 := NB515_519.out
        obtain ⟨hcz22_0, hcz22_1, hfz22_0, hfz22_1⟩ := c2_ BK519.out
        have p19 : 0 ≤ ((rd l1 x17_1) : Int) := odt_ (by assumption)
        have q19 : ((rd l1 x17_1) : Int) < ((x520000_1.length : Int) : Int) := odt_ (by assumption)
        obtain ⟨go19, co19, eo19, gb19, gl19, cl19, HG19⟩ := Kd.R_form HO_520000.out (by omega)
        (first | cases eo19 | (injection eo19 with ea_ en_ ec_; (first | subst ea_ | (injection ea_ with ea_; subst ea_)); subst ec_; clear en_))
        have GB19 := ak_ gb19
        have GG19 := ak_ HG19
        clear gb19 gl19 HG19
        obtain ⟨hx19_0, hf19_0⟩ := Kd.R_celln false HO_520000.out ((rd l1 x17_1) : Int) p19 q19
        replace p19 := eq_true p19
        replace q19 := eq_true q19
        have HP23 := Kd.R_putg HO_520000.out ((rd l1 x17_1) : Int) (!a0_1)
        go_wp2_with (first | ((with_reducible refine gate_store (t := 4) (p := 26) rfl ?_); refine store_event (t := 4) (p := 26) (v := ?vo_w24) (w1 := (wr.setCell ⟨go19, ((rd l1 x17_1) : Int).toNat, none⟩ (.bool (!a0_1)))) ?hg ?ho ?hn ?hr ?_; (case ho => rfl); (case hg => rfl); (case hn => rfl); (case hr => go_simp <;> rfl); intro w24 hw; have hg : wr.grownBy w24 (some go19) := (by rw [hw]; exact HP23.2); have hp_ : Kd.R Kd.bool 4 w24 w.heap.size (fun _ => True) (.slice (some ⟨go19, 0, none⟩) x520000_1.length co19) y521 := (by rw [hw, Ny521.out]; exact HP23.1); clear HP23; have n0_ := ak_ (hp_); have n1_ := ak_ (blk_grown (pk BK514.out) hg (Kd.R_ne HO_520000.out BK514.out (by decide))); have n2_ := ak_ (blk_grown (pk BK515.out) hg (Kd.R_ne HO_520000.out BK515.out (by decide))); have n3_ := ak_ (blk_grown (pk BK519.out) hg (Kd.R_ne HO_520000.out BK519.out (by decide))); have n4_ := ak_ ((by rw [hw]; exact below_set (HB.out) GB19.out : Below w.heap.size w w24)); clear HO_520000; clear BK514; clear BK515; clear BK519; clear HB; have HO_520000 := n0_; have BK514 := n1_; have BK515 := n2_; have BK519 := n3_; have HB := n4_; clear n0_ n1_ n2_ n3_ n4_; clear hg hw hp_))
        go_roundg k1
        case measure => have := HK1.out; omega
        case rel => exact ⟨(wrap64 (x17_1 + 1)), (y521), (.slice (some ⟨go19, 0, none⟩) x520000_1.length co19), (ry_), H', ⟨by have := HK1.out; omega⟩, ⟨Kd.pR HO_520000.out⟩, ⟨pk BK514.out⟩, ⟨pk BK515.out⟩, ⟨pk BK519.out⟩, ⟨by repeat (first | exact HB.out | apply ba_ | apply bN_ | apply b1_ | refine below_set ?_ (Aside0.out (by assumption)))⟩⟩
       ·
        rw [if_neg c18] at H
        exact absurd H (by simp)
      ·
       rw [if_neg c17] at H
       exact absurd H (by simp)
     ·
      rw [if_neg c16] at H
      exact absurd H (by simp)
    ·
     rw [if_neg c15] at H
     exact absurd H (by simp)
   ·
    rw [if_neg c14] at H
    have c14b0 : decide (x17_1 < (l1.length : Int)) = false := decide_eq_false c14
    clear c14
    simp only [Option.some.injEq, Prod.mk.injEq] at H
    obtain ⟨rfl, rfl⟩ := H
    have hnb25 := NB519_514.out
    have hnc25 := NB514_519.out
    have hnb26 := NB519_515.out
    have hnc26 := NB515_519.out
    obtain ⟨hcz27_0, hcz27_1, hfz27_0, hfz27_1⟩ := c2_ BK519.out
    obtain ⟨Ao28, co28, eo28⟩ := Kd.R_slice HO_520000.out
    subst eo28
    have hnb29 := NB515_514.out
    have hnc29 := NB514_515.out
    obtain ⟨hcz30_0, hcz30_1, hfz30_0, hfz30_1⟩ := c2_ BK515.out
    go_wp2
    refine bodyPost_ret (results_cell_row rfl _ _ gb515 115 #[.slice Ao28 x520000_1.length co28, .bool (!a0_1)] (0, 0) _ rfl (by (with_reducible repeat (first | refine kN_ ?_ _ | refine k1_ ?_ | refine ka_ ?_ _)); refine blk_put (cs := #[.slice Ao28 x520000_1.length co28, .bool false]) ?_ 1 _ rfl; (with_reducible repeat (first | refine kN_ ?_ _ | refine k1_ ?_ | refine ka_ ?_ _)); refine blk_put (cs := #[.slice none 0 0, .bool false]) ?_ 0 _ rfl; exact pk BK515.out) Try.underlying115 rfl (by kernel_rfl)) rfl ?_
    exact ⟨_, rx_, by (with_reducible repeat (first | apply Kd.R_alloc | apply Kd.R_drewN | apply Kd.R_drew)); exact Kd.R_mono (Kd.R_far (p := ⟨gb515, 1, none⟩) (Kd.R_far (p := ⟨gb515, 0, none⟩) (Kd.R_types HO_520000.out BK515.out (by decide)) (fun _ hk => hk.2) (.slice Ao28 x520000_1.length co28)) (fun _ hk => hk.2) (.bool (!a0_1))) (fun _ hk => trivial), by repeat (first | exact HB.out | apply ba_ | apply bN_ | apply b1_ | refine below_set ?_ (Aside0.out (by assumption)))⟩
def impl_Bank_ridden.f (k : Nat) (l0_0 : List Bool) (a0_1 : Bool) (l1 : List Int) : Option (List Bool × Bool) := (impl_Bank_state.f l0_0 a0_1).bind fun bt524 => ((impl_State_moved.f k bt524.1 bt524.2 l1).bind fun bt528 => (some (bt528.1, bt528.2)))
theorem impl_Bank_ridden.calls (k : Nat) (A0_0 : Option Addr) (c0_0 : Nat) (l0_0 : List Bool) (a0_1 : Bool) (A1 : Option Addr) (c1 : Nat) (l1 : List Int) (r1 : List Bool) (r2 : Bool) (w : World) (hr0_0 : Kd.C Kd.bool w A0_0 l0_0.length l0_0) (hc0_0 : l0_0.length ≤ c0_0) (hr1 : Kd.C (Kd.int .i64) w A1 l1.length l1) (hc1 : l1.length ≤ c1) (h : impl_Bank_ridden.f k l0_0 a0_1 l1 = some (r1, r2)) :
  Calls Try.prog 143 #[.agg #[.slice A0_0 l0_0.length c0_0, .bool a0_1], .slice A1 l1.length c1] w fun e w' => ∃ v0_ : Value, e = .returned (.agg #[v0_, .bool r2]) ∧ Kd.R Kd.bool 4 w' w.heap.size (fun _ => True) v0_ r1 ∧ Below w.heap.size w w' := by
 have hu90 := Try.underlying90
 have hu115 := Try.underlying115
 have HR0_0 := ak_ hr0_0
 have HC0_0 := ak_ hc0_0
 clear hr0_0 hc0_0
 have HR1 := ak_ hr1
 have HC1 := ak_ hc1
 clear hr1 hc1
 have HB := ak_ (Below.refl w.heap.size w)
 have H : ((impl_Bank_state.f l0_0 a0_1).bind fun bt524 => ((impl_State_moved.f k bt524.1 bt524.2 l1).bind fun bt528 => (some (bt528.1, bt528.2)))) = some (r1, r2) := h
 clear h
 replace H := Option.bind_eq_some_iff.mp H
 obtain ⟨⟨t524, t527⟩, A30, H⟩ := H
 replace H : ((impl_State_moved.f k t524 t527 l1).bind fun bt528 => (some (bt528.1, bt528.2))) = some (r1, r2) := H
 have A3 := ak_ A30
 clear A30
 replace H := Option.bind_eq_some_iff.mp H
 obtain ⟨⟨t528, t531⟩, A40, H⟩ := H
 replace H : (some (t528, t531)) = some (r1, r2) := H
 have A4 := ak_ A40
 clear A40
 simp only [Option.some.injEq, Prod.mk.injEq] at H
 obtain ⟨rfl, rfl⟩ := H
 go_enter Try.func143, Try.ntmps143
 go_wp2_with (first | ((with_reducible refine gate_dst (N := 2) rfl ?_); refine bx_ 2 #[.slice A0_0 l0_0.length c0_0, .bool a0_1] 90 ?_; intro gb522 hg w5 hbox hb; have n0_ := ak_ (bs_ (bb_ HB.out) hb); have n1_ := ak_ (hbox); have n2_ := ak_ ((by rw [hg]; exact (bz_ (bb_ HB.out)) : w.heap.size ≤ gb522)); have n3_ := n2_; clear HB; have HB := n0_; have BK522 := n1_; have GW522 := n2_; have GE522 := n3_; clear n0_ n1_ n2_ n3_; clear hb hbox hg) | ((with_reducible refine gate_dst (N := 4) rfl ?_); refine bx_ 4 #[.slice none 0 0, .bool false] 90 ?_; intro gb523 hg w6 hbox hb; have n0_ := ak_ (blk_below (pk BK522.out) hb); have n1_ := ak_ (bs_ bl_ hb); have n2_ := ak_ (hbox); have n3_ := ak_ ((by rw [hg]; exact (bz_ bl_) : w.heap.size ≤ gb523)); have n4_ := n3_; have n5_ := ak_ ((by rw [hg]; exact Nat.ne_of_lt (blk_lt (pk BK522.out)) : gb522 ≠ gb523)); have n6_ := ak_ n5_.out.symm; clear BK522; clear HB; have BK522 := n0_; have HB := n1_; have BK523 := n2_; have GW523 := n3_; have GE523 := n4_; have NB522_523 := n5_; have NB523_522 := n6_; clear n0_ n1_ n2_ n3_ n4_ n5_ n6_; clear hb hbox hg; have hnb7 := NB522_523.out; have hnc7 := NB523_522.out; obtain ⟨hcz8_0, hcz8_1, hfz8_0, hfz8_1⟩ := c2_ BK522.out) | ((with_reducible refine gate_callee (f := 144) rfl ?_); refine goesL_ (some 7) rfl rfl Try.func144 (by kernel_rfl) rfl #[.agg #[.slice A0_0 l0_0.length c0_0, .bool a0_1]] rfl (by first | rfl | (simp only [map_toArray, map_cons, map_nil]; try rfl)) ?_; (with_reducible refine (impl_Bank_state.calls (fun k_ => k_ < w.heap.size) _ _ l0_0 a0_1 t524 t527 _ ?side1 A3.out).mono ?_); (case side1 => exact Kd.V_mk HC0_0.out (Kd.F_below (Kd.C_F Kd.heap_bool HR0_0.out) bl_)); rintro e w9 ⟨v525, rfl, ho0, hb⟩; refine ⟨_, rfl, ?_⟩; have n0_ := ak_ (Kd.V_lower (Kd.V_mono (ok' := fun k_ => k_ ≠ gb522 ∧ k_ ≠ gb523) ho0 (fun k_ hk_ => ⟨Or.elim hk_ (fun hs_ => fun e_ => Nat.not_le.2 hs_ (by rw [e_]; exact GW522.out)) (fun hn_ => (Kd.freshB (pk BK522.out) k_ hn_)), Or.elim hk_ (fun hs_ => fun e_ => Nat.not_le.2 hs_ (by rw [e_]; exact GW523.out)) (fun hn_ => (Kd.freshB (pk BK523.out) k_ hn_))⟩)) (bz_ bl_)); have n1_ := ak_ (blk_below (pk BK522.out) hb); have n2_ := ak_ (blk_below (pk BK523.out) hb); have n3_ := ak_ (bs_ bl_ hb); clear BK522; clear BK523; clear HB; have HO526 := n0_; have BK522 := n1_; have BK523 := n2_; have HB := n3_; clear n0_ n1_ n2_ n3_; (try clear hb); (try clear hb2); (try clear hk); (try clear hi); (try clear ho0); obtain ⟨Ao10, co10, eo10⟩ := Kd.V_slice HO526.out; subst eo10) | ((with_reducible refine gate_callee (f := 125) rfl ?_); refine goesL_ (some 9) rfl rfl Try.func125 (by kernel_rfl) rfl #[.agg #[.slice Ao10 t524.length co10, .bool t527], .slice A1 l1.length c1] rfl (by first | rfl | (simp only [map_toArray, map_cons, map_nil]; try rfl)) ?_; (with_reducible refine (impl_State_moved.calls k _ _ t524 t527 _ _ l1 t528 t531 _ ?side1 ?side2 ?side3 ?side4 A4.out).mono ?_); (case side1 => exact cs_ ((Kd.V_reads' HO526.out).2.2)); (case side2 => exact (Kd.V_reads' HO526.out).2.1); (case side3 => exact cs_ (Kd.C_below HR1.out HB.out)); (case side4 => exact HC1.out); rintro e w11 ⟨v529, rfl, ho0, hb⟩; refine ⟨_, rfl, ?_⟩; have n0_ := ak_ (Kd.V_elder' (Kd.pV HO526.out) (Kd.R_base ho0) hb); have n1_ := ak_ (Kd.R_lower ho0 (bz_ bl_)); have n2_ := ak_ (blk_below (pk BK522.out) hb); have n3_ := ak_ (blk_below (pk BK523.out) hb); have n4_ := ak_ (bs_ bl_ hb); clear HO526; clear BK522; clear BK523; clear HB; have HO526 := n0_; have HO530 := n1_; have BK522 := n2_; have BK523 := n3_; have HB := n4_; clear n0_ n1_ n2_ n3_ n4_; (try clear hb); (try clear hb2); (try clear hk); (try clear hi); (try clear ho0)) | ((with_reducible refine gate_dst (N := 5) rfl ?_); refine bx_ 5 #[.slice none 0 0, .bool false] 115 ?_; intro gb532 hg w12 hbox hb; have n0_ := ak_ (Kd.V_below (Kd.V_elderB (Kd.pV HO526.out) gb532 (Nat.le_of_eq hg.symm)) hb); have n1_ := ak_ (Kd.R_below (Kd.pR HO530.out) hb); have n2_ := ak_ (blk_below (pk BK522.out) hb); have n3_ := ak_ (blk_below (pk BK523.out) hb); have n4_ := ak_ (bs_ bl_ hb); have n5_ := ak_ (hbox); have n6_ := ak_ ((by rw [hg]; exact (bz_ bl_) : w.heap.size ≤ gb532)); have n7_ := n6_; have n8_ := ak_ ((by rw [hg]; exact Nat.ne_of_lt (blk_lt (pk BK522.out)) : gb522 ≠ gb532)); have n9_ := ak_ n8_.out.symm; have n10_ := ak_ ((by rw [hg]; exact Nat.ne_of_lt (blk_lt (pk BK523.out)) : gb523 ≠ gb532)); have n11_ := ak_ n10_.out.symm; clear HO526; clear HO530; clear BK522; clear BK523; clear HB; have HO526 := n0_; have HO530 := n1_; have BK522 := n2_; have BK523 := n3_; have HB := n4_; have BK532 := n5_; have GW532 := n6_; have GE532 := n7_; have NB522_532 := n8_; have NB532_522 := n9_; have NB523_532 := n10_; have NB532_523 := n11_; clear n0_ n1_ n2_ n3_ n4_ n5_ n6_ n7_ n8_ n9_ n10_ n11_; clear hb hbox hg; obtain ⟨Ao13, co13, eo13⟩ := Kd.R_slice HO530.out; subst eo13; have hnb14 := NB532_522.out; have hnc14 := NB522_532.out; have hnb15 := NB532_523.out; have hnc15 := NB523_532.out; obtain ⟨hcz16_0, hcz16_1, hfz16_0, hfz16_1⟩ := c2_ BK532.out; obtain ⟨hcz17_0, hcz17_1, hfz17_0, hfz17_1⟩ := c2_ BK523.out))
 refine bodyPost_ret (results_cell_row rfl _ _ gb523 90 #[.slice Ao13 t528.length co13, .bool t531] (0, 0) _ rfl (by (with_reducible repeat (first | refine kN_ ?_ _ | refine k1_ ?_ | refine ka_ ?_ _)); refine blk_put (cs := #[.slice Ao13 t528.length co13, .bool false]) ?_ 1 _ rfl; (with_reducible repeat (first | refine kN_ ?_ _ | refine k1_ ?_ | refine ka_ ?_ _)); refine blk_put (cs := #[.slice none 0 0, .bool false]) ?_ 0 _ rfl; (with_reducible repeat (first | refine kN_ ?_ _ | refine k1_ ?_ | refine ka_ ?_ _)); refine blk_far ?_ NB523_532.out _; (with_reducible repeat (first | refine kN_ ?_ _ | refine k1_ ?_ | refine ka_ ?_ _)); refine blk_far ?_ NB523_532.out _; exact pk BK523.out) Try.underlying90 rfl (by kernel_rfl)) rfl ?_
 exact ⟨_, rx_, by (with_reducible repeat (first | apply Kd.R_alloc | apply Kd.R_drewN | apply Kd.R_drew)); exact Kd.R_mono (Kd.R_far (p := ⟨gb523, 1, none⟩) (Kd.R_far (p := ⟨gb523, 0, none⟩) (Kd.R_far (p := ⟨gb532, 1, none⟩) (Kd.R_far (p := ⟨gb532, 0, none⟩) (Kd.R_types (Kd.R_types HO530.out BK532.out (by decide)) BK523.out (by decide)) (fun _ hk => hk.1.2) (.slice Ao13 t528.length co13)) (fun _ hk => hk.1.2) (.bool t531)) (fun _ hk => hk.2) (.slice Ao13 t528.length co13)) (fun _ hk => hk.2) (.bool t531)) (fun _ hk => trivial), by repeat (first | exact HB.out | apply ba_ | apply bN_ | apply b1_ | refine below_set ?_ (Aside0.out (by assumption)))⟩
def impl_Keep_dangers.l0 : Nat → List (List Int) → List (List Int) → Int → Int → List Bool → Bool → Option ((List (List Int)))
 | 0, _, _, _, _, _, _ => none
 | k + 1, x5, x10, x11, x12, x535000, x535001 => if x12 < x11 then (if 0 ≤ x12 then (if x12 < (x10.length : Int) then (if 0 < ((rd_L1 x10 x12).length : Int) then (if 0 ≤ (rd (rd_L1 x10 x12) 0) then (if (rd (rd_L1 x10 x12) 0) < (x535000.length : Int) then (if ((rdOf false x535000 (rd (rd_L1 x10 x12) 0)) != x535001) = true then (if 1 < ((rd_L1 x10 x12).length : Int) then (if 0 ≤ (rd (rd_L1 x10 x12) 1) then (if (rd (rd_L1 x10 x12) 1) < (x535000.length : Int) then (if ((rdOf false x535000 (rd (rd_L1 x10 x12) 1)) != x535001) = true then ((slices_Clone_int_int.f (rd_L1 x10 x12)).bind fun t543 => (if x5.length < 5864062014805 then (impl_Keep_dangers.l0 k (x5 ++ [t543]) x10 x11 (wrap64 (x12 + 1)) x535000 x535001) else (none))) else (impl_Keep_dangers.l0 k x5 x10 x11 (wrap64 (x12 + 1)) x535000 x535001)) else (none)) else (none)) else (none)) else (impl_Keep_dangers.l0 k x5 x10 x11 (wrap64 (x12 + 1)) x535000 x535001)) else (none)) else (none)) else (none)) else (none)) else (none)) else (some x5)
def impl_Keep_dangers.f (k : Nat) (a0_0 : Int) (l0_1 : List (List Int)) (a0_2 : Int) (l1_0 : List Bool) (a1_1 : Bool) : Option ((List (List Int))) := impl_Keep_dangers.l0 k (([] : List (List Int))) l0_1 (l0_1.length : Int) 0 l1_0 a1_1
theorem impl_Keep_dangers.calls (k : Nat) (a0_0 : Int) (A0_1 : Option Addr) (c0_1 : Nat) (l0_1 : List (List Int)) (a0_2 : Int) (A1_0 : Option Addr) (c1_0 : Nat) (l1_0 : List Bool) (a1_1 : Bool) (r : List (List Int)) (w : World) (hr0_1 : Kd.C (Kd.slice 3 (Kd.int .i64)) w A0_1 l0_1.length l0_1) (hc0_1 : l0_1.length ≤ c0_1) (hr1_0 : Kd.C Kd.bool w A1_0 l1_0.length l1_0) (hc1_0 : l1_0.length ≤ c1_0) (h : impl_Keep_dangers.f k a0_0 l0_1 a0_2 l1_0 a1_1 = some r) :
  Calls Try.prog 168 #[.agg #[.int .i64 a0_0, .slice A0_1 l0_1.length c0_1, .int .i64 a0_2], .agg #[.slice A1_0 l1_0.length c1_0, .bool a1_1]] w fun e w' => ∃ v0_ : Value, e = .returned (v0_) ∧ Kd.S (Kd.slice 3 (Kd.int .i64)) 29 w' w.heap.size (fun _ => True) v0_ r ∧ Below w.heap.size w w' := by
 have hu52 := Try.underlying52
 have hu90 := Try.underlying90
 have HR0_1 := ak_ hr0_1
 have HC0_1 := ak_ hc0_1
 clear hr0_1 hc0_1
 have HR1_0 := ak_ hr1_0
 have HC1_0 := ak_ hc1_0
 clear hr1_0 hc1_0
 have HB := ak_ (Below.refl w.heap.size w)
 have H : (impl_Keep_dangers.l0 k (([] : List (List Int))) l0_1 (l0_1.length : Int) 0 l1_0 a1_1) = some r := h
 clear h
 obtain ⟨y535, hy535⟩ : ∃ y_ : List (List Int), y_ = (([] : List (List Int))) := ⟨_, rfl⟩
 replace H : (impl_Keep_dangers.l0 k y535 l0_1 (l0_1.length : Int) 0 l1_0 a1_1) = some r := by first | (rw [hy535]; exact H) | exact H
 have Ny535 := ak_ hy535
 clear hy535
 have H' := ak_ H
 clear H
 go_enter Try.func168, Try.ntmps168
 go_wp2_with (first | ((with_reducible refine gate_dst (N := 2) rfl ?_); refine bx_ 2 #[.int .i64 a0_0, .slice A0_1 l0_1.length c0_1, .int .i64 a0_2] 52 ?_; intro gb533 hg w3 hbox hb; have n0_ := ak_ (bs_ (bb_ HB.out) hb); have n1_ := ak_ (hbox); have n2_ := ak_ ((by rw [hg]; exact (bz_ (bb_ HB.out)) : w.heap.size ≤ gb533)); have n3_ := n2_; clear HB; have HB := n0_; have BK533 := n1_; have GW533 := n2_; have GE533 := n3_; clear n0_ n1_ n2_ n3_; clear hb hbox hg) | ((with_reducible refine gate_dst (N := 3) rfl ?_); refine bx_ 3 #[.slice A1_0 l1_0.length c1_0, .bool a1_1] 90 ?_; intro gb534 hg w4 hbox hb; have n0_ := ak_ (blk_below (pk BK533.out) hb); have n1_ := ak_ (bs_ bl_ hb); have n2_ := ak_ (hbox); have n3_ := ak_ ((by rw [hg]; exact (bz_ bl_) : w.heap.size ≤ gb534)); have n4_ := n3_; have n5_ := ak_ ((by rw [hg]; exact Nat.ne_of_lt (blk_lt (pk BK533.out)) : gb533 ≠ gb534)); have n6_ := ak_ n5_.out.symm; clear BK533; clear HB; have BK533 := n0_; have HB := n1_; have BK534 := n2_; have GW534 := n3_; have GE534 := n4_; have NB533_534 := n5_; have NB534_533 := n6_; clear n0_ n1_ n2_ n3_ n4_ n5_ n6_; clear hb hbox hg) | ((with_reducible refine gate_dst (N := 8) rfl ?_); refine Kd.S_lit (Kd.slice 3 (Kd.int .i64)) _ 29 ?hg (N := 8) ?hd (xs := ([] : List (List Int))) (inner := []) (ok := fun _ => True) (okp := fun _ => True) ?hr ?hp (fun _ hk => hk) trivial (Below.refl _ _) (Nat.le_refl _) (by simp) ?_; (case hd => rfl); (case hg => rfl); (case hr => go_simp <;> rfl); (case hp => exact (Reps.none _ _)); intro v536 w5 ho6 hb hg_ hnew_; clear hg_ hnew_; (first | rw [← Ny535.out] at ho6 | (simp only [Int.reduceToNat] at ho6; rw [← Ny535.out] at ho6)); have n0_ := ak_ (Kd.S_lower ho6 (bz_ bl_)); have n1_ := ak_ (blk_below (pk BK533.out) hb); have n2_ := ak_ (blk_below (pk BK534.out) hb); have n3_ := ak_ (bs_ bl_ hb); clear BK533; clear BK534; clear HB; have HO537 := n0_; have BK533 := n1_; have BK534 := n2_; have HB := n3_; clear n0_ n1_ n2_ n3_; clear hb ho6; have hnb7 := NB533_534.out; have hnc7 := NB534_533.out; obtain ⟨hcz8_0, hcz8_1, hcz8_2, hfz8_0, hfz8_1, hfz8_2⟩ := c3_ BK533.out))
 repeat (go_quiet (first | ((with_reducible refine gate_dst (N := 2) rfl ?_); refine bx_ 2 #[.int .i64 a0_0, .slice A0_1 l0_1.length c0_1, .int .i64 a0_2] 52 ?_; intro gb533 hg w3 hbox hb; have n0_ := ak_ (bs_ (bb_ HB.out) hb); have n1_ := ak_ (hbox); have n2_ := ak_ ((by rw [hg]; exact (bz_ (bb_ HB.out)) : w.heap.size ≤ gb533)); have n3_ := n2_; clear HB; have HB := n0_; have BK533 := n1_; have GW533 := n2_; have GE533 := n3_; clear n0_ n1_ n2_ n3_; clear hb hbox hg) | ((with_reducible refine gate_dst (N := 3) rfl ?_); refine bx_ 3 #[.slice A1_0 l1_0.length c1_0, .bool a1_1] 90 ?_; intro gb534 hg w4 hbox hb; have n0_ := ak_ (blk_below (pk BK533.out) hb); have n1_ := ak_ (bs_ bl_ hb); have n2_ := ak_ (hbox); have n3_ := ak_ ((by rw [hg]; exact (bz_ bl_) : w.heap.size ≤ gb534)); have n4_ := n3_; have n5_ := ak_ ((by rw [hg]; exact Nat.ne_of_lt (blk_lt (pk BK533.out)) : gb533 ≠ gb534)); have n6_ := ak_ n5_.out.symm; clear BK533; clear HB; have BK533 := n0_; have HB := n1_; have BK534 := n2_; have GW534 := n3_; have GE534 := n4_; have NB533_534 := n5_; have NB534_533 := n6_; clear n0_ n1_ n2_ n3_ n4_ n5_ n6_; clear hb hbox hg) | ((with_reducible refine gate_dst (N := 8) rfl ?_); refine Kd.S_lit (Kd.slice 3 (Kd.int .i64)) _ 29 ?hg (N := 8) ?hd (xs := ([] : List (List Int))) (inner := []) (ok := fun _ => True) (okp := fun _ => True) ?hr ?hp (fun _ hk => hk) trivial (Below.refl _ _) (Nat.le_refl _) (by simp) ?_; (case hd => rfl); (case hg => rfl); (case hr => go_simp <;> rfl); (case hp => exact (Reps.none _ _)); intro v536 w5 ho6 hb hg_ hnew_; clear hg_ hnew_; (first | rw [← Ny535.out] at ho6 | (simp only [Int.reduceToNat] at ho6; rw [← Ny535.out] at ho6)); have n0_ := ak_ (Kd.S_lower ho6 (bz_ bl_)); have n1_ := ak_ (blk_below (pk BK533.out) hb); have n2_ := ak_ (blk_below (pk BK534.out) hb); have n3_ := ak_ (bs_ bl_ hb); clear BK533; clear BK534; clear HB; have HO537 := n0_; have BK533 := n1_; have BK534 := n2_; have HB := n3_; clear n0_ n1_ n2_ n3_; clear hb ho6; have hnb7 := NB533_534.out; have hnc7 := NB534_533.out; obtain ⟨hcz8_0, hcz8_1, hcz8_2, hfz8_0, hfz8_1, hfz8_2⟩ := c3_ BK533.out)); try go_wp2_with (first | ((with_reducible refine gate_dst (N := 2) rfl ?_); refine bx_ 2 #[.int .i64 a0_0, .slice A0_1 l0_1.length c0_1, .int .i64 a0_2] 52 ?_; intro gb533 hg w3 hbox hb; have n0_ := ak_ (bs_ (bb_ HB.out) hb); have n1_ := ak_ (hbox); have n2_ := ak_ ((by rw [hg]; exact (bz_ (bb_ HB.out)) : w.heap.size ≤ gb533)); have n3_ := n2_; clear HB; have HB := n0_; have BK533 := n1_; have GW533 := n2_; have GE533 := n3_; clear n0_ n1_ n2_ n3_; clear hb hbox hg) | ((with_reducible refine gate_dst (N := 3) rfl ?_); refine bx_ 3 #[.slice A1_0 l1_0.length c1_0, .bool a1_1] 90 ?_; intro gb534 hg w4 hbox hb; have n0_ := ak_ (blk_below (pk BK533.out) hb); have n1_ := ak_ (bs_ bl_ hb); have n2_ := ak_ (hbox); have n3_ := ak_ ((by rw [hg]; exact (bz_ bl_) : w.heap.size ≤ gb534)); have n4_ := n3_; have n5_ := ak_ ((by rw [hg]; exact Nat.ne_of_lt (blk_lt (pk BK533.out)) : gb533 ≠ gb534)); have n6_ := ak_ n5_.out.symm; clear BK533; clear HB; have BK533 := n0_; have HB := n1_; have BK534 := n2_; have GW534 := n3_; have GE534 := n4_; have NB533_534 := n5_; have NB534_533 := n6_; clear n0_ n1_ n2_ n3_ n4_ n5_ n6_; clear hb hbox hg) | ((with_reducible refine gate_dst (N := 8) rfl ?_); refine Kd.S_lit (Kd.slice 3 (Kd.int .i64)) _ 29 ?hg (N := 8) ?hd (xs := ([] : List (List Int))) (inner := []) (ok := fun _ => True) (okp := fun _ => True) ?hr ?hp (fun _ hk => hk) trivial (Below.refl _ _) (Nat.le_refl _) (by simp) ?_; (case hd => rfl); (case hg => rfl); (case hr => go_simp <;> rfl); (case hp => exact (Reps.none _ _)); intro v536 w5 ho6 hb hg_ hnew_; clear hg_ hnew_; (first | rw [← Ny535.out] at ho6 | (simp only [Int.reduceToNat] at ho6; rw [← Ny535.out] at ho6)); have n0_ := ak_ (Kd.S_lower ho6 (bz_ bl_)); have n1_ := ak_ (blk_below (pk BK533.out) hb); have n2_ := ak_ (blk_below (pk BK534.out) hb); have n3_ := ak_ (bs_ bl_ hb); clear BK533; clear BK534; clear HB; have HO537 := n0_; have BK533 := n1_; have BK534 := n2_; have HB := n3_; clear n0_ n1_ n2_ n3_; clear hb ho6; have hnb7 := NB533_534.out; have hnc7 := NB534_533.out; obtain ⟨hcz8_0, hcz8_1, hcz8_2, hfz8_0, hfz8_1, hfz8_2⟩ := c3_ BK533.out)))
 go_loopg [5, 12] k (fun kq v5 v12 w' => ∃ (x5_1 : List (List Int)) (x12_1 : Int), v12 = .int .i64 x12_1 ∧ Aside0 (impl_Keep_dangers.l0 kq x5_1 l0_1 (l0_1.length : Int) x12_1 l1_0 a1_1 = some r) ∧ Aside0 (kq ≤ k) ∧ Aside0 (Kd.S (Kd.slice 3 (Kd.int .i64)) 29 w' w.heap.size (fun _ => True) v5 x5_1) ∧ Aside0 (w'.heap[gb533]? = some (.cells #[.int .i64 a0_0, (.slice A0_1 l0_1.length c0_1), .int .i64 a0_2] 52 (0, 0))) ∧ Aside0 (w'.heap[gb534]? = some (.cells #[(.slice A1_0 l1_0.length c1_0), .bool a1_1] 90 (0, 0))) ∧ Aside0 (Below w.heap.size w w'))
 case atStart => exact ⟨(y535), (0), (ry_), H', ⟨Nat.le_refl _⟩, ⟨Kd.pS HO537.out⟩, ⟨pk BK533.out⟩, ⟨pk BK534.out⟩, ⟨by repeat (first | exact HB.out | apply ba_ | apply bN_ | apply b1_ | refine below_set ?_ (Aside0.out (by assumption)))⟩⟩
 case round =>
  clear H'
  try clear c1
  try clear p2
  try clear c7
  try clear hcz8_0
  try clear hcz8_1
  try clear hcz8_2
  try clear hfz8_0
  try clear hfz8_1
  try clear hfz8_2
  obtain ⟨x5_1, x12_1, rfl, HA, HK1, HO_5, BK533, BK534, HB⟩ := hrel
  cases gk with
  | zero => exact absurd HA.out (by simp [impl_Keep_dangers.l0])
  | succ k1 =>
   have H := HA.out
   clear HA
   simp only [impl_Keep_dangers.l0] at H
   by_cases c9 : x12_1 < (l0_1.length : Int)
   ·
    rw [if_pos c9] at H
    have c9b0 : decide (x12_1 < (l0_1.length : Int)) = true := decide_eq_true c9
    clear c9
    by_cases c10 : 0 ≤ x12_1
    ·
     rw [if_pos c10] at H
     have c10b0 : decide (0 ≤ x12_1) = true := decide_eq_true c10
     clear c10
     by_cases c11 : x12_1 < (l0_1.length : Int)
     ·
      rw [if_pos c11] at H
      have c11b0 : decide (x12_1 < (l0_1.length : Int)) = true := decide_eq_true c11
      clear c11
      by_cases c12 : 0 < ((rd_L1 l0_1 x12_1).length : Int)
      ·
       rw [if_pos c12] at H
       have c12b0 : decide (0 < ((rd_L1 l0_1 x12_1).length : Int)) = true := decide_eq_true c12
       have c12b1 : decide (0 < (rd_L1 l0_1 x12_1).length) = true := decide_eq_true (by omega)
       clear c12
       by_cases c13 : 0 ≤ (rd (rd_L1 l0_1 x12_1) 0)
       ·
        rw [if_pos c13] at H
        have c13b0 : decide (0 ≤ (rd (rd_L1 l0_1 x12_1) 0)) = true := decide_eq_true c13
        clear c13
        by_cases c14 : (rd (rd_L1 l0_1 x12_1) 0) < (l1_0.length : Int)
        ·
         rw [if_pos c14] at H
         have c14b0 : decide ((rd (rd_L1 l0_1 x12_1) 0) < (l1_0.length : Int)) = true := decide_eq_true c14
         clear c14
         by_cases c15 : ((rdOf false l1_0 (rd (rd_L1 l0_1 x12_1) 0)) != a1_1) = true
         ·
          rw [if_pos c15] at H
          have c15b0 : ((rdOf false l1_0 (rd (rd_L1 l0_1 x12_1) 0)) != a1_1) = true := c15
          (try (have c15b1 : decide ((rdOf false l1_0 (rd (rd_L1 l0_1 x12_1) 0)) = a1_1) = false := by simpa using c15))
          (try (have c15b2 : ((rdOf false l1_0 (rd (rd_L1 l0_1 x12_1) 0)) == a1_1) = false := by simpa using c15))
          (try (have c15b3 : ¬ ((rdOf false l1_0 (rd (rd_L1 l0_1 x12_1) 0)) = a1_1) := by simpa using c15))
          clear c15
          by_cases c16 : 1 < ((rd_L1 l0_1 x12_1).length : Int)
          ·
           rw [if_pos c16] at H
           have c16b0 : decide (1 < ((rd_L1 l0_1 x12_1).length : Int)) = true := decide_eq_true c16
           have c16b1 : decide (1 < (rd_L1 l0_1 x12_1).length) = true := decide_eq_true (by omega)
           clear c16
           by_cases c17 : 0 ≤ (rd (rd_L1 l0_1 x12_1) 1)
           ·
            rw [if_pos c17] at H
            have c17b0 : decide (0 ≤ (rd (rd_L1 l0_1 x12_1) 1)) = true := decide_eq_true c17
            clear c17
            by_cases c18 : (rd (rd_L1 l0_1 x12_1) 1) < (l1_0.length : Int)
            ·
             rw [if_pos c18] at H
             have c18b0 : decide ((rd (rd_L1 l0_1 x12_1) 1) < (l1_0.length : Int)) = true := decide_eq_true c18
             clear c18
             by_cases c19 : ((rdOf false l1_0 (rd (rd_L1 l0_1 x12_1) 1)) != a1_1) = true
             ·
              rw [if_pos c19] at H
              have c19b0 : ((rdOf false l1_0 (rd (rd_L1 l0_1 x12_1) 1)) != a1_1) = true := c19
              (try (have c19b1 : decide ((rdOf false l1_0 (rd (rd_L1 l0_1 x12_1) 1)) = a1_1) = false := by simpa using c19))
              (try (have c19b2 : ((rdOf false l1_0 (rd (rd_L1 l0_1 x12_1) 1)) == a1_1) = false := by simpa using c19))
              (try (have c19b3 : ¬ ((rdOf false l1_0 (rd (rd_L1 l0_1 x12_1) 1)) = a1_1) := by simpa using c19))
              clear c19
              replace H := Option.bind_eq_some_iff.mp H
              obtain ⟨t543, A200, H⟩ := H
              replace H : (if x5_1.length < 5864062014805 then (impl_Keep_dangers.l0 k1 (x5_1 ++ [t543]) l0_1 (l0_1.length : Int) (wrap64 (x12_1 + 1)) l1_0 a1_1) else (none)) = some r := H
              have A20 := ak_ A200
              clear A200
              by_cases c21 : x5_1.length < 5864062014805
              ·
               rw [if_pos c21] at H
               have LMc21 := ak_ c21
               clear c21
               obtain ⟨y546, hy546⟩ : ∃ y_ : List (List Int), y_ = (x5_1 ++ [t543]) := ⟨_, rfl⟩
               replace H : (impl_Keep_dangers.l0 k1 y546 l0_1 (l0_1.length : Int) (wrap64 (x12_1 + 1)) l1_0 a1_1) = some r := by first | (rw [hy546]; exact H) | exact H
               have Ny546 := ak_ hy546
               clear hy546
               have H' := ak_ H
               clear H
               have p538 : 0 ≤ (x12_1 : Int) := odt_ (by assumption)
               have q538 : x12_1 < (l0_1.length : Int) := odt_ (by assumption)
               obtain ⟨ad538, A538_0, c538_0, e538, hx538_0, hl538_0, hi538_0⟩ := at_L1 HR0_1.out x12_1 p538 q538
               cases e538
               try replace hx538_0 := (HB.out.cell (World.block_lt_of_cell? w _ hx538_0)).trans hx538_0
               have HR538_0 := ak_ hi538_0
               have HC538_0 := ak_ hl538_0
               clear hi538_0 hl538_0
               replace p538 := eq_true p538
               replace q538 := eq_true q538
               have hnb22 := NB534_533.out
               have hnc22 := NB533_534.out
               obtain ⟨hcz23_0, hcz23_1, hfz23_0, hfz23_1⟩ := c2_ BK534.out
               have p539 : 0 ≤ (0 : Int) := (by omega)
               have q539 : 0 < ((rd_L1 l0_1 x12_1).length : Int) := odt_ (by assumption)
               obtain ⟨ad539, e539, hx539_0⟩ := Kd.at_int HR538_0.out 0 p539 q539
               cases e539
               have qi539 : (0 < (rd_L1 l0_1 x12_1).length) = True := eq_true (by omega)
               (try rw [show ((0 : Int)).toNat = 0 from rfl] at hx539_0)
               (try rw [Addr.add_zero'] at hx539_0)
               try replace hx539_0 := (HB.out.cell (World.block_lt_of_cell? w _ hx539_0)).trans hx539_0
               replace p539 := eq_true p539
               replace q539 := eq_true q539
               have p540 : 0 ≤ ((rd (rd_L1 l0_1 x12_1) 0) : Int) := odt_ (by assumption)
               have q540 : (rd (rd_L1 l0_1 x12_1) 0) < (l1_0.length : Int) := odt_ (by assumption)
               obtain ⟨ad540, e540, hx540_0⟩ := Kd.at_bool HR1_0.out (rd (rd_L1 l0_1 x12_1) 0) p540 q540
               cases e540
               try replace hx540_0 := (HB.out.cell (World.block_lt_of_cell? w _ hx540_0)).trans hx540_0
               replace p540 := eq_true p540
               replace q540 := eq_true q540
               have p541 : 0 ≤ (1 : Int) := (by omega)
               have q541 : 1 < ((rd_L1 l0_1 x12_1).length : Int) := odt_ (by assumption)
               obtain ⟨ad541, e541, hx541_0⟩ := Kd.at_int HR538_0.out 1 p541 q541
               obtain rfl : ad539 = ad541 := (by injection e541)
               (try simp only [show (1 : Int).toNat = 1 from rfl, Nat.reduceMul, Nat.reduceEqDiff, Go.Addr.add, ↓reduceIte] at hx541_0)
               have qi541 : (1 < (rd_L1 l0_1 x12_1).length) = True := eq_true (by omega)
               (try rw [show ((1 : Int)).toNat = 1 from rfl] at hx541_0)
               try replace hx541_0 := (HB.out.cell (World.block_lt_of_cell? w _ hx541_0)).trans hx541_0
               replace p541 := eq_true p541
               replace q541 := eq_true q541
               have p542 : 0 ≤ ((rd (rd_L1 l0_1 x12_1) 1) : Int) := odt_ (by assumption)
               have q542 : (rd (rd_L1 l0_1 x12_1) 1) < (l1_0.length : Int) := odt_ (by assumption)
               obtain ⟨ad542, e542, hx542_0⟩ := Kd.at_bool HR1_0.out (rd (rd_L1 l0_1 x12_1) 1) p542 q542
               obtain rfl : ad540 = ad542 := (by injection e542)
               try replace hx542_0 := (HB.out.cell (World.block_lt_of_cell? w _ hx542_0)).trans hx542_0
               replace p542 := eq_true p542
               replace q542 := eq_true q542
               go_wp2_with (first | (go_at_call 149; (with_reducible refine (slices_Clone_int_int.calls _ _ (rd_L1 l0_1 x12_1) t543 _ ?side1 ?side2 A20.out).mono ?_); (case side1 => exact cs_ (Kd.C_below HR538_0.out HB.out)); (case side2 => exact HC538_0.out); rintro e w24 ⟨v544, rfl, ho0, hb⟩; have n0_ := ak_ (Kd.S_elder' (Kd.pS HO_5.out) (Kd.R_base ho0) hb); have n1_ := ak_ (Kd.R_lower ho0 (bz_ bl_)); have n2_ := ak_ (blk_below (pk BK533.out) hb); have n3_ := ak_ (blk_below (pk BK534.out) hb); have n4_ := ak_ (bs_ bl_ hb); clear HO_5; clear BK533; clear BK534; clear HB; have HO_5 := n0_; have HO545 := n1_; have BK533 := n2_; have BK534 := n3_; have HB := n4_; clear n0_ n1_ n2_ n3_ n4_; (try clear hb); (try clear hb2); (try clear hk); (try clear hi); (try clear ho0); obtain ⟨Ao26, co26, eo26⟩ := Kd.R_slice HO545.out; subst eo26) | ((with_reducible refine gate_builtin (b := .append) (xs := #[.tmp 38, .tmp 41]) rfl ?_); at_builtin; refine Kd.S_append (Kd.slice 3 (Kd.int .i64)) (w0 := w) w.heap.size rfl (.tmp 38) (.tmp 41) 47 29 (.slice none 0 0) 24 rfl Try.underlying47 info29 rfl (by decide) (by omega) u5 x5_1 t543 [.slice Ao26 t543.length co26] (fun _ => True) (fun k_ => some k_ = (.slice Ao26 t543.length co26 : Value).ownBlock) rfl rfl ?aP (fun k_ hk_ => ((Kd.R_mono (ok' := fun k_ => ((fun _ => True)) k_ ∧ some k_ ≠ (u5 : Value).ownBlock) (Kd.R_apart' (HO545.out) (Kd.S_typed HO_5.out) (by decide)) (fun k_ hk => ⟨trivial, hk.2⟩))).1 k_ hk_.symm) ?aF ?aO ?aB ?aS ?aL ?_; (case aP => exact Kd.M_row (Kd.R_mono (Kd.R_tight rfl (Kd.R_mono (ok' := fun k_ => ((fun _ => True)) k_ ∧ some k_ ≠ (u5 : Value).ownBlock) (Kd.R_apart' (HO545.out) (Kd.S_typed HO_5.out) (by decide)) (fun k_ hk => ⟨trivial, hk.2⟩))) (fun _ h_ => h_))); (case aB => exact bl_); (case aF => exact (fun _ _ => trivial)); (case aO => exact (by (with_reducible repeat (first | apply Kd.S_alloc | apply Kd.S_drewN | apply Kd.S_drew)); exact Kd.S_mono HO_5.out (fun k_ hk => ⟨trivial, fun e_ => hk.2 e_⟩))); (case aS => exact (bz_ bl_)); (case aL => have := LMc21.out; omega); intro v547 w25 ho hb hg hat; rw [← Ny546.out] at ho; have n0_ := ak_ (blk_grown (pk BK533.out) hg (Kd.S_ne HO_5.out BK533.out (by decide))); have n1_ := ak_ (blk_grown (pk BK534.out) hg (Kd.S_ne HO_5.out BK534.out (by decide))); have n2_ := ak_ (hb); have n3_ := ak_ (ho); clear BK533; clear BK534; clear HB; clear HO_5; clear HO545; have BK533 := n0_; have BK534 := n1_; have HB := n2_; have HO548 := n3_; clear n0_ n1_ n2_ n3_; clear ho hb hg hat))
               repeat (go_quiet (first | (go_at_call 149; (with_reducible refine (slices_Clone_int_int.calls _ _ (rd_L1 l0_1 x12_1) t543 _ ?side1 ?side2 A20.out).mono ?_); (case side1 => exact cs_ (Kd.C_below HR538_0.out HB.out)); (case side2 => exact HC538_0.out); rintro e w24 ⟨v544, rfl, ho0, hb⟩; have n0_ := ak_ (Kd.S_elder' (Kd.pS HO_5.out) (Kd.R_base ho0) hb); have n1_ := ak_ (Kd.R_lower ho0 (bz_ bl_)); have n2_ := ak_ (blk_below (pk BK533.out) hb); have n3_ := ak_ (blk_below (pk BK534.out) hb); have n4_ := ak_ (bs_ bl_ hb); clear HO_5; clear BK533; clear BK534; clear HB; have HO_5 := n0_; have HO545 := n1_; have BK533 := n2_; have BK534 := n3_; have HB := n4_; clear n0_ n1_ n2_ n3_ n4_; (try clear hb); (try clear hb2); (try clear hk); (try clear hi); (try clear ho0); obtain ⟨Ao26, co26, eo26⟩ := Kd.R_slice HO545.out; subst eo26) | ((with_reducible refine gate_builtin (b := .append) (xs := #[.tmp 38, .tmp 41]) rfl ?_); at_builtin; refine Kd.S_append (Kd.slice 3 (Kd.int .i64)) (w0 := w) w.heap.size rfl (.tmp 38) (.tmp 41) 47 29 (.slice none 0 0) 24 rfl Try.underlying47 info29 rfl (by decide) (by omega) u5 x5_1 t543 [.slice Ao26 t543.length co26] (fun _ => True) (fun k_ => some k_ = (.slice Ao26 t543.length co26 : Value).ownBlock) rfl rfl ?aP (fun k_ hk_ => ((Kd.R_mono (ok' := fun k_ => ((fun _ => True)) k_ ∧ some k_ ≠ (u5 : Value).ownBlock) (Kd.R_apart' (HO545.out) (Kd.S_typed HO_5.out) (by decide)) (fun k_ hk => ⟨trivial, hk.2⟩))).1 k_ hk_.symm) ?aF ?aO ?aB ?aS ?aL ?_; (case aP => exact Kd.M_row (Kd.R_mono (Kd.R_tight rfl (Kd.R_mono (ok' := fun k_ => ((fun _ => True)) k_ ∧ some k_ ≠ (u5 : Value).ownBlock) (Kd.R_apart' (HO545.out) (Kd.S_typed HO_5.out) (by decide)) (fun k_ hk => ⟨trivial, hk.2⟩))) (fun _ h_ => h_))); (case aB => exact bl_); (case aF => exact (fun _ _ => trivial)); (case aO => exact (by (with_reducible repeat (first | apply Kd.S_alloc | apply Kd.S_drewN | apply Kd.S_drew)); exact Kd.S_mono HO_5.out (fun k_ hk => ⟨trivial, fun e_ => hk.2 e_⟩))); (case aS => exact (bz_ bl_)); (case aL => have := LMc21.out; omega); intro v547 w25 ho hb hg hat; rw [← Ny546.out] at ho; have n0_ := ak_ (blk_grown (pk BK533.out) hg (Kd.S_ne HO_5.out BK533.out (by decide))); have n1_ := ak_ (blk_grown (pk BK534.out) hg (Kd.S_ne HO_5.out BK534.out (by decide))); have n2_ := ak_ (hb); have n3_ := ak_ (ho); clear BK533; clear BK534; clear HB; clear HO_5; clear HO545; have BK533 := n0_; have BK534 := n1_; have HB := n2_; have HO548 := n3_; clear n0_ n1_ n2_ n3_; clear ho hb hg hat)); try go_wp2_with (first | (go_at_call 149; (with_reducible refine (slices_Clone_int_int.calls _ _ (rd_L1 l0_1 x12_1) t543 _ ?side1 ?side2 A20.out).mono ?_); (case side1 => exact cs_ (Kd.C_below HR538_0.out HB.out)); (case side2 => exact HC538_0.out); rintro e w24 ⟨v544, rfl, ho0, hb⟩; have n0_ := ak_ (Kd.S_elder' (Kd.pS HO_5.out) (Kd.R_base ho0) hb); have n1_ := ak_ (Kd.R_lower ho0 (bz_ bl_)); have n2_ := ak_ (blk_below (pk BK533.out) hb); have n3_ := ak_ (blk_below (pk BK534.out) hb); have n4_ := ak_ (bs_ bl_ hb); clear HO_5; clear BK533; clear BK534; clear HB; have HO_5 := n0_; have HO545 := n1_; have BK533 := n2_; have BK534 := n3_; have HB := n4_; clear n0_ n1_ n2_ n3_ n4_; (try clear hb); (try clear hb2); (try clear hk); (try clear hi); (try clear ho0); obtain ⟨Ao26, co26, eo26⟩ := Kd.R_slice HO545.out; subst eo26) | ((with_reducible refine gate_builtin (b := .append) (xs := #[.tmp 38, .tmp 41]) rfl ?_); at_builtin; refine Kd.S_append (Kd.slice 3 (Kd.int .i64)) (w0 := w) w.heap.size rfl (.tmp 38) (.tmp 41) 47 29 (.slice none 0 0) 24 rfl Try.underlying47 info29 rfl (by decide) (by omega) u5 x5_1 t543 [.slice Ao26 t543.length co26] (fun _ => True) (fun k_ => some k_ = (.slice Ao26 t543.length co26 : Value).ownBlock) rfl rfl ?aP (fun k_ hk_ => ((Kd.R_mono (ok' := fun k_ => ((fun _ => True)) k_ ∧ some k_ ≠ (u5 : Value).ownBlock) (Kd.R_apart' (HO545.out) (Kd.S_typed HO_5.out) (by decide)) (fun k_ hk => ⟨trivial, hk.2⟩))).1 k_ hk_.symm) ?aF ?aO ?aB ?aS ?aL ?_; (case aP => exact Kd.M_row (Kd.R_mono (Kd.R_tight rfl (Kd.R_mono (ok' := fun k_ => ((fun _ => True)) k_ ∧ some k_ ≠ (u5 : Value).ownBlock) (Kd.R_apart' (HO545.out) (Kd.S_typed HO_5.out) (by decide)) (fun k_ hk => ⟨trivial, hk.2⟩))) (fun _ h_ => h_))); (case aB => exact bl_); (case aF => exact (fun _ _ => trivial)); (case aO => exact (by (with_reducible repeat (first | apply Kd.S_alloc | apply Kd.S_drewN | apply Kd.S_drew)); exact Kd.S_mono HO_5.out (fun k_ hk => ⟨trivial, fun e_ => hk.2 e_⟩))); (case aS => exact (bz_ bl_)); (case aL => have := LMc21.out; omega); intro v547 w25 ho hb hg hat; rw [← Ny546.out] at ho; have n0_ := ak_ (blk_grown (pk BK533.out) hg (Kd.S_ne HO_5.out BK533.out (by decide))); have n1_ := ak_ (blk_grown (pk BK534.out) hg (Kd.S_ne HO_5.out BK534.out (by decide))); have n2_ := ak_ (hb); have n3_ := ak_ (ho); clear BK533; clear BK534; clear HB; clear HO_5; clear HO545; have BK533 := n0_; have BK534 := n1_; have HB := n2_; have HO548 := n3_; clear n0_ n1_ n2_ n3_; clear ho hb hg hat)))
               go_roundg k1
               case measure => have := HK1.out; omega
               case rel => exact ⟨(y546), (wrap64 (x12_1 + 1)), (ry_), H', ⟨by have := HK1.out; omega⟩, ⟨Kd.pS HO548.out⟩, ⟨pk BK533.out⟩, ⟨pk BK534.out⟩, ⟨by repeat (first | exact HB.out | apply ba_ | apply bN_ | apply b1_ | refine below_set ?_ (Aside0.out (by assumption)))⟩⟩
              ·
               rw [if_neg c21] at H
               exact absurd H (by simp)
             ·
              rw [if_neg c19] at H
              have c19b0 : ((rdOf false l1_0 (rd (rd_L1 l0_1 x12_1) 1)) != a1_1) = false := by simpa using c19
              (try (have c19b1 : decide ((rdOf false l1_0 (rd (rd_L1 l0_1 x12_1) 1)) = a1_1) = true := by simpa using c19))
              (try (have c19b2 : ((rdOf false l1_0 (rd (rd_L1 l0_1 x12_1) 1)) == a1_1) = true := by simpa using c19))
              clear c19
              have H' := ak_ H
              clear H
              have p538 : 0 ≤ (x12_1 : Int) := odt_ (by assumption)
              have q538 : x12_1 < (l0_1.length : Int) := odt_ (by assumption)
              obtain ⟨ad538, A538_0, c538_0, e538, hx538_0, hl538_0, hi538_0⟩ := at_L1 HR0_1.out x12_1 p538 q538
              cases e538
              try replace hx538_0 := (HB.out.cell (World.block_lt_of_cell? w _ hx538_0)).trans hx538_0
              have HR538_0 := ak_ hi538_0
              have HC538_0 := ak_ hl538_0
              clear hi538_0 hl538_0
              replace p538 := eq_true p538
              replace q538 := eq_true q538
              have hnb27 := NB534_533.out
              have hnc27 := NB533_534.out
              obtain ⟨hcz28_0, hcz28_1, hfz28_0, hfz28_1⟩ := c2_ BK534.out
              have p539 : 0 ≤ (0 : Int) := (by omega)
              have q539 : 0 < ((rd_L1 l0_1 x12_1).length : Int) := odt_ (by assumption)
              obtain ⟨ad539, e539, hx539_0⟩ := Kd.at_int HR538_0.out 0 p539 q539
              cases e539
              have qi539 : (0 < (rd_L1 l0_1 x12_1).length) = True := eq_true (by omega)
              (try rw [show ((0 : Int)).toNat = 0 from rfl] at hx539_0)
              (try rw [Addr.add_zero'] at hx539_0)
              try replace hx539_0 := (HB.out.cell (World.block_lt_of_cell? w _ hx539_0)).trans hx539_0
              replace p539 := eq_true p539
              replace q539 := eq_true q539
              have p540 : 0 ≤ ((rd (rd_L1 l0_1 x12_1) 0) : Int) := odt_ (by assumption)
              have q540 : (rd (rd_L1 l0_1 x12_1) 0) < (l1_0.length : Int) := odt_ (by assumption)
              obtain ⟨ad540, e540, hx540_0⟩ := Kd.at_bool HR1_0.out (rd (rd_L1 l0_1 x12_1) 0) p540 q540
              cases e540
              try replace hx540_0 := (HB.out.cell (World.block_lt_of_cell? w _ hx540_0)).trans hx540_0
              replace p540 := eq_true p540
              replace q540 := eq_true q540
              have p541 : 0 ≤ (1 : Int) := (by omega)
              have q541 : 1 < ((rd_L1 l0_1 x12_1).length : Int) := odt_ (by assumption)
              obtain ⟨ad541, e541, hx541_0⟩ := Kd.at_int HR538_0.out 1 p541 q541
              obtain rfl : ad539 = ad541 := (by injection e541)
              (try simp only [show (1 : Int).toNat = 1 from rfl, Nat.reduceMul, Nat.reduceEqDiff, Go.Addr.add, ↓reduceIte] at hx541_0)
              have qi541 : (1 < (rd_L1 l0_1 x12_1).length) = True := eq_true (by omega)
              (try rw [show ((1 : Int)).toNat = 1 from rfl] at hx541_0)
              try replace hx541_0 := (HB.out.cell (World.block_lt_of_cell? w _ hx541_0)).trans hx541_0
              replace p541 := eq_true p541
              replace q541 := eq_true q541
              have p542 : 0 ≤ ((rd (rd_L1 l0_1 x12_1) 1) : Int) := odt_ (by assumption)
              have q542 : (rd (rd_L1 l0_1 x12_1) 1) < (l1_0.length : Int) := odt_ (by assumption)
              obtain ⟨ad542, e542, hx542_0⟩ := Kd.at_bool HR1_0.out (rd (rd_L1 l0_1 x12_1) 1) p542 q542
              obtain rfl : ad540 = ad542 := (by injection e542)
              try replace hx542_0 := (HB.out.cell (World.block_lt_of_cell? w _ hx542_0)).trans hx542_0
              replace p542 := eq_true p542
              replace q542 := eq_true q542
              go_wp2
              repeat (go_quiet (fail); try go_wp2)
              go_roundg k1
              case measure => have := HK1.out; omega
              case rel => exact ⟨(x5_1), (wrap64 (x12_1 + 1)), (ry_), H', ⟨by have := HK1.out; omega⟩, ⟨Kd.pS HO_5.out⟩, ⟨pk BK533.out⟩, ⟨pk BK534.out⟩, ⟨by repeat (first | exact HB.out | apply ba_ | apply bN_ | apply b1_ | refine below_set ?_ (Aside0.out (by assumption)))⟩⟩
            ·
             rw [if_neg c18] at H
             exact absurd H (by simp)
           ·
            rw [if_neg c17] at H
            exact absurd H (by simp)
          ·
           rw [if_neg c16] at H
           exact absurd H (by simp)
         ·
          rw [if_neg c15] at H
          have c15b0 : ((rdOf false l1_0 (rd (rd_L1 l0_1 x12_1) 0)) != a1_1) = false := by simpa using c15
          (try (have c15b1 : decide ((rdOf false l1_0 (rd (rd_L1 l0_1 x12_1) 0)) = a1_1) = true := by simpa using c15))
          (try (have c15b2 : ((rdOf false l1_0 (rd (rd_L1 l0_1 x12_1) 0)) == a1_1) = true := by simpa using c15))
          clear c15
          have H' := ak_ H
          clear H
          have p538 : 0 ≤ (x12_1 : Int) := odt_ (by assumption)
          have q538 : x12_1 < (l0_1.length : Int) := odt_ (by assumption)
          obtain ⟨ad538, A538_0, c538_0, e538, hx538_0, hl538_0, hi538_0⟩ := at_L1 HR0_1.out x12_1 p538 q538
          cases e538
          try replace hx538_0 := (HB.out.cell (World.block_lt_of_cell? w _ hx538_0)).trans hx538_0
          have HR538_0 := ak_ hi538_0
          have HC538_0 := ak_ hl538_0
          clear hi538_0 hl538_0
          replace p538 := eq_true p538
          replace q538 := eq_true q538
          have hnb29 := NB534_533.out
          have hnc29 := NB533_534.out
          obtain ⟨hcz30_0, hcz30_1, hfz30_0, hfz30_1⟩ := c2_ BK534.out
          have p539 : 0 ≤ (0 : Int) := (by omega)
          have q539 : 0 < ((rd_L1 l0_1 x12_1).length : Int) := odt_ (by assumption)
          obtain ⟨ad539, e539, hx539_0⟩ := Kd.at_int HR538_0.out 0 p539 q539
          cases e539
          have qi539 : (0 < (rd_L1 l0_1 x12_1).length) = True := eq_true (by omega)
          (try rw [show ((0 : Int)).toNat = 0 from rfl] at hx539_0)
          (try rw [Addr.add_zero'] at hx539_0)
          try replace hx539_0 := (HB.out.cell (World.block_lt_of_cell? w _ hx539_0)).trans hx539_0
          replace p539 := eq_true p539
          replace q539 := eq_true q539
          have p540 : 0 ≤ ((rd (rd_L1 l0_1 x12_1) 0) : Int) := odt_ (by assumption)
          have q540 : (rd (rd_L1 l0_1 x12_1) 0) < (l1_0.length : Int) := odt_ (by assumption)
          obtain ⟨ad540, e540, hx540_0⟩ := Kd.at_bool HR1_0.out (rd (rd_L1 l0_1 x12_1) 0) p540 q540
          cases e540
          try replace hx540_0 := (HB.out.cell (World.block_lt_of_cell? w _ hx540_0)).trans hx540_0
          replace p540 := eq_true p540
          replace q540 := eq_true q540
          go_wp2
          repeat (go_quiet (fail); try go_wp2)
          go_roundg k1
          case measure => have := HK1.out; omega
          case rel => exact ⟨(x5_1), (wrap64 (x12_1 + 1)), (ry_), H', ⟨by have := HK1.out; omega⟩, ⟨Kd.pS HO_5.out⟩, ⟨pk BK533.out⟩, ⟨pk BK534.out⟩, ⟨by repeat (first | exact HB.out | apply ba_ | apply bN_ | apply b1_ | refine below_set ?_ (Aside0.out (by assumption)))⟩⟩
        ·
         rw [if_neg c14] at H
         exact absurd H (by simp)
       ·
        rw [if_neg c13] at H
        exact absurd H (by simp)
      ·
       rw [if_neg c12] at H
       exact absurd H (by simp)
     ·
      rw [if_neg c11] at H
      exact absurd H (by simp)
    ·
     rw [if_neg c10] at H
     exact absurd H (by simp)
   ·
    rw [if_neg c9] at H
    have c9b0 : decide (x12_1 < (l0_1.length : Int)) = false := decide_eq_false c9
    clear c9
    obtain rfl := Option.some.inj H
    go_wp2
    repeat (go_quiet (fail); try go_wp2)
    go_ret
    exact ⟨_, rx_, by (with_reducible repeat (first | apply Kd.S_alloc | apply Kd.S_drewN | apply Kd.S_drew)); exact HO_5.out, by repeat (first | exact HB.out | apply ba_ | apply bN_ | apply b1_ | refine below_set ?_ (Aside0.out (by assumption)))⟩
def kpSt (k : Nat) (th : Int) (ds : List (List Int)) (se : Int) (ov : List Bool) (tq : Bool) (l : List Int) (acc : List (List Int)) : Option (List (List Int)) :=
 (impl_Bank_ridden.f k ov tq l).bind fun m => (impl_Keep_dangers.f k th ds se m.1 m.2).bind fun L => if L.length = 0 then (if acc.length < 1000000 then some (acc ++ [l]) else none) else some acc
theorem gp_lit0 {α : Type} (d : Kd α) (e : Nat) (W : World) {base : Nat} (hb : base ≤ W.heap.size) : Kd.S d e (W.alloc (.cells #[] e)) base (fun _ => True) (.slice (some ⟨W.heap.size, 0, none⟩) 0 0) [] := by
 refine ⟨fun _ => 0, fun _ _ => trivial, [], ?_, Reps.none _ _⟩
 have h2 := World.ownsRow_lit (base := base) (e := e) (size := d.sz) W #[] 0 hb (by simp [maxLen]) (by simp)
 have h3 : (W.alloc (.cells #[] e)).ownsRow base e d.sz (.slice (some ⟨W.heap.size, 0, none⟩) 0 0) 0 [] := by simpa using h2
 exact h3
theorem gp_new2 (W : World) (o o2 : Obj) : ((W.alloc o).alloc o2).heap[W.heap.size + 1]? = some o2 := by
 have h := blk_new (W.alloc o) o2
 have e : (W.alloc o).heap.size = W.heap.size + 1 := Array.size_push ..
 rw [e] at h
 exact h
def try_each.T0 : Bool × List (List Nat × List Nat) := (true, [([], []), ([], []), ([], []), ([1, 2], [1, 2]), ([0, 3, 3], [0, 3]), ([4], [4]), ([5], [5])])
def try_each.B0 : List Nat := [0, 0, 0, 6, 15, 31, 63]
theorem try_each.T0_ : rtab .any (opsOf Try.f167 0) = try_each.T0 := by kernel_rfl
theorem try_each.B0_ : waitsOk try_each.T0.2 try_each.B0 = true := by kernel_rfl
theorem try_each (k : Nat) (Bk Bb g : Nat) (w0 : World) (th : Int) (Ad : Option Addr) (cd0 : Nat) (ds : List (List Int)) (se : Int) (Ao : Option Addr) (co : Nat) (ov : List Bool) (tq : Bool) (hBk : w0.heap[Bk]? = some (.cells #[.int .i64 th, .slice Ad ds.length cd0, .int .i64 se] 52 (0, 0))) (hBb : w0.heap[Bb]? = some (.cells #[.slice Ao ov.length co, .bool tq] 90 (0, 0)))
  (hd : Kd.C (Kd.slice 3 (Kd.int .i64)) w0 Ad ds.length ds) (hdc : ds.length ≤ cd0) (ho : Kd.C Kd.bool w0 Ao ov.length ov) (hco : ov.length ≤ co) : GpEach (Kd.slice 3 (Kd.int .i64)) 29 47 (kpSt k th ds se ov tq) g 167 #[.pointer (some ⟨Bk, 0, none⟩), .pointer (some ⟨Bb, 0, none⟩), .pointer (some ⟨g, 0, none⟩)] w0 := by
 intro W v vL l acc a1 hst hl hs
 have hu := Try.underlying90
 have hu2 := Try.underlying52
 unfold kpSt at hs
 obtain ⟨⟨mo, mt⟩, h1, hs⟩ := Option.bind_eq_some_iff.mp hs
 obtain ⟨L, h2, hs⟩ := Option.bind_eq_some_iff.mp hs
 obtain ⟨A1, c1, rfl, hle, hl1⟩ := gp_row hl
 obtain ⟨A, c, rfl⟩ := Kd.S_slice hst.row
 have A2 := ak_ fun (W2 : World) (hb : Below W.heap.size W W2) => impl_Bank_ridden.calls k Ao co ov tq A1 c1 l mo mt W2 (Kd.C_below (Kd.C_below ho hst.bel) hb) hco (Kd.C_below hl1 hb) hle h1
 have A3 := ak_ fun (W2 : World) (hb : Below W.heap.size W W2) (Am : Option Addr) (cm : Nat) (hm : Kd.C Kd.bool W2 Am mo.length mo) (hcm : mo.length ≤ cm) => impl_Keep_dangers.calls k th Ad cd0 ds se Am cm mo mt L W2 (Kd.C_below (Kd.C_below hd hst.bel) hb) hdc hm hcm h2
 have BK := ak_ (blk_below hBk hst.bel)
 have BB := ak_ (blk_below hBb hst.bel)
 have ST := ak_ hst
 have RL := ak_ hl
 have HBW := ak_ (Below.refl W.heap.size W)
 have FR := ak_ (GpFr.below (g := g) (v := .slice A acc.length c) (Below.refl W.heap.size W))
 by_cases hL : L.length = 0
 rotate_left
 ·rw [if_neg hL] at hs
  obtain rfl := Option.some.inj hs
  have hz : decide ((L.length : Int) = 0) = false := decide_eq_false (by omega)
  have hz2 : ((L.length : Int) == 0) = false := by rw [beq_eq_false_iff_ne]; omega
  have hz3 : ¬ L = [] := fun e => hL (by rw [e]; rfl)
  clear hs h1 h2 hst hl hl1 hle hd hdc ho hco hBk hBb
  go_enter Try.func167, Try.ntmps167
  try go_wp2
  have n0_ := ak_ (ST.out.up (below_drew (Below.refl _ _))); have n1_ := ak_ (Kd.R_below RL.out (below_drew (Below.refl _ _))); have n2_ := ak_ (FR.out.trans (GpFr.below (below_drew (Below.refl _ _)))); have n3_ := ak_ (blk_below BK.out (below_drew (Below.refl _ _))); have n4_ := ak_ (blk_below BB.out (below_drew (Below.refl _ _))); have n5_ := ak_ (bs_ HBW.out (below_drew (Below.refl _ _))); clear ST RL FR BK BB HBW; have ST := n0_; have RL := n1_; have FR := n2_; have BK := n3_; have BB := n4_; have HBW := n5_; clear n0_ n1_ n2_ n3_ n4_ n5_
  refine start_ (n := 7) (S := fun w' => w'.cell? ⟨Bk, 0, none⟩ = some (.int .i64 th) ∧ w'.cell? ⟨Bk, 1, none⟩ = some (.slice Ad ds.length cd0) ∧ w'.cell? ⟨Bk, 2, none⟩ = some (.int .i64 se) ∧ w'.cell? ⟨Bb, 0, none⟩ = some (.slice Ao ov.length co) ∧ w'.cell? ⟨Bb, 1, none⟩ = some (.bool tq)) (ds := []) (mb_ 7 0) (by kernel_rfl) rfl rfl ⟨(blk_cell BK.out 0).trans rfl, (blk_cell BK.out 1).trans rfl, (blk_cell BK.out 2).trans rfl, (blk_cell BB.out 0).trans rfl, (blk_cell BB.out 1).trans rfl⟩ (fun hHeld => ?_); refine with_tabW try_each.T0_ try_each.B0_ (fun HT_ HW_ => ?_)
  generalize W.drew = w9 at ST RL FR BK BB HBW hHeld ⊢
  refine tk_ 0 5 7 1 ?_ (hy := by rintro w' ⟨s0, s1, s2, s3, s4⟩; go_simp; with_reducible rfl)
  refine tk_ 1 6 7 3 ?_ (hy := by rintro w' ⟨s0, s1, s2, s3, s4⟩; go_simp; with_reducible rfl)
  refine pu_ 2 7 7 7 ?_
  refine on_ 3 8 7 15 (fun K hK => ?_)
  refine goes_ Try.func143 (by kernel_rfl) rfl #[.agg #[.slice Ao ov.length co, .bool tq], .slice A1 l.length c1] (by rfl) rfl rfl (by first | rfl | (simp only [map_toArray, map_cons, map_nil]; try rfl)) ?_
  refine (A2.out _ HBW.out).mono ?_
  rintro e_ w10 ⟨v10, rfl, hm_, hb⟩
  obtain ⟨Am, cm, rfl⟩ := Kd.R_slice hm_
  have OM := ak_ hm_
  refine ⟨_, rfl, ?_⟩
  have n0_ := ak_ (ST.out.up hb); have n1_ := ak_ (Kd.R_below RL.out hb); have n2_ := ak_ (FR.out.trans (GpFr.below hb)); have n3_ := ak_ (blk_below BK.out hb); have n4_ := ak_ (blk_below BB.out hb); have n5_ := ak_ (bs_ HBW.out hb); clear ST RL FR BK BB HBW hb hm_; have ST := n0_; have RL := n1_; have FR := n2_; have BK := n3_; have BB := n4_; have HBW := n5_; clear n0_ n1_ n2_ n3_ n4_ n5_
  refine hK.out _ _ ⟨(blk_cell BK.out 0).trans rfl, (blk_cell BK.out 1).trans rfl, (blk_cell BK.out 2).trans rfl, (blk_cell BB.out 0).trans rfl, (blk_cell BB.out 1).trans rfl⟩ (fun hHeld => ?_)
  clear hK K
  refine nm_ ?_
  refine on_ 4 9 7 31 (fun K hK => ?_)
  refine goes_ Try.func168 (by kernel_rfl) rfl #[.agg #[.int .i64 th, .slice Ad ds.length cd0, .int .i64 se], .agg #[.slice Am mo.length cm, .bool mt]] (by rfl) rfl rfl (by first | rfl | (simp only [map_toArray, map_cons, map_nil]; try rfl)) ?_
  refine (A3.out _ HBW.out Am cm (Kd.R_reads' OM.out).2.2 (Kd.R_reads' OM.out).2.1).mono ?_
  rintro e_ w16 ⟨v16, rfl, hL_, hb⟩
  obtain ⟨AL, cL, rfl⟩ := Kd.S_slice hL_
  refine ⟨_, rfl, ?_⟩
  have n0_ := ak_ (ST.out.up hb); have n1_ := ak_ (Kd.R_below RL.out hb); have n2_ := ak_ (FR.out.trans (GpFr.below hb)); have n3_ := ak_ (blk_below BK.out hb); have n4_ := ak_ (blk_below BB.out hb); have n5_ := ak_ (bs_ HBW.out hb); clear ST RL FR BK BB HBW hb hL_ OM; have ST := n0_; have RL := n1_; have FR := n2_; have BK := n3_; have BB := n4_; have HBW := n5_; clear n0_ n1_ n2_ n3_ n4_ n5_
  refine hK.out _ _ ⟨(blk_cell BK.out 0).trans rfl, (blk_cell BK.out 1).trans rfl, (blk_cell BK.out 2).trans rfl, (blk_cell BB.out 0).trans rfl, (blk_cell BB.out 1).trans rfl⟩ (fun hHeld => ?_)
  clear hK K
  refine nm_ ?_
  refine pu_ 5 10 7 63 ?_
  refine pu_ 6 11 7 127 ?_
  refine done_ (done_of HT_.out (by kernel_rfl)) ?_
  try go_wp2
  go_end0
  exact ⟨rfl, _, ST.out.any, FR.out⟩
 ·rw [if_pos hL] at hs
  by_cases hlen : acc.length < 1000000
  rotate_left
  ·rw [if_neg hlen] at hs; exact absurd hs (by simp)
  rw [if_pos hlen] at hs
  obtain rfl := Option.some.inj hs
  have hz : decide ((L.length : Int) = 0) = true := decide_eq_true (by omega)
  have hz2 : ((L.length : Int) == 0) = true := by rw [beq_iff_eq]; omega
  have hz3 : L = [] := List.eq_nil_of_length_eq_zero hL
  have HLEN := ak_ hlen
  clear hs h1 h2 hst hl hl1 hle hd hdc ho hco hBk hBb hlen
  go_enter Try.func167, Try.ntmps167
  try go_wp2
  have n0_ := ak_ (ST.out.up (below_drew (Below.refl _ _))); have n1_ := ak_ (Kd.R_below RL.out (below_drew (Below.refl _ _))); have n2_ := ak_ (FR.out.trans (GpFr.below (below_drew (Below.refl _ _)))); have n3_ := ak_ (blk_below BK.out (below_drew (Below.refl _ _))); have n4_ := ak_ (blk_below BB.out (below_drew (Below.refl _ _))); have n5_ := ak_ (bs_ HBW.out (below_drew (Below.refl _ _))); clear ST RL FR BK BB HBW; have ST := n0_; have RL := n1_; have FR := n2_; have BK := n3_; have BB := n4_; have HBW := n5_; clear n0_ n1_ n2_ n3_ n4_ n5_
  refine start_ (n := 7) (S := fun w' => w'.cell? ⟨Bk, 0, none⟩ = some (.int .i64 th) ∧ w'.cell? ⟨Bk, 1, none⟩ = some (.slice Ad ds.length cd0) ∧ w'.cell? ⟨Bk, 2, none⟩ = some (.int .i64 se) ∧ w'.cell? ⟨Bb, 0, none⟩ = some (.slice Ao ov.length co) ∧ w'.cell? ⟨Bb, 1, none⟩ = some (.bool tq)) (ds := []) (mb_ 7 0) (by kernel_rfl) rfl rfl ⟨(blk_cell BK.out 0).trans rfl, (blk_cell BK.out 1).trans rfl, (blk_cell BK.out 2).trans rfl, (blk_cell BB.out 0).trans rfl, (blk_cell BB.out 1).trans rfl⟩ (fun hHeld => ?_); refine with_tabW try_each.T0_ try_each.B0_ (fun HT_ HW_ => ?_)
  generalize W.drew = w9 at ST RL FR BK BB HBW hHeld ⊢
  refine tk_ 0 5 7 1 ?_ (hy := by rintro w' ⟨s0, s1, s2, s3, s4⟩; go_simp; with_reducible rfl)
  refine tk_ 1 6 7 3 ?_ (hy := by rintro w' ⟨s0, s1, s2, s3, s4⟩; go_simp; with_reducible rfl)
  refine pu_ 2 7 7 7 ?_
  refine on_ 3 8 7 15 (fun K hK => ?_)
  refine goes_ Try.func143 (by kernel_rfl) rfl #[.agg #[.slice Ao ov.length co, .bool tq], .slice A1 l.length c1] (by rfl) rfl rfl (by first | rfl | (simp only [map_toArray, map_cons, map_nil]; try rfl)) ?_
  refine (A2.out _ HBW.out).mono ?_
  rintro e_ w10 ⟨v10, rfl, hm_, hb⟩
  obtain ⟨Am, cm, rfl⟩ := Kd.R_slice hm_
  have OM := ak_ hm_
  refine ⟨_, rfl, ?_⟩
  have n0_ := ak_ (ST.out.up hb); have n1_ := ak_ (Kd.R_below RL.out hb); have n2_ := ak_ (FR.out.trans (GpFr.below hb)); have n3_ := ak_ (blk_below BK.out hb); have n4_ := ak_ (blk_below BB.out hb); have n5_ := ak_ (bs_ HBW.out hb); clear ST RL FR BK BB HBW hb hm_; have ST := n0_; have RL := n1_; have FR := n2_; have BK := n3_; have BB := n4_; have HBW := n5_; clear n0_ n1_ n2_ n3_ n4_ n5_
  refine hK.out _ _ ⟨(blk_cell BK.out 0).trans rfl, (blk_cell BK.out 1).trans rfl, (blk_cell BK.out 2).trans rfl, (blk_cell BB.out 0).trans rfl, (blk_cell BB.out 1).trans rfl⟩ (fun hHeld => ?_)
  clear hK K
  refine nm_ ?_
  refine on_ 4 9 7 31 (fun K hK => ?_)
  refine goes_ Try.func168 (by kernel_rfl) rfl #[.agg #[.int .i64 th, .slice Ad ds.length cd0, .int .i64 se], .agg #[.slice Am mo.length cm, .bool mt]] (by rfl) rfl rfl (by first | rfl | (simp only [map_toArray, map_cons, map_nil]; try rfl)) ?_
  refine (A3.out _ HBW.out Am cm (Kd.R_reads' OM.out).2.2 (Kd.R_reads' OM.out).2.1).mono ?_
  rintro e_ w16 ⟨v16, rfl, hL_, hb⟩
  obtain ⟨AL, cL, rfl⟩ := Kd.S_slice hL_
  refine ⟨_, rfl, ?_⟩
  have n0_ := ak_ (ST.out.up hb); have n1_ := ak_ (Kd.R_below RL.out hb); have n2_ := ak_ (FR.out.trans (GpFr.below hb)); have n3_ := ak_ (blk_below BK.out hb); have n4_ := ak_ (blk_below BB.out hb); have n5_ := ak_ (bs_ HBW.out hb); clear ST RL FR BK BB HBW hb hL_ OM; have ST := n0_; have RL := n1_; have FR := n2_; have BK := n3_; have BB := n4_; have HBW := n5_; clear n0_ n1_ n2_ n3_ n4_ n5_
  refine hK.out _ _ ⟨(blk_cell BK.out 0).trans rfl, (blk_cell BK.out 1).trans rfl, (blk_cell BK.out 2).trans rfl, (blk_cell BB.out 0).trans rfl, (blk_cell BB.out 1).trans rfl⟩ (fun hHeld => ?_)
  clear hK K
  refine nm_ ?_
  refine pu_ 5 10 7 63 ?_
  refine pu_ 6 11 7 127 ?_
  refine done_ (done_of HT_.out (by kernel_rfl)) ?_
  go_upto_region 1 with (fail)
  have hy5 := (blk_cell ST.out.out 0)
  have hf5 := (blk_frozen ST.out.out 0)
  simp at hy5
  go_wp2_with (first | ((with_reducible refine gate_builtin (b := .append) (xs := #[.tmp 12, .tmp 14]) rfl ?_); at_builtin; refine Kd.S_append (Kd.slice 3 (Kd.int .i64)) (w0 := w0) w0.heap.size rfl (.tmp 12) (.tmp 14) 47 29 (.slice none 0 0) 24 rfl Try.underlying47 info29 rfl (by decide) (by omega) (.slice A acc.length c) acc l [.slice A1 l.length c1] (fun _ => True) (fun k_ => some k_ = (Value.slice A1 l.length c1).ownBlock) rfl rfl ?aP ?aK (fun _ _ => trivial) ?aO ?aB ?aS ?aL ?_; (case aP => exact ⟨_, rfl, Kd.R_tight rfl (Kd.pR RL.out)⟩); (case aK => (intro k_ hk_; exact ⟨trivial, (RL.out.1 k_ hk_.symm).2⟩)); (case aO => exact Kd.S_mono (Kd.pS ST.out.row) (fun k_ hk_ => ⟨trivial, hk_⟩)); (case aB => exact (ST.out.up be_).bel); (case aS => exact bz_ (ST.out.up be_).bel); (case aL => have := HLEN.out; omega); intro v9 w9 ho hb hg hat; obtain ⟨Ao, co, rfl⟩ := Kd.S_slice ho; have HO := ak_ ho; have HB9 := ak_ hb; have HG := ak_ hg; have HAT := ak_ hat; have n0_ := ak_ (blk_grown (pk ST.out.out) hg (Kd.S_ne ST.out.row ST.out.out (by decide))); have hf9 := (blk_frozen n0_.out 0); have hy9 := (blk_cell n0_.out 0); simp at hy9; clear ho hb hg hat))
  go_end0
  refine ⟨rfl, .slice Ao (acc.length + 1) co, ⟨?_, ?_, ?_, ST.out.ge⟩, ?_⟩
  rotate_left
  ·exact (by (with_reducible repeat (first | apply Kd.S_alloc | apply Kd.S_drewN | apply Kd.S_drew)); have h_ := Kd.S_set HO.out n0_.out (by decide) 0 (.slice Ao (acc.length + 1) co); rw [List.length_append, List.length_singleton] at h_; exact h_)
  ·exact (by repeat (first | (with_reducible first | exact HB9.out | apply ba_ | apply bN_ | apply b1_ | refine below_set ?_ ST.out.ge) | exact HB9.out))
  ·refine FR.out.trans ⟨?_, fun k_ hk_ hg_ ht_ => ?_, ?_⟩
   ·have h2_ := HG.out.size
    first | (simp; omega) | (simp at h2_ ⊢; omega)
   ·have e2_ : w9.heap[k_]? = w16.heap[k_]? := HG.out.block k_ hk_ ht_
    exact (Below.heap_setCell w9 ⟨g, 0, none⟩ _ k_ hg_).trans e2_
   ·rcases HAT.out with e_ | ⟨b_, e_, h_⟩
    ·left
     rw [List.length_append, List.length_singleton] at e_
     exact e_
    ·right
     intro b2_ h2_
     rw [List.length_append, List.length_singleton] at e_
     rw [e_] at h2_
     injection h2_ with h2_
     omega
  ·exact (by (with_reducible repeat (first | refine kN_ ?_ _ | refine k1_ ?_ | refine ka_ ?_ _)); exact blk_put n0_.out 0 _ rfl)
def impl_Keep_rides.T4 : Bool × List (List Nat × List Nat) := (true, [([], []), ([0], [0]), ([], []), ([2], [2]), ([1, 3, 1], [1, 3]), ([], []), ([5], [5]), ([], []), ([4, 6, 7, 4], [4, 6, 7])])
def impl_Keep_rides.B4 : List Nat := [0, 1, 0, 4, 15, 0, 32, 0, 255]
theorem impl_Keep_rides.T4_ : rtab .any (opsOf Try.f142 4) = impl_Keep_rides.T4 := by kernel_rfl
theorem impl_Keep_rides.B4_ : waitsOk impl_Keep_rides.T4.2 impl_Keep_rides.B4 = true := by kernel_rfl
def impl_Keep_rides.f (k : Nat) (th : Int) (ds : List (List Int)) (se : Int) (over : List Bool) (torch : Bool) : Option (List (List Int)) := (kpSt k th ds se over torch [] []).bind fun a0 => (impl_State_side.f k over torch torch).bind fun P => if P.length ≤ 100 then gOn (kpSt k th ds se over torch) se P [] a0 else none
theorem impl_Keep_rides.calls (k : Nat) (th : Int) (Ad : Option Addr) (cd0 : Nat) (ds : List (List Int)) (se : Int) (Ao : Option Addr) (co : Nat) (over : List Bool) (torch : Bool) (r : List (List Int)) (w : World)
  (hd : Kd.C (Kd.slice 3 (Kd.int .i64)) w Ad ds.length ds) (hdc : ds.length ≤ cd0) (ho : Kd.C Kd.bool w Ao over.length over) (hco : over.length ≤ co) (h : impl_Keep_rides.f k th ds se over torch = some r) :
  Calls Try.prog 142 #[.agg #[.int .i64 th, .slice Ad ds.length cd0, .int .i64 se], .agg #[.slice Ao over.length co, .bool torch]] w fun e w' => ∃ v0_ : Value, e = .returned v0_ ∧ Kd.S (Kd.slice 3 (Kd.int .i64)) 29 w' w.heap.size (fun _ => True) v0_ r ∧ Below w.heap.size w w' := by
 have hu := Try.underlying52
 have hu2 := Try.underlying90
 have hu3 := Try.underlying115
 unfold impl_Keep_rides.f at h
 obtain ⟨a0, h0, h⟩ := Option.bind_eq_some_iff.mp h
 obtain ⟨P, h1, h⟩ := Option.bind_eq_some_iff.mp h
 by_cases hP : P.length ≤ 100
 rotate_left
 ·rw [if_neg hP] at h; exact absurd h (by simp)
 rw [if_pos hP] at h
 have A0 := ak_ fun (Bk Bb g : Nat) (w0 : World) (h0 : Below w.heap.size w w0) (hBk : w0.heap[Bk]? = some (.cells #[.int .i64 th, .slice Ad ds.length cd0, .int .i64 se] 52 (0, 0))) (hBb : w0.heap[Bb]? = some (.cells #[.slice Ao over.length co, .bool torch] 90 (0, 0))) =>
  try_each k Bk Bb g w0 th Ad cd0 ds se Ao co over torch hBk hBb (Kd.C_below hd h0) hdc (Kd.C_below ho h0) hco
 have AS := ak_ fun (W : World) (hb : Below w.heap.size w W) => impl_Bank_state.calls (fun k_ => k_ < W.heap.size) Ao co over torch over torch W (Kd.V_mk hco (Kd.C_F Kd.heap_bool (Kd.C_below ho hb))) rfl
 have A1 := ak_ fun (W : World) (A2 : Option Addr) (c2 : Nat) (ho2 : Kd.C Kd.bool W A2 over.length over) (hco2 : over.length ≤ c2) => impl_State_side.calls k A2 c2 over torch torch P W ho2 hco2 h1
 have A2 := ak_ fun (Bk Bb g : Nat) (w0 W : World) (Ap : Option Addr) (cp : Nat) (v : Value) (h0 : Below w.heap.size w w0) (hBk : w0.heap[Bk]? = some (.cells #[.int .i64 th, .slice Ad ds.length cd0, .int .i64 se] 52 (0, 0))) (hBb : w0.heap[Bb]? = some (.cells #[.slice Ao over.length co, .bool torch] 90 (0, 0))) (hst : GpSt (Kd.slice 3 (Kd.int .i64)) 29 47 g w0 W v (fun _ => True) a0) (hp : (Kd.int .i64).R 3 W w0.heap.size (fun k => k ≠ g ∧ some k ≠ v.ownBlock) (.slice Ap P.length cp) P) =>
  groups_calls (Kd.slice 3 (Kd.int .i64)) 29 47 (kpSt k th ds se over torch) g 167 #[.pointer (some ⟨Bk, 0, none⟩), .pointer (some ⟨Bb, 0, none⟩), .pointer (some ⟨g, 0, none⟩)] w0 Ap cp P se (enters_of Try.func167 (by kernel_rfl) rfl) (A0.out Bk Bb g w0 h0 hBk hBb) hP v r W hst hp h
 have HB := ak_ (Below.refl w.heap.size w)
 have H0 := ak_ h0
 clear h h0 h1 hP hd hdc ho hco
 go_enter Try.func142, Try.ntmps142
 go_upto_region 2 with (first | ((with_reducible refine gate_dst (N := 2) rfl ?_); refine bx_ 2 #[.int .i64 th, .slice Ad ds.length cd0, .int .i64 se] 52 ?_; intro gb2 hg w2 hbox hb; have nb_ := ak_ (bs_ (bb_ HB.out) hb); have nc_ := ak_ hbox; have nd_ := ak_ ((by rw [hg]; exact (bz_ (bb_ HB.out)) : w.heap.size ≤ gb2)); clear HB hb hbox hg; have HB := nb_; have BK2 := nc_; have GE2 := nd_; clear nb_ nc_ nd_; have hz2_0 := (blk_cell BK2.out 0); have hf2_0 := (blk_frozen BK2.out 0); simp at hz2_0; have hz2_1 := (blk_cell BK2.out 1); have hf2_1 := (blk_frozen BK2.out 1); simp at hz2_1; have hz2_2 := (blk_cell BK2.out 2); have hf2_2 := (blk_frozen BK2.out 2); simp at hz2_2; skip) | ((with_reducible refine gate_dst (N := 3) rfl ?_); refine bx_ 3 #[.slice Ao over.length co, .bool torch] 90 ?_; intro gb3 hg w3 hbox hb; have n0_ := ak_ (blk_below (pk BK2.out) hb); have m0_ := ak_ ((by rw [hg]; exact Nat.ne_of_lt (blk_lt (pk BK2.out)) : gb2 ≠ gb3)); have nb_ := ak_ (bs_ (bb_ HB.out) hb); have nc_ := ak_ hbox; have nd_ := ak_ ((by rw [hg]; exact (bz_ (bb_ HB.out)) : w.heap.size ≤ gb3)); clear HB hb hbox hg; clear BK2; have BK2 := n0_; have NE2_3 := m0_; have HB := nb_; have BK3 := nc_; have GE3 := nd_; clear nb_ nc_ nd_ n0_ m0_; have hz3_0 := (blk_cell BK3.out 0); have hf3_0 := (blk_frozen BK3.out 0); simp at hz3_0; have hz3_1 := (blk_cell BK3.out 1); have hf3_1 := (blk_frozen BK3.out 1); simp at hz3_1; skip))
 have HB3 := ak_ HB.out
 have hst := (show GpSt (Kd.slice 3 (Kd.int .i64)) 29 47 (w3.heap.size + 1) w3 ((w3.alloc (.cells #[] 29)).alloc (.cells #[.slice (some ⟨w3.heap.size, 0, none⟩) 0 0] 47)) (.slice (some ⟨w3.heap.size, 0, none⟩) 0 0) (fun _ => True) [] from ⟨gp_new2 w3 _ _, Kd.S_alloc (gp_lit0 _ _ w3 (Nat.le_refl _)) _, ba_ (ba_ (Below.refl _ _) _) _, Nat.le_succ _⟩)
 have n0_ := ak_ (ka_ (ka_ BK2.out (.cells #[] 29)) (.cells #[.slice (some ⟨w3.heap.size, 0, none⟩) 0 0] 47))
 have n1_ := ak_ (ka_ (ka_ BK3.out (.cells #[] 29)) (.cells #[.slice (some ⟨w3.heap.size, 0, none⟩) 0 0] 47))
 have B2 := ak_ BK2.out
 have B3 := ak_ BK3.out
 have ST := ak_ hst
 clear BK2 BK3 HB hst hz2_0 hz2_1 hz2_2 hf2_0 hf2_1 hf2_2 hz3_0 hz3_1 hf3_0 hf3_1
 have BK2 := n0_; have BK3 := n1_; clear n0_ n1_
 generalize (w3.alloc (.cells #[] 29)).alloc (.cells #[.slice (some ⟨w3.heap.size, 0, none⟩) 0 0] 47) = w5 at BK2 BK3 ST ⊢
 generalize Value.slice (some ⟨w3.heap.size, 0, none⟩) 0 0 = v5 at ST ⊢
 generalize w3.heap.size + 1 = gb5 at ST ⊢
 have he := A0.out gb2 gb3 gb5 w3 HB3.out B2.out B3.out
 unfold GpEach at he
 simp only [List.append_toArray, List.cons_append, List.nil_append] at he
 have HE := ak_ he
 clear he
 have L0 := ak_ (Kd.S_R (gp_lit0 (Kd.int .i64) 3 w5 (Nat.le_refl _)))
 go_upto_region 4 with (go_at_call 167; refine (HE.out _ v5 (.slice (some ⟨w5.heap.size, 0, none⟩) 0 0) [] [] a0 ((ST.out.old (Kd.R_base L0.out)).up (ba_ (Below.refl _ _) _)) (Kd.R_lower (ST.out.new (Nat.le_refl _) L0.out) (bz_ ST.out.bel)) H0.out).mono ?_; rintro e w6 ⟨rfl, hT⟩; have HT := ak_ hT; clear hT)
 obtain ⟨v6, hst6, hfr6⟩ := HT.out
 have n0_ := ak_ hst6
 have n1_ := ak_ ((hfr6.at_ (blk_lt (ka_ BK2.out (.cells #[] 3))) (fun e_ => by have := ST.out.ge; have := blk_lt B2.out; omega) (fun e_ => by have := Kd.S_base ST.out.row _ e_.symm; have := blk_lt B2.out; omega)).trans (ka_ BK2.out _))
 have n2_ := ak_ ((hfr6.at_ (blk_lt (ka_ BK3.out (.cells #[] 3))) (fun e_ => by have := ST.out.ge; have := blk_lt B3.out; omega) (fun e_ => by have := Kd.S_base ST.out.row _ e_.symm; have := blk_lt B3.out; omega)).trans (ka_ BK3.out _))
 clear ST BK2 BK3 hst6 hfr6 HT L0 HE
 have ST := n0_; have BK2 := n1_; have BK3 := n2_; clear n0_ n1_ n2_
 try go_wp2
 have n0_ := ak_ (k1_ BK2.out); have n1_ := ak_ (k1_ BK3.out); have n2_ := ak_ (ST.out.up (below_drew (Below.refl _ _))); clear BK2 BK3 ST; have BK2 := n0_; have BK3 := n1_; have ST := n2_; clear n0_ n1_ n2_
 refine start_ (n := 9) (S := fun w' => w'.cell? ⟨gb3, 0, none⟩ = some (.slice Ao over.length co) ∧ w'.cell? ⟨gb3, 1, none⟩ = some (.bool torch) ∧ w'.cell? ⟨gb2, 2, none⟩ = some (.int .i64 se)) (ds := []) (mb_ 9 0) (by kernel_rfl) rfl rfl ⟨(blk_cell BK3.out 0).trans rfl, (blk_cell BK3.out 1).trans rfl, (blk_cell BK2.out 2).trans rfl⟩ (fun hHeld => ?_); refine with_tabW impl_Keep_rides.T4_ impl_Keep_rides.B4_ (fun HT_ HW_ => ?_)
 generalize w6.drew = w9 at BK2 BK3 ST hHeld ⊢
 refine tk_ 0 12 9 1 ?_ (hy := by rintro w' ⟨s0, s1, s2⟩; go_simp; with_reducible rfl)
 refine pu_ 2 14 9 5 ?_
 refine tk_ 3 15 9 13 ?_ (hy := by rintro w' ⟨s0, s1, s2⟩; go_simp; with_reducible rfl)
 refine pu_ 5 17 9 45 ?_
 refine tk_ 6 18 9 109 ?_ (hy := by rintro w' ⟨s0, s1, s2⟩; go_simp; with_reducible rfl)
 refine pu_ 7 19 9 237 ?_
 refine on_ 1 13 9 239 (fun K hK => ?_)
 refine goes_ Try.func144 (by kernel_rfl) rfl #[.agg #[.slice Ao over.length co, .bool torch]] (by rfl) rfl rfl (by first | rfl | (simp only [map_toArray, map_cons, map_nil]; try rfl)) ?_
 refine (AS.out _ (below_then HB3.out HB3.out.size ST.out.bel)).mono ?_
 rintro e_ w10 ⟨v10, rfl, hv_, hb⟩
 obtain ⟨As, cs, rfl⟩ := Kd.V_slice hv_
 have SV := ak_ (Kd.V_reads' hv_)
 refine ⟨_, rfl, ?_⟩
 have n0_ := ak_ (blk_below BK2.out hb); have n1_ := ak_ (blk_below BK3.out hb); have n2_ := ak_ (ST.out.up hb); clear BK2 BK3 ST hb hv_; have BK2 := n0_; have BK3 := n1_; have ST := n2_; clear n0_ n1_ n2_
 refine hK.out _ _ ⟨(blk_cell BK3.out 0).trans rfl, (blk_cell BK3.out 1).trans rfl, (blk_cell BK2.out 2).trans rfl⟩ (fun hHeld => ?_)
 clear hK K
 refine nm_ ?_
 refine on_ 4 16 9 255 (fun K hK => ?_)
 refine goes_ Try.func115 (by kernel_rfl) rfl #[.agg #[.slice As over.length cs, .bool torch], .bool torch] (by rfl) rfl rfl (by first | rfl | (simp only [map_toArray, map_cons, map_nil]; try rfl)) ?_
 refine (A1.out _ As cs SV.out.2.2 SV.out.2.1).mono ?_
 rintro e_ w12 ⟨v12, rfl, hp, hb⟩
 obtain ⟨Ap, cp, rfl⟩ := Kd.R_slice hp
 refine ⟨_, rfl, ?_⟩
 have PL := ak_ (Kd.R_lower (ST.out.new (Nat.le_refl _) hp) (bz_ ST.out.bel))
 have n0_ := ak_ (blk_below BK2.out hb); have n1_ := ak_ (blk_below BK3.out hb); have n2_ := ak_ (ST.out.up hb); clear BK2 BK3 ST hb hp SV; have BK2 := n0_; have BK3 := n1_; have ST := n2_; clear n0_ n1_ n2_
 refine hK.out _ _ ⟨(blk_cell BK3.out 0).trans rfl, (blk_cell BK3.out 1).trans rfl, (blk_cell BK2.out 2).trans rfl⟩ (fun hHeld => ?_)
 clear hK K
 refine nm_ ?_
 refine on_ 8 20 9 511 (fun K hK => ?_)
 refine goes_ Try.func113 (by kernel_rfl) rfl #[.slice Ap P.length cp, .int .i64 se, .func (.func 167) #[] #[.pointer (some ⟨gb2, 0, none⟩), .pointer (some ⟨gb3, 0, none⟩), .pointer (some ⟨gb5, 0, none⟩)]] (by rfl) rfl rfl (by first | rfl | (simp only [map_toArray, map_cons, map_nil]; try rfl)) ?_
 refine (A2.out gb2 gb3 gb5 w3 _ Ap cp v6 HB3.out B2.out B3.out ST.out PL.out).mono ?_
 rintro e_ w11 ⟨rfl, v11, hst, hfr⟩
 refine ⟨_, rfl, ?_⟩
 have n0_ := ak_ hst; have n1_ := ak_ ((hfr.at_ (blk_lt BK2.out) (fun e_ => by have := ST.out.ge; have := blk_lt B2.out; omega) (fun e_ => by have := Kd.S_base ST.out.row _ e_.symm; have := blk_lt B2.out; omega)).trans BK2.out); have n2_ := ak_ ((hfr.at_ (blk_lt BK3.out) (fun e_ => by have := ST.out.ge; have := blk_lt B3.out; omega) (fun e_ => by have := Kd.S_base ST.out.row _ e_.symm; have := blk_lt B3.out; omega)).trans BK3.out); clear ST BK2 BK3 hst hfr; have ST := n0_; have BK2 := n1_; have BK3 := n2_; clear n0_ n1_ n2_
 refine hK.out _ _ ⟨(blk_cell BK3.out 0).trans rfl, (blk_cell BK3.out 1).trans rfl, (blk_cell BK2.out 2).trans rfl⟩ (fun hHeld => ?_)
 clear hK K
 refine nm_ ?_
 refine done_ (done_of HT_.out (by kernel_rfl)) ?_
 have hy5 := (blk_cell ST.out.out 0)
 simp at hy5
 go_wp2
 first | go_ret | go_ret2
 exact ⟨_, rfl, Kd.S_lower (Kd.S_below ST.out.row be_) (bz_ HB3.out), below_then HB3.out HB3.out.size (ST.out.up be_).bel⟩
structure REdge where
 f0 : Int
 f1 : Int
 A : Option Addr
 n : Nat
 c : Nat
def REdge.enc (r : REdge) : List Value := [.int .i64 r.f0, .int .i64 r.f1, .slice r.A r.n r.c]
def zRE : REdge := ⟨0, 0, none, 0, 0⟩
def kre : Kd REdge := Kd.iso (Kd.raw 3) REdge.enc
theorem kre_M (W : World) (base : Nat) (ok : Nat → Prop) (r : REdge) : kre.M W base ok r [.int .i64 r.f0, .int .i64 r.f1, .slice r.A r.n r.c] := ⟨rfl, rfl, by
 intro u hu
 simp only [List.mem_cons, List.not_mem_nil, or_false] at hu
 rcases hu with rfl | rfl | rfl <;> rfl⟩
theorem kre_get {W : World} {base g n cap : Nat} {ok : Nat → Prop} {res : List REdge} (h : kre.R 110 W base ok (.slice (some ⟨g, 0, none⟩) n cap) res) (i : Nat) (hi : i < res.length) :
  W.cell? ⟨g, i * 3, none⟩ = some (.int .i64 res[i].f0) ∧ W.cell? ⟨g, i * 3 + 1, none⟩ = some (.int .i64 res[i].f1) ∧ W.cell? ⟨g, i * 3 + 2, none⟩ = some (.slice res[i].A res[i].n res[i].c) := by
 obtain ⟨ad, c, e, -, hK, hcell⟩ := Kd.C_get (Kd.R_reads' h).2.2 zRE (i : Int) (by omega) (by omega)
 obtain rfl := Option.some.inj e
 rw [Int.toNat_natCast, List.getD_eq_getElem?_getD, List.getElem?_eq_getElem hi] at hK
 obtain rfl := hK.1
 have hsz : kre.sz = 3 := rfl
 refine ⟨?_, ?_, ?_⟩
 ·have h_ := hcell 0 _ rfl
  rw [add_at, hsz, Nat.zero_add, Nat.add_zero, Int.toNat_natCast] at h_; exact h_
 ·have h_ := hcell 1 _ rfl
  rw [add_at, hsz, Nat.zero_add, Int.toNat_natCast] at h_; exact h_
 ·have h_ := hcell 2 _ rfl
  rw [add_at, hsz, Nat.zero_add, Int.toNat_natCast] at h_; exact h_
theorem kre_cc {W : World} {base g n cap : Nat} {ok : Nat → Prop} {res : List REdge} (h : kre.R 110 W base ok (.slice (some ⟨g, 0, none⟩) n cap) res) (i : Nat) (hi : i < res.length) :
  ∃ o : REdge, ∀ j u, ([.int .i64 o.f0, .int .i64 o.f1, .slice o.A o.n o.c] : List Value)[j]? = some u → W.cell? ⟨g, (i : Int).toNat * kre.sz + j, none⟩ = some u := by
 obtain ⟨h0, h1, h2⟩ := kre_get h i hi
 refine ⟨res[i], fun j u hu => ?_⟩
 have e : (i : Int).toNat * kre.sz = i * 3 := rfl
 rw [e]
 rcases j with _ | _ | _ | j
 ·obtain rfl := Option.some.inj hu; exact h0
 ·obtain rfl := Option.some.inj hu; exact h1
 ·obtain rfl := Option.some.inj hu; exact h2
 ·simp at hu
theorem gr_below {w W w' : World} {row : Option Nat} (h : w.grownBy W row) (hb : Below W.heap.size W w') : w.grownBy w' row :=
 ⟨hb.os.trans h.os, hb.tape.trans h.tape, hb.output.trans h.output, Nat.le_trans h.size hb.size, fun k hk hn => (hb.block k (Nat.lt_of_lt_of_le hk h.size)).trans (h.block k hk hn)⟩
theorem gr_gr {w W w' : World} {row : Option Nat} (h : w.grownBy W row) (hb : W.grownBy w' row) : w.grownBy w' row :=
 ⟨hb.os.trans h.os, hb.tape.trans h.tape, hb.output.trans h.output, Nat.le_trans h.size hb.size, fun k hk hn => (hb.block k (Nat.lt_of_lt_of_le hk h.size) hn).trans (h.block k hk hn)⟩
def ixFrom (P : Int → Int → Bool) (i : Int) : List REdge → Int
 | [] => -1
 | r :: rs => if P r.f0 r.f1 = true then i else ixFrom P (i + 1) rs
theorem ix_spec (P : Int → Int → Bool) : ∀ (rs : List REdge) (i : Nat), (ixFrom P (i : Int) rs = -1 ∧ rs.filter (fun r => !P r.f0 r.f1) = rs) ∨ ∃ k, k < rs.length ∧ ixFrom P (i : Int) rs = ((i + k : Nat) : Int) ∧ (rs.take k).filter (fun r => !P r.f0 r.f1) = rs.take k ∧ (rs.take (k + 1)).filter (fun r => !P r.f0 r.f1) = rs.take k
 | [], _ => .inl ⟨rfl, rfl⟩
 | r :: rs, i => by
  by_cases h : P r.f0 r.f1 = true
  ·exact .inr ⟨0, by simp, by simp [ixFrom, h], rfl, by simp [h]⟩
  ·have hf : P r.f0 r.f1 = false := by simpa using h
   rcases ix_spec P rs (i + 1) with ⟨e, ha⟩ | ⟨k, hk, e, ha, hb⟩
   ·refine .inl ⟨?_, by rw [List.filter_cons, hf, ha]; rfl⟩
    show (if P r.f0 r.f1 = true then (i : Int) else ixFrom P ((i : Int) + 1) rs) = -1
    rw [if_neg h]; exact e
   ·refine .inr ⟨k + 1, by simpa using hk, ?_, ?_, ?_⟩
    ·show (if P r.f0 r.f1 = true then (i : Int) else ixFrom P ((i : Int) + 1) rs) = _
     rw [if_neg h, show ((i : Int) + 1) = ((i + 1 : Nat) : Int) from rfl, e]; congr 1; omega
    ·rw [List.take_succ_cons, List.filter_cons, hf, ha]; rfl
    ·rw [List.take_succ_cons, List.filter_cons, hf, hb]; rfl
def REAsk (pn : Nat) (pb : Array Value) (P : Int → Int → Bool) (ok : REdge → Prop) (S : World → Prop) : Prop :=
 ∀ (W : World) (r : REdge), S W → ok r → Calls Try.prog pn (#[.agg #[.int .i64 r.f0, .int .i64 r.f1, .slice r.A r.n r.c]] ++ pb) W fun e w' => e = .returned (.bool (P r.f0 r.f1)) ∧ Below W.heap.size W w'
theorem impl_edge_int_169.calls_re (pn : Nat) (pb : Array Value) (P : Int → Int → Bool) (ok : REdge → Prop) (S : World → Prop) (ep : ∀ args w, (callFunc pn args).run Try.prog w = .ok (.enter pn args) w) (hp : REAsk pn pb P ok S) (w : World) (base : Nat) (okr : Nat → Prop) (v : Value) (res : List REdge)
  (hv : kre.R 110 w base okr v res) (hl : res.length < 1000000) (hok : ∀ r ∈ res, ok r) (hS : ∀ W, Below w.heap.size w W → S W) :
  Calls Try.prog 169 #[v, .func (.func pn) #[] pb] w fun e w' => e = .returned (.int .i64 (ixFrom P 0 res)) ∧ Below w.heap.size w w' := by
 have hu := Try.underlying110
 obtain ⟨A, c, rfl⟩ := Kd.R_slice hv
 have HR := ak_ hv
 have HL := ak_ hl
 have HOK := ak_ hok
 have HS := ak_ hS
 have HP := ak_ hp
 clear hv hl hok hS hp
 go_enter Try.func169, Try.ntmps169
 go_wp2
 go_loopg [5, 8] res.length (fun gg _ s8 wr => ∃ kk : Nat, kk ≤ res.length ∧ res.length - kk ≤ gg ∧ s8 = .int .i64 (kk : Int) ∧ Aside0 (ixFrom P (kk : Int) (res.drop kk) = ixFrom P 0 res) ∧ Aside0 (kre.R 110 wr base okr (.slice A res.length c) res) ∧ Aside0 (Below w.heap.size w wr))
 case atStart => exact ⟨0, Nat.zero_le _, by omega, rfl, ⟨by rw [List.drop_zero]; rfl⟩, ⟨Kd.R_below HR.out be_⟩, ⟨be_⟩⟩
 case round =>
  clear HR
  obtain ⟨kk, hkk, hg, rfl, H, HR, HB⟩ := hrel
  by_cases hlt : kk < res.length
  ·have q1 : decide ((kk : Int) < (res.length : Int)) = true := decide_eq_true (by omega)
   have q1n : decide (kk < res.length) = true := decide_eq_true hlt
   have q0 : ((0 : Int) ≤ (kk : Int)) = True := eq_true (by omega)
   have q1p : ((kk : Int) < (res.length : Int)) = True := eq_true (by omega)
   obtain ⟨g, cap, ev, -, -, -⟩ := Kd.R_form HR.out (by omega)
   injection ev with eA _ ec
   subst eA
   subst ec
   obtain ⟨hx0, hx1, hx2⟩ := kre_get HR.out kk hlt
   have h := H.out
   rw [List.drop_eq_getElem_cons hlt] at h
   obtain ⟨r, hr⟩ : ∃ r, r = res[kk] := ⟨_, rfl⟩
   rw [← hr] at hx0 hx1 hx2 h
   have HOKr := ak_ (HOK.out r (by rw [hr]; exact List.getElem_mem hlt))
   have hw : IntKind.i64.wrap ((kk : Int) + 1) = ((kk + 1 : Nat) : Int) := by have := HL.out; rw [IntWalk.i64_in _ ⟨by omega, by omega⟩]; omega
   have HG := ak_ (And.intro hg hlt)
   simp only [ixFrom] at h
   clear hr H hkk hg hlt
   cases hP : P r.f0 r.f1
   ·rw [hP] at h
    have H := ak_ h
    clear h
    go_wp2_with (go_at_fn pn; refine (HP.out _ r (HS.out _ (bb_ HB.out)) HOKr.out).mono ?_; rw [hP]; rintro e w16 ⟨rfl, hb⟩; have n0_ := ak_ (Kd.R_below (Kd.pR HR.out) hb); have n1_ := ak_ (bs_ (bb_ HB.out) hb); clear HR HB hb; have HR := n0_; have HB := n1_; clear n0_ n1_)
    go_roundg (res.length - (kk + 1))
    case measure => have := HG.out; omega
    case rel => exact ⟨kk + 1, by have := HG.out; omega, Nat.le_refl _, (by first | rfl | (simp; done)), ⟨by have h_ := H.out; rw [if_neg (by decide)] at h_; exact h_⟩, ⟨Kd.R_below HR.out be_⟩, ⟨(bb_ HB.out)⟩⟩
   ·rw [hP, if_pos rfl] at h
    have H := ak_ h
    clear h
    go_wp2_with (go_at_fn pn; refine (HP.out _ r (HS.out _ (bb_ HB.out)) HOKr.out).mono ?_; rw [hP]; rintro e w16 ⟨rfl, hb⟩; have n0_ := ak_ (Kd.R_below (Kd.pR HR.out) hb); have n1_ := ak_ (bs_ (bb_ HB.out) hb); clear HR HB hb; have HR := n0_; have HB := n1_; clear n0_ n1_)
    first | go_ret | go_ret2
    exact ⟨by rw [← H.out]; rfl, (bb_ HB.out)⟩
  ·have q1 : decide ((kk : Int) < (res.length : Int)) = false := decide_eq_false (by omega)
   have q1n : decide (kk < res.length) = false := decide_eq_false hlt
   have h := H.out
   rw [List.drop_of_length_le (by omega)] at h
   have H2 := ak_ h
   clear h H hkk hg hlt
   go_wp2
   first | go_ret | go_ret2
   exact ⟨by rw [← H2.out]; rfl, (bb_ HB.out)⟩
structure DelInv (keep : REdge → Bool) (res cur : List REdge) (i j : Nat) : Prop where
 lt : i < j
 le : j ≤ res.length
 len : cur.length = res.length
 low : cur.take i = (res.take j).filter keep
 high : cur.drop j = res.drop j
theorem DelInv.at_ {keep : REdge → Bool} {res cur : List REdge} {i j : Nat} (h : DelInv keep res cur i j) (hj : j < res.length) : cur[j]'(by have := h.len; omega) = res[j] := by
 have hc : j < cur.length := by have := h.len; omega
 have e := h.high
 rw [List.drop_eq_getElem_cons hc, List.drop_eq_getElem_cons hj] at e
 exact (List.cons.inj e).1
theorem DelInv.skip {keep : REdge → Bool} {res cur : List REdge} {i j : Nat} (h : DelInv keep res cur i j) (hj : j < res.length) (hk : keep res[j] = false) : DelInv keep res cur i (j + 1) where
 lt := Nat.lt_succ_of_lt h.lt
 le := hj
 len := h.len
 low := by rw [List.take_succ_eq_append_getElem hj, List.filter_append, h.low, List.filter_cons, hk]; simp
 high := by rw [← List.drop_drop, h.high, List.drop_drop]
theorem DelInv.keep_ {keep : REdge → Bool} {res cur : List REdge} {i j : Nat} (h : DelInv keep res cur i j) (hj : j < res.length) (hk : keep res[j] = true) : DelInv keep res (cur.set i res[j]) (i + 1) (j + 1) where
 lt := Nat.succ_lt_succ h.lt
 le := hj
 len := by rw [List.length_set]; exact h.len
 low := by
  have hi : i < cur.length := by have := h.len; have := h.lt; omega
  rw [List.take_succ_eq_append_getElem (by rw [List.length_set]; exact hi), List.getElem_set_self, List.take_set_of_le (Nat.le_refl i), h.low, List.take_succ_eq_append_getElem hj, List.filter_append, List.filter_cons, hk]
  rfl
 high := by rw [List.drop_set_of_lt (by have := h.lt; omega), ← List.drop_drop, h.high, List.drop_drop]
theorem impl_edge_int_146.calls (pn : Nat) (pb : Array Value) (P : Int → Int → Bool) (ok : REdge → Prop) (S : World → Prop) (ep : ∀ args w, (callFunc pn args).run Try.prog w = .ok (.enter pn args) w) (hp : REAsk pn pb P ok S) (w w0 : World) (okr : Nat → Prop) (v : Value) (res : List REdge)
  (hb0 : Below w.heap.size w w0) (hv : kre.R 110 w0 w.heap.size okr v res) (hl : res.length < 1000000) (hok : ∀ r ∈ res, ok r) (hS : ∀ W, Below w.heap.size w W → S W) :
  Calls Try.prog 146 #[v, .func (.func pn) #[] pb] w0 fun e w' => ∃ v' : Value, e = .returned v' ∧ kre.R 110 w' w.heap.size okr v' (res.filter fun r => !P r.f0 r.f1) ∧ v'.ownBlock = v.ownBlock ∧ w0.grownBy w' v.ownBlock ∧ Below w.heap.size w w' := by
 have hu := Try.underlying110
 have HIX := ak_ fun (W : World) (h1 : Below w0.heap.size w0 W) => impl_edge_int_169.calls_re pn pb P ok S ep hp W w.heap.size okr v res (Kd.R_below hv h1) hl hok (fun W' h2 => hS W' (below_then hb0 hb0.size (below_then h1 h1.size h2)))
 have HL := ak_ hl
 have HOK := ak_ hok
 have HS := ak_ hS
 have HP := ak_ hp
 have HB := ak_ hb0
 have HR := ak_ hv
 have HGR := ak_ (World.grownBy.refl w0 v.ownBlock)
 have HBX := ak_ (Below.refl w0.heap.size w0)
 rcases ix_spec P res 0 with ⟨e1, hall⟩ | ⟨k0, hk0, e1, ha, hb⟩
 ·have e2 : ixFrom P 0 res = -1 := e1
  have HF := ak_ hall
  rw [e2] at HIX
  clear e1 e2 hall hl hok hS hp hb0 hv
  go_enter Try.func146, Try.ntmps146
  go_wp2_with (go_at_call 169; refine (HIX.out _ be_).mono ?_; rintro e w10 ⟨rfl, hb⟩; have n0_ := ak_ (Kd.R_below (Kd.pR HR.out) hb); have n1_ := ak_ (bs_ (bb_ HB.out) hb); have n2_ := ak_ (gr_below HGR.out hb); clear HR HB HGR hb HIX; have HR := n0_; have HB := n1_; have HGR := n2_; clear n0_ n1_ n2_)
  first | go_ret | go_ret2
  exact ⟨v, rfl, by rw [HF.out]; exact Kd.R_below HR.out be_, rfl, HGR.out, (bb_ HB.out)⟩
 ·obtain ⟨g, cap, rfl, -, -, -⟩ := Kd.R_form hv (by omega)
  have e2 : ixFrom P 0 res = (k0 : Int) := by have e3 := e1; simp only [Nat.zero_add] at e3; exact e3
  rw [e2] at HIX
  have hne1 : ((k0 : Int) == -1) = false := beq_eq_false_iff_ne.2 (by omega)
  have HI := ak_ (show DelInv (fun r => !P r.f0 r.f1) res res k0 (k0 + 1) from ⟨Nat.lt_succ_self _, hk0, rfl, hb.symm, rfl⟩)
  have hw4 : IntKind.i64.wrap ((k0 : Int) + 1) = ((k0 + 1 : Nat) : Int) := by rw [IntWalk.i64_in _ ⟨by omega, by omega⟩]; omega
  clear e1 e2 ha hb hl hok hS hp hb0 hv hk0
  go_enter Try.func146, Try.ntmps146
  go_wp2_with (go_at_call 169; refine (HIX.out _ be_).mono ?_; rintro e w10 ⟨rfl, hb⟩; have n0_ := ak_ (Kd.R_below (Kd.pR HR.out) hb); have n1_ := ak_ (bs_ (bb_ HB.out) hb); have n2_ := ak_ (gr_below HGR.out hb); clear HR HB HGR hb HIX; have HR := n0_; have HB := n1_; have HGR := n2_; clear n0_ n1_ n2_)
  go_loopg [5, 6] res.length (fun gg v5 v6 wr => ∃ (i j : Nat) (cur : List REdge), v5 = .int .i64 (i : Int) ∧ v6 = .int .i64 (j : Int) ∧ res.length - j ≤ gg ∧ Aside0 (DelInv (fun r => !P r.f0 r.f1) res cur i j) ∧ Aside0 (kre.R 110 wr w.heap.size okr (.slice (some ⟨g, 0, none⟩) res.length cap) cur) ∧ Aside0 (w0.grownBy wr (some g)) ∧ Aside0 (Below w.heap.size w wr))
  case atStart => exact ⟨k0, k0 + 1, res, rfl, (by first | rfl | (simp; done)), by omega, HI, ⟨Kd.R_below HR.out be_⟩, ⟨HGR.out⟩, ⟨(bb_ HB.out)⟩⟩
  case round =>
   clear HI HR HGR HB HBX hw4 hne1
   obtain ⟨i, j, cur, rfl, rfl, hg, HI, HR, HGR, HB⟩ := hrel
   have i0 : ((0 : Int) ≤ (i : Int)) = True := eq_true (by omega)
   have j0 : ((0 : Int) ≤ (j : Int)) = True := eq_true (by omega)
   have i1 : ((i : Int) < (res.length : Int)) = True := eq_true (by have := HI.out.lt; have := HI.out.le; omega)
   have hwi : IntKind.i64.wrap ((i : Int) + 1) = ((i + 1 : Nat) : Int) := by have := HI.out.lt; have := HI.out.le; have := HL.out; rw [IntWalk.i64_in _ ⟨by omega, by omega⟩]; omega
   have hwj : IntKind.i64.wrap ((j : Int) + 1) = ((j + 1 : Nat) : Int) := by have := HI.out.lt; have := HI.out.le; have := HL.out; rw [IntWalk.i64_in _ ⟨by omega, by omega⟩]; omega
   by_cases hlt : j < res.length
   ·have j1 : decide ((j : Int) < (res.length : Int)) = true := decide_eq_true (by omega)
    have j1n : decide (j < res.length) = true := decide_eq_true hlt
    have j1p : ((j : Int) < (res.length : Int)) = True := eq_true (by omega)
    obtain ⟨hx0, hx1, hx2⟩ := kre_get HR.out j (by have := HI.out.len; omega)
    obtain ⟨r, hr⟩ : ∃ r, r = res[j] := ⟨_, rfl⟩
    rw [HI.out.at_ hlt, ← hr] at hx0 hx1 hx2
    have HOKr := ak_ (HOK.out r (by rw [hr]; exact List.getElem_mem hlt))
    have HG := ak_ (And.intro hg hlt)
    have HIN := ak_ (And.intro (fun (h : P r.f0 r.f1 = true) => HI.out.skip hlt (by rw [← hr]; simp [h])) (fun (h : P r.f0 r.f1 = false) => (by have h_ := HI.out.keep_ hlt (by rw [← hr]; simp [h]); rw [← hr] at h_; exact h_ : DelInv (fun r => !P r.f0 r.f1) res (cur.set i r) (i + 1) (j + 1))))
    clear hg hlt hr
    go_upto_region 8 with (fail)
    obtain ⟨w7, hw7⟩ : ∃ W, W = wr.alloc (.cells #[.int .i64 r.f0, .int .i64 r.f1, .slice r.A r.n r.c] 110) := ⟨_, rfl⟩
    have hb : Below wr.heap.size wr w7 := (by rw [hw7]; exact ba_ (Below.refl _ _) _)
    have hbk : w7.heap[wr.heap.size]? = some (.cells #[.int .i64 r.f0, .int .i64 r.f1, .slice r.A r.n r.c] 110 (0, 0)) := (by rw [hw7]; exact blk_new wr _)
    rw [← hw7]
    clear hw7 hx0 hx1 hx2
    have n0_ := ak_ (Kd.R_below HR.out hb); have n1_ := ak_ (bs_ HB.out hb); have n2_ := ak_ (gr_below HGR.out hb); clear HR HB HGR hb; have HR := n0_; have HB := n1_; have HGR := n2_; clear n0_ n1_ n2_
    obtain ⟨gb7, hg7⟩ : ∃ g, g = wr.heap.size := ⟨_, rfl⟩
    rw [← hg7] at hbk ⊢
    have BK7 := ak_ hbk
    clear hbk hg7
    have hz0 := (blk_cell BK7.out 0)
    have hz1 := (blk_cell BK7.out 1)
    have hz2 := (blk_cell BK7.out 2)
    simp at hz0
    simp at hz1
    simp at hz2
    cases hP : P r.f0 r.f1
    ·have HI2 := ak_ (HIN.out.2 hP)
     have HII := ak_ (And.intro HI.out.lt HI.out.le)
     clear HIN
     go_wp2_with (first | (go_at_fn pn; refine (HP.out _ r (HS.out _ (bb_ HB.out)) HOKr.out).mono ?_; rw [hP]; rintro e w28 ⟨rfl, hb⟩; have n0_ := ak_ (Kd.R_below HR.out hb); have n1_ := ak_ (bs_ HB.out hb); have n2_ := ak_ (gr_below HGR.out hb); have n3_ := ak_ (blk_below BK7.out hb); clear HR HB HGR BK7 hb; have HR := n0_; have HB := n1_; have HGR := n2_; have BK7 := n3_; clear n0_ n1_ n2_ n3_; have hz0 := (blk_cell BK7.out 0); have hz1 := (blk_cell BK7.out 1); have hz2 := (blk_cell BK7.out 2); simp at hz0; simp at hz1; simp at hz2) | ((with_reducible refine gate_store (t := 110) (p := 33) rfl ?_); go_loud (obtain ⟨o, hcc⟩ := kre_cc HR.out i (by have := HI.out.len; have := HII.out; omega); refine Kd.R_store kre (w0 := w) (g := g) (n := res.length) (cap := cap) (o' := i * 3) w.heap.size rfl rfl 110 (.tmp 33) (.tmp 32) rfl 110 (i : Int) 0 cur r (.agg #[.int .i64 r.f0, .int .i64 r.f1, .slice r.A r.n r.c]) [.int .i64 r.f0, .int .i64 r.f1, .slice r.A r.n r.c] [.int .i64 o.f0, .int .i64 o.f1, .slice o.A o.n o.c] okr (fun _ => False) ?sa ?so ?sx ?su ?st ?s1 HR.out ?s0 ?si rfl hcc ?sj ?sm (fun _ hk => hk.elim) HB.out ?_; (case sa => rfl); (case so => rfl); (case sx => rfl); (case su => rfl); (case st => kernel_rfl); (case s1 => exact (kre_M wr w.heap.size (fun _ => True) r).2.2); (case s0 => omega); (case si => have := HII.out; omega); (case sj => exact Nat.le_refl 3); (case sm => exact kre_M _ _ _ r); intro w33 hr hb hg; have n0_ := ak_ hr; have n1_ := ak_ hb; have n2_ := ak_ (gr_gr HGR.out hg); clear HR HB HGR hr hb hg hcc; have HR := n0_; have HB := n1_; have HGR := n2_; clear n0_ n1_ n2_)))
     go_roundg (res.length - (j + 1))
     case measure => have := HG.out; omega
     case rel => exact ⟨i + 1, j + 1, cur.set i r, (by first | rfl | (simp; done)), (by first | rfl | (simp; done)), Nat.le_refl _, HI2, ⟨Kd.R_below HR.out be_⟩, ⟨HGR.out⟩, ⟨(bb_ HB.out)⟩⟩
    ·have HI2 := ak_ (HIN.out.1 hP)
     clear HIN
     go_wp2_with (go_at_fn pn; refine (HP.out _ r (HS.out _ (bb_ HB.out)) HOKr.out).mono ?_; rw [hP]; rintro e w28 ⟨rfl, hb⟩; have n0_ := ak_ (Kd.R_below HR.out hb); have n1_ := ak_ (bs_ HB.out hb); have n2_ := ak_ (gr_below HGR.out hb); have n3_ := ak_ (blk_below BK7.out hb); clear HR HB HGR BK7 hb; have HR := n0_; have HB := n1_; have HGR := n2_; have BK7 := n3_; clear n0_ n1_ n2_ n3_; have hz0 := (blk_cell BK7.out 0); have hz1 := (blk_cell BK7.out 1); have hz2 := (blk_cell BK7.out 2); simp at hz0; simp at hz1; simp at hz2)
     go_roundg (res.length - (j + 1))
     case measure => have := HG.out; omega
     case rel => exact ⟨i, j + 1, cur, (by first | rfl | (simp; done)), (by first | rfl | (simp; done)), Nat.le_refl _, HI2, ⟨Kd.R_below HR.out be_⟩, ⟨HGR.out⟩, ⟨(bb_ HB.out)⟩⟩
   ·have j1 : decide ((j : Int) < (res.length : Int)) = false := decide_eq_false (by omega)
    have j1n : decide (j < res.length) = false := decide_eq_false hlt
    have hlow := HI.out.low
    have hje : j = res.length := by have := HI.out.le; omega
    rw [hje, List.take_length] at hlow
    have HLOW := ak_ hlow
    have HT := ak_ (Kd.R_take HR.out (m := i) (by have := HI.out.len; have := HI.out.lt; have := HI.out.le; omega))
    obtain ⟨hn1, hn2, -⟩ := Kd.R_reads' HR.out
    have hq1 : i ≤ res.length := by have := HI.out.lt; have := HI.out.le; omega
    have hq2 : (cap = i) = False := by have := HI.out.lt; have := HI.out.le; simp; omega
    have hq3 : res.length ≤ cap := hn2
    have HII := ak_ (And.intro HI.out.lt (And.intro HI.out.le hn2))
    clear hlow hje hn1 hn2 hlt hg HR HI
    go_wp2_with (((with_reducible refine gate_builtin (b := .clear) (xs := #[.tmp 38]) rfl ?_); refine Kd.R_clear kre (w0 := w) w.heap.size ?hgd (.tmp 38) 130 110 ?ho Try.underlying130 (.agg #[(.int .i64 0), (.int .i64 0), (.slice none 0 0)]) ?hz rfl ?hz1 ?hd (g := g) (n := i) (m := res.length - i) (c2 := ?c2) (off := i * 3) ?hs rfl HT.out ?hm ?hm0 HB.out ?hbase ?_; (case hgd => rfl); (case ho => rfl); (case hz => rfl); (case hz1 => decide); (case hd => decide); (case hs => rfl); (case hm => (have hx_ := HII.out); omega); (case hm0 => (have hx_ := HII.out); omega); (case hbase => exact HB.out.size); intro w38 ho2 hb2 hg2; have n0_ := ak_ ho2; have n1_ := ak_ hb2; have n2_ := ak_ (gr_gr HGR.out hg2); clear HT HB HGR ho2 hb2 hg2; have HT := n0_; have HB := n1_; have HGR := n2_; clear n0_ n1_ n2_))
    first | go_ret | go_ret2
    exact ⟨_, rfl, by rw [← HLOW.out]; exact Kd.R_below HT.out be_, rfl, HGR.out, (bb_ HB.out)⟩
def leadR (W : World) (base : Nat) (okl : Nat → Prop) (f : Nat → Nat) (z : S110 × Nat) (r : REdge) : Prop := r.f0 = z.1.f0 ∧ r.f1 = z.1.f1 ∧ (Kd.int .i64).R 3 W base (fun k => okl k ∧ f k = z.2) (.slice r.A r.n r.c) z.1.f2
def LeadT (W : World) (base : Nat) (okl : Nat → Prop) (f : Nat → Nat) : List (S110 × Nat) → List REdge → Prop
 | [], [] => True
 | z :: zs, r :: rs => leadR W base okl f z r ∧ LeadT W base okl f zs rs
 | _, _ => False
section
variable {W W' : World} {base : Nat} {okl : Nat → Prop} {f : Nat → Nat}
theorem LeadT.len : ∀ {zs : List (S110 × Nat)} {rs : List REdge}, LeadT W base okl f zs rs → zs.length = rs.length
 | [], [], _ => rfl
 | _ :: _, _ :: _, h => congrArg (· + 1) (LeadT.len h.2)
 | [], _ :: _, h => h.elim
 | _ :: _, [], h => h.elim
theorem LeadT.at_ : ∀ {zs : List (S110 × Nat)} {rs : List REdge}, LeadT W base okl f zs rs → ∀ (j : Nat) (z : S110 × Nat) (r : REdge), zs[j]? = some z → rs[j]? = some r → leadR W base okl f z r
 | [], _, _, _, _, _, h, _ => by simp at h
 | _ :: _, [], h, _, _, _, _, _ => h.elim
 | _ :: _, _ :: _, h, 0, z, r, hz, hr => by obtain rfl := Option.some.inj hz; obtain rfl := Option.some.inj hr; exact h.1
 | _ :: _, _ :: _, h, j + 1, z, r, hz, hr => LeadT.at_ h.2 j z r hz hr
theorem LeadT.of : ∀ {zs : List (S110 × Nat)} {rs : List REdge}, zs.length = rs.length → (∀ (j : Nat) (z : S110 × Nat) (r : REdge), zs[j]? = some z → rs[j]? = some r → leadR W base okl f z r) → LeadT W base okl f zs rs
 | [], [], _, _ => trivial
 | _ :: _, _ :: _, hl, h => ⟨h 0 _ _ rfl rfl, LeadT.of (Nat.succ.inj hl) (fun j z r hz hr => h (j + 1) z r hz hr)⟩
 | [], _ :: _, hl, _ => by simp at hl
 | _ :: _, [], hl, _ => by simp at hl
theorem LeadT.move (hm : ∀ k, okl k → k < W.heap.size → W'.heap[k]? = W.heap[k]?) : ∀ {zs : List (S110 × Nat)} {rs : List REdge}, LeadT W base okl f zs rs → LeadT W' base okl f zs rs
 | [], [], _ => trivial
 | _ :: _, _ :: _, h => ⟨⟨h.1.1, h.1.2.1, Kd.R_step h.1.2.2 (fun k hk hl => hm k hk.1 hl)⟩, LeadT.move hm h.2⟩
 | [], _ :: _, h => h.elim
 | _ :: _, [], h => h.elim
theorem LeadT.filter (q : Int → Int → Bool) : ∀ {zs : List (S110 × Nat)} {rs : List REdge}, LeadT W base okl f zs rs → LeadT W base okl f (zs.filter fun z => q z.1.f0 z.1.f1) (rs.filter fun r => q r.f0 r.f1)
 | [], [], _ => trivial
 | z :: zs, r :: rs, h => by
  have ih := LeadT.filter q h.2
  rw [List.filter_cons, List.filter_cons, h.1.1, h.1.2.1]
  split
  ·exact ⟨h.1, ih⟩
  ·exact ih
 | [], _ :: _, h => h.elim
 | _ :: _, [], h => h.elim
theorem LeadT.all {p : Int → Int → Prop} : ∀ {zs : List (S110 × Nat)} {rs : List REdge}, LeadT W base okl f zs rs → (∀ z ∈ zs, p z.1.f0 z.1.f1) → ∀ r ∈ rs, p r.f0 r.f1
 | [], [], _, _ => by simp
 | z :: zs, r :: rs, h, hp => by
  intro r' hr
  rcases List.mem_cons.1 hr with rfl | hr
  ·rw [h.1.1, h.1.2.1]; exact hp z List.mem_cons_self
  ·exact LeadT.all h.2 (fun z hz => hp z (List.mem_cons_of_mem _ hz)) r' hr
 | [], _ :: _, h, _ => h.elim
 | _ :: _, [], h, _ => h.elim
end
theorem lead_list {α : Type} {p : Nat → α → Prop} : ∀ (n : Nat), (∀ i, i < n → ∃ x, p i x) → ∃ l : List α, l.length = n ∧ ∀ i x, l[i]? = some x → p i x
 | 0, _ => ⟨[], rfl, fun i x hx => by simp at hx⟩
 | n + 1, h => by
  obtain ⟨l, hl, hp⟩ := lead_list n (fun i hi => h i (Nat.lt_succ_of_lt hi))
  obtain ⟨x, hx⟩ := h n (Nat.lt_succ_self n)
  refine ⟨l ++ [x], by rw [List.length_append, hl]; rfl, fun i y hy => ?_⟩
  rcases Nat.lt_or_ge i l.length with hi | hi
  ·rw [List.getElem?_append_left hi] at hy
   exact hp i y hy
  ·have hi' := (List.getElem?_eq_some_iff.1 hy).1
   rw [List.length_append, List.length_singleton] at hi'
   have e : i = l.length := by omega
   subst e
   rw [List.getElem?_append_right (Nat.le_refl _), Nat.sub_self] at hy
   obtain rfl : x = y := by simpa using hy
   rw [hl]; exact hx
theorem lead_open {W : World} {base : Nat} {ok : Nat → Prop} {v : Value} {es : List S110} (h : Kd.S k110 110 W base ok v es) :
  ∃ f res, kre.R 110 W base (fun k => some k = v.ownBlock) v res ∧ LeadT W base (fun k => ok k ∧ some k ≠ v.ownBlock) f es.zipIdx res := by
 obtain ⟨f, hown, inner, ho, hl, hr⟩ := h
 obtain ⟨res, hres, hp⟩ := lead_list (p := fun i (r : REdge) => ∃ z, es.zipIdx[i]? = some z ∧ (inner.drop (i * 3)).take 3 = r.enc ∧ leadR W base (fun k => ok k ∧ some k ≠ v.ownBlock) f z r) es.zipIdx.length (fun i hi => by
  obtain ⟨z, hz⟩ : ∃ z, es.zipIdx[i]? = some z := ⟨_, List.getElem?_eq_getElem hi⟩
  have hM := hr i z hz
  obtain ⟨v2, hc, hR⟩ := k110_openM (show k110.M W base (fun k => (ok k ∧ some k ≠ v.ownBlock) ∧ f k = z.2) z.1 ((inner.drop (i * 3)).take 3) from hM)
  obtain ⟨A, c, rfl⟩ := Kd.R_slice hR
  exact ⟨⟨z.1.f0, z.1.f1, A, z.1.f2.length, c⟩, z, hz, hc, rfl, rfl, hR⟩)
 refine ⟨f, res, ⟨fun k hk => hk.symm, inner, by rw [hres]; exact ho, ?_, fun j r hj => ?_⟩, LeadT.of hres.symm (fun j z r hz hr => ?_)⟩
 ·rw [hres]; exact hl
 ·obtain ⟨z, hz, hc, -⟩ := hp j r hj
  have hc' : (inner.drop (j * kre.sz)).take kre.sz = r.enc := hc
  rw [hc']
  exact kre_M _ _ _ r
 ·obtain ⟨z', hz', -, hL⟩ := hp j r hr
  rw [hz] at hz'
  obtain rfl := Option.some.inj hz'
  exact hL
theorem lead_shut {W : World} {base : Nat} {okr okl : Nat → Prop} {f : Nat → Nat} {v : Value} {zs : List (S110 × Nat)} {res : List REdge} (hR : kre.R 110 W base okr v res) (hL : LeadT W base okl f zs res) (hnd : (zs.map (·.2)).Nodup) (hne : ∀ k, okl k → some k ≠ v.ownBlock) :
  Kd.S k110 110 W base (fun _ => True) v (zs.map (·.1)) := by
 obtain ⟨hown, inner, ho, hl, hr⟩ := hR
 have hlen := hL.len
 refine ⟨fun k => (zs.map (·.2)).idxOf (f k), fun _ _ => trivial, inner, by rw [List.length_zipIdx, List.length_map, hlen]; exact ho, by rw [List.length_zipIdx, List.length_map, hlen]; exact hl, fun j z hz => ?_⟩
 rw [List.getElem?_zipIdx, Nat.zero_add] at hz
 obtain ⟨x, hx, rfl⟩ := Option.map_eq_some_iff.1 hz
 rw [List.getElem?_map] at hx
 obtain ⟨z0, hz0, rfl⟩ := Option.map_eq_some_iff.1 hx
 have hj : j < zs.length := (List.getElem?_eq_some_iff.1 hz0).1
 obtain ⟨r, hr0⟩ : ∃ r, res[j]? = some r := ⟨_, List.getElem?_eq_getElem (by rw [← hlen]; exact hj)⟩
 have hc := (hr j r hr0).1
 obtain ⟨e0, e1, hR2⟩ := hL.at_ j z0 r hz0 hr0
 have hM := k110_mkM W base (fun k => okl k ∧ f k = z0.2) z0.1 hR2
 show k110.M W base (fun k => (True ∧ some k ≠ v.ownBlock) ∧ (zs.map (·.2)).idxOf (f k) = j) z0.1 ((inner.drop (j * 3)).take 3)
 have hc' : (inner.drop (j * 3)).take 3 = [.int .i64 z0.1.f0, .int .i64 z0.1.f1, .slice r.A r.n r.c] := by rw [← e0, ← e1]; exact hc
 rw [hc']
 refine Kd.M_mono _ (fun k hk => ⟨⟨trivial, hne k hk.1⟩, ?_⟩) hM
 rw [hk.2]
 have hjm : j < (zs.map (·.2)).length := by rw [List.length_map]; exact hj
 have e2 : z0.2 = (zs.map (·.2))[j] := by rw [List.getElem_map]; congr 1; rw [List.getElem?_eq_getElem hj] at hz0; exact (Option.some.inj hz0).symm
 rw [e2]
 exact hnd.idxOf_getElem j hjm
def offWay (dist : List Int) (s t c : Int) : Bool := decide (rdOf 0 dist t < 0) || (wrap64 (rdOf 0 dist t + c) != rdOf 0 dist s)
theorem impl_graph_int_best.calls_1 (B1 B2 : Nat) (Ad : Option Addr) (cd : Nat) (dist : List Int) (s : Int) (r : REdge) (W : World) (h1 : W.cell? ⟨B1, 0, none⟩ = some (.slice Ad dist.length cd)) (h2 : W.cell? ⟨B2, 0, none⟩ = some (.int .i64 s)) (hr : (Kd.int .i64).C W Ad dist.length dist) (hs : 0 ≤ s ∧ s < (dist.length : Int)) (ht : 0 ≤ r.f0 ∧ r.f0 < (dist.length : Int)) :
  Calls Try.prog 147 #[.agg #[.int .i64 r.f0, .int .i64 r.f1, .slice r.A r.n r.c], .pointer (some ⟨B1, 0, none⟩), .pointer (some ⟨B2, 0, none⟩)] W fun e w' => e = .returned (.bool (offWay dist s r.f0 r.f1)) ∧ Below W.heap.size W w' := by
 have hu := Try.underlying110
 obtain ⟨ad, rfl, hxt⟩ := Kd.at_int hr r.f0 ht.1 ht.2
 obtain ⟨ad', e', hxs⟩ := Kd.at_int hr s hs.1 hs.2
 cases e'
 have t0 := eq_true ht.1
 have t1 := eq_true ht.2
 have s0 := eq_true hs.1
 have s1 := eq_true hs.2
 have HB := ak_ (Below.refl W.heap.size W)
 have hO : offWay dist s r.f0 r.f1 = (decide (rd dist r.f0 < 0) || (wrap64 (rd dist r.f0 + r.f1) != rd dist s)) := rfl
 rw [hO]
 clear hO hr hs ht
 generalize rd dist r.f0 = dt at hxt ⊢
 generalize rd dist s = ds at hxs ⊢
 by_cases hv : dt < 0
 ·have v1 : decide (dt < 0) = true := decide_eq_true hv
  rw [v1]
  clear hv
  go_enter Try.func147, Try.ntmps147
  go_wp2_with (first | ((with_reducible refine gate_dst (N := 3) rfl ?_); refine bx_ 3 #[.int .i64 r.f0, .int .i64 r.f1, .slice r.A r.n r.c] 110 ?_; intro gb3 hg w3 hbox hb; clear hg; have n0_ := pw_cell_below hb h1; have n1_ := pw_cell_below hb h2; have n2_ := pw_cell_below hb hxt; have n3_ := pw_cell_below hb hxs; have n4_ := ak_ hb; clear h1 h2 hxt hxs HB hb; have h1 := n0_; have h2 := n1_; have hxt := n2_; have hxs := n3_; have HB := n4_; clear n0_ n1_ n2_ n3_ n4_; have hz0 := blk_cell hbox 0; have hz1 := blk_cell hbox 1; simp at hz0; simp at hz1; clear hbox))
  repeat (go_quiet (first | ((with_reducible refine gate_dst (N := 3) rfl ?_); refine bx_ 3 #[.int .i64 r.f0, .int .i64 r.f1, .slice r.A r.n r.c] 110 ?_; intro gb3 hg w3 hbox hb; clear hg; have n0_ := pw_cell_below hb h1; have n1_ := pw_cell_below hb h2; have n2_ := pw_cell_below hb hxt; have n3_ := pw_cell_below hb hxs; have n4_ := ak_ hb; clear h1 h2 hxt hxs HB hb; have h1 := n0_; have h2 := n1_; have hxt := n2_; have hxs := n3_; have HB := n4_; clear n0_ n1_ n2_ n3_ n4_; have hz0 := blk_cell hbox 0; have hz1 := blk_cell hbox 1; simp at hz0; simp at hz1; clear hbox)))
  try go_wp2
  first | go_ret | go_ret2
  exact ⟨rfl, (bb_ HB.out)⟩
 ·have v1 : decide (dt < 0) = false := decide_eq_false hv
  rw [v1]
  clear hv
  go_enter Try.func147, Try.ntmps147
  go_wp2_with (first | ((with_reducible refine gate_dst (N := 3) rfl ?_); refine bx_ 3 #[.int .i64 r.f0, .int .i64 r.f1, .slice r.A r.n r.c] 110 ?_; intro gb3 hg w3 hbox hb; clear hg; have n0_ := pw_cell_below hb h1; have n1_ := pw_cell_below hb h2; have n2_ := pw_cell_below hb hxt; have n3_ := pw_cell_below hb hxs; have n4_ := ak_ hb; clear h1 h2 hxt hxs HB hb; have h1 := n0_; have h2 := n1_; have hxt := n2_; have hxs := n3_; have HB := n4_; clear n0_ n1_ n2_ n3_ n4_; have hz0 := blk_cell hbox 0; have hz1 := blk_cell hbox 1; simp at hz0; simp at hz1; clear hbox))
  repeat (go_quiet (first | ((with_reducible refine gate_dst (N := 3) rfl ?_); refine bx_ 3 #[.int .i64 r.f0, .int .i64 r.f1, .slice r.A r.n r.c] 110 ?_; intro gb3 hg w3 hbox hb; clear hg; have n0_ := pw_cell_below hb h1; have n1_ := pw_cell_below hb h2; have n2_ := pw_cell_below hb hxt; have n3_ := pw_cell_below hb hxs; have n4_ := ak_ hb; clear h1 h2 hxt hxs HB hb; have h1 := n0_; have h2 := n1_; have hxt := n2_; have hxs := n3_; have HB := n4_; clear n0_ n1_ n2_ n3_ n4_; have hz0 := blk_cell hbox 0; have hz1 := blk_cell hbox 1; simp at hz0; simp at hz1; clear hbox)))
  try go_wp2
  first | go_ret | go_ret2
  exact ⟨(by first | rfl | (simp; done)), (bb_ HB.out)⟩
def impl_graph_int_best.f (E : Int → List S110) (N : Int) (s : Int) (dist : List Int) : Option (List S110) :=
 if 0 ≤ s ∧ s < N ∧ (dist.length : Int) = N ∧ (E s).length < 1000000 then (if ((E s).all fun e => decide (0 ≤ e.f0) && decide (e.f0 < N)) = true then some ((E s).filter fun e => !offWay dist s e.f0 e.f1) else none) else none
theorem zip_filter {α : Type} (q : α → Bool) (l : List α) : (l.zipIdx.filter fun z => q z.1).map (·.1) = l.filter q := by
 rw [show (fun z : α × Nat => q z.1) = q ∘ Prod.fst from rfl, ← List.filter_map, List.zipIdx_map_fst]
theorem zip_nodup {α : Type} (q : α × Nat → Bool) (l : List α) : ((l.zipIdx.filter q).map (·.2)).Nodup := by
 have h1 : (l.zipIdx.map Prod.snd).Nodup := by rw [List.zipIdx_map_snd]; exact List.nodup_range'
 exact List.Nodup.sublist ((List.filter_sublist (p := q) (l := l.zipIdx)).map Prod.snd) h1
theorem impl_graph_int_best.calls (fo : Nat) (cb : Array Value) (N : Int) (E : Int → List S110) (w w0 : World) (ee : ∀ args w, (callFunc fo args).run Try.prog w = .ok (.enter fo args) w) (hE : GOut fo cb N E w) (hb0 : Below w.heap.size w w0)
  (s : Int) (Ad : Option Addr) (cd : Nat) (dist : List Int) (r : List S110) (hd : (Kd.int .i64).C w0 Ad dist.length dist) (h : impl_graph_int_best.f E N s dist = some r) :
  Calls Try.prog 111 #[.agg #[.int .i64 N, .func (.func fo) #[] cb], .int .i64 s, .slice Ad dist.length cd] w0 fun e w' => ∃ v0_ : Value, e = .returned v0_ ∧ Kd.S k110 110 w' w0.heap.size (fun _ => True) v0_ r ∧ Below w0.heap.size w0 w' := by
 have hu := Try.underlying68
 have hu2 := Try.underlying110
 unfold impl_graph_int_best.f at h
 by_cases hc : 0 ≤ s ∧ s < N ∧ (dist.length : Int) = N ∧ (E s).length < 1000000
 rotate_left
 ·rw [if_neg hc] at h; exact absurd h (by simp)
 rw [if_pos hc] at h
 by_cases hall : ((E s).all fun e => decide (0 ≤ e.f0) && decide (e.f0 < N)) = true
 rotate_left
 ·rw [if_neg hall] at h; exact absurd h (by simp)
 rw [if_pos hall] at h
 obtain rfl := Option.some.inj h
 have hall2 : ∀ z ∈ (E s).zipIdx, 0 ≤ z.1.f0 ∧ z.1.f0 < (dist.length : Int) := fun z hz => by
  have h1 : z.1 ∈ E s := by
   have h2 := List.mem_map_of_mem (f := Prod.fst) hz
   rw [List.zipIdx_map_fst] at h2
   exact h2
  have h3 := List.all_eq_true.mp hall z.1 h1
  simp only [Bool.and_eq_true, decide_eq_true_eq] at h3
  exact ⟨h3.1, by rw [hc.2.2.1]; exact h3.2⟩
 have HA := ak_ hall2
 have HC := ak_ hc
 have HE := ak_ hE
 have HB0 := ak_ hb0
 have HB := ak_ (Below.refl w0.heap.size w0)
 have HD := ak_ hd
 clear h hall hall2 hc hE hb0 hd
 go_enter Try.func111, Try.ntmps111
 go_wp2_with (first | ((with_reducible refine gate_dst (N := 3) rfl ?_); refine box_event ?hg (N := 3) ?hd (cs := #[.int .i64 N, .func (.func fo) #[] cb]) (t := 68) ?hr ?_; (case hd => rfl); (case hg => rfl); (case hr => go_simp <;> rfl); intro gb3 hg w3 hbox hb; have ns_ := ak_ (Kd.C_below (HD.out) hb); have nb_ := ak_ (bs_ (bb_ HB.out) hb); have nc_ := ak_ hbox; have nd_ := ak_ ((by rw [hg]; exact (bz_ (bb_ HB.out)) : w0.heap.size ≤ gb3)); clear HD HB hb hbox hg; have HD := ns_; have HB := nb_; have BK3 := nc_; have GE3 := nd_; clear ns_ nb_ nc_ nd_; have hz3_0 := (blk_cell BK3.out 0); have hf3_0 := (blk_frozen BK3.out 0); simp at hz3_0; have hz3_1 := (blk_cell BK3.out 1); have hf3_1 := (blk_frozen BK3.out 1); simp at hz3_1; skip) | ((with_reducible refine gate_dst (N := 4) rfl ?_); refine bx_ 4 #[.int .i64 s] 3 ?_; intro gb4 hg w4 hbox hb; have n0_ := ak_ (blk_below (pk BK3.out) hb); have m0_ := ak_ ((by rw [hg]; exact Nat.ne_of_lt (blk_lt (pk BK3.out)) : gb3 ≠ gb4)); have ns_ := ak_ (Kd.C_below (HD.out) hb); have nb_ := ak_ (bs_ (bb_ HB.out) hb); have nc_ := ak_ hbox; have nd_ := ak_ ((by rw [hg]; exact (bz_ (bb_ HB.out)) : w0.heap.size ≤ gb4)); clear HD HB hb hbox hg; clear BK3; have BK3 := n0_; have NE3_4 := m0_; have HD := ns_; have HB := nb_; have BK4 := nc_; have GE4 := nd_; clear ns_ nb_ nc_ nd_ n0_ m0_; have hz4_0 := (blk_cell BK4.out 0); have hf4_0 := (blk_frozen BK4.out 0); simp at hz4_0; skip) | ((with_reducible refine gate_dst (N := 5) rfl ?_); refine bx_ 5 #[.slice Ad dist.length cd] 29 ?_; intro gb5 hg w5 hbox hb; have n0_ := ak_ (blk_below (pk BK3.out) hb); have m0_ := ak_ ((by rw [hg]; exact Nat.ne_of_lt (blk_lt (pk BK3.out)) : gb3 ≠ gb5)); have n1_ := ak_ (blk_below (pk BK4.out) hb); have m1_ := ak_ ((by rw [hg]; exact Nat.ne_of_lt (blk_lt (pk BK4.out)) : gb4 ≠ gb5)); have ns_ := ak_ (Kd.C_below (HD.out) hb); have nb_ := ak_ (bs_ (bb_ HB.out) hb); have nc_ := ak_ hbox; have nd_ := ak_ ((by rw [hg]; exact (bz_ (bb_ HB.out)) : w0.heap.size ≤ gb5)); clear HD HB hb hbox hg; clear BK3 BK4; have BK3 := n0_; have NE3_5 := m0_; have BK4 := n1_; have NE4_5 := m1_; have HD := ns_; have HB := nb_; have BK5 := nc_; have GE5 := nd_; clear ns_ nb_ nc_ nd_ n0_ m0_ n1_ m1_; have hz5_0 := (blk_cell BK5.out 0); have hf5_0 := (blk_frozen BK5.out 0); simp at hz5_0; have hq3_0 := (blk_cell BK3.out 0); have hq3_1 := (blk_cell BK3.out 1); have hq4_0 := (blk_cell BK4.out 0); simp at hq3_0; simp at hq3_1; simp at hq4_0; skip) | (go_at_fn fo; go_loud (refine (HE.out _ s (below_then HB0.out HB0.out.size (bb_ HB.out)) HC.out.1 HC.out.2.1).mono ?_; rintro e w10 ⟨v10, rfl, ho, hb⟩; obtain ⟨f, res, hR, hL⟩ := lead_open ho; have hcd_ : res.length < 1000000 := (by rw [← hL.len, List.length_zipIdx]; exact HC.out.2.2.2); have hsl_ : 0 ≤ s ∧ s < (dist.length : Int) := (And.intro HC.out.1 (by rw [HC.out.2.2.1]; exact HC.out.2.1)); have HDEL := ak_ (impl_edge_int_146.calls 147 #[.pointer (some ⟨gb5, 0, none⟩), .pointer (some ⟨gb4, 0, none⟩)] (offWay dist s) (fun r => 0 ≤ r.f0 ∧ r.f0 < (dist.length : Int)) (fun W => Below w5.heap.size w5 W) (enters_of Try.func147 (by kernel_rfl) rfl) (fun W r hS hok => impl_graph_int_best.calls_1 gb5 gb4 Ad cd dist s r W (pw_cell_below hS ((blk_cell BK5.out 0).trans rfl)) (pw_cell_below hS ((blk_cell BK4.out 0).trans rfl)) (Kd.C_below HD.out hS) hsl_ hok) w5 w10 (fun k => some k = v10.ownBlock) v10 res hb hR hcd_ (LeadT.all (p := fun a _ => 0 ≤ a ∧ a < (dist.length : Int)) hL HA.out) (fun W h => h)); have HL := ak_ hL; have HB2 := ak_ hb; clear ho hR hL hb hcd_ hsl_)))
 go_wp2_with (go_at_call 146; refine HDEL.out.mono ?_; rintro e w12 ⟨v12, rfl, hR2, hv, hg, hb2⟩; have HO := ak_ (Kd.S_lower (lead_shut hR2 ((LeadT.move (fun k hk hl => hg.block k hl hk.2) HL.out).filter (fun a b => !offWay dist s a b)) (zip_nodup _ _) (fun k hk => (by rw [hv]; exact hk.2))) (bz_ HB.out)); rw [zip_filter (fun e : S110 => !offWay dist s e.f0 e.f1)] at HO; have n0_ := ak_ (bs_ HB.out hb2); clear HB HDEL HL HB2 hR2 hv hg hb2; have HB := n0_; clear n0_)
 first | go_ret | go_ret2
 exact ⟨_, rfl, HO.out, HB.out⟩
end Go.Proofs.Ythkchdfkeieabaa.QGr
