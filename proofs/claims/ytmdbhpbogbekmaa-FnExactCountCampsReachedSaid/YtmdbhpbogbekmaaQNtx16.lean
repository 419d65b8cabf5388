/- Contracts of functions of the given program, walked. Conditions: those at each theorem. -/
import Derived.Test.YtmdbhpbogbekmaaQNtx0
import Derived.Test.YtmdbhpbogbekmaaQNtx12
import Derived.Test.YtmdbhpbogbekmaaQNtx9
namespace Go.Proofs.Ytmdbhpbogbekmaa.QNt
open Go.RowKit Go.Proofs.YtmdbhpbogbekmaaW.PrintWords Go.Proofs.YtmdbhpbogbekmaaW.PrintLast Go.Proofs.YtmdbhpbogbekmaaW.PrintMore
open List (setIfInBounds_toArray set_cons_zero set_cons_succ map_toArray map_cons map_nil)
attribute [local go_sem] max2_int min2_int max_two min_two max_three min_three max_four min_four
set_option linter.unusedVariables false
set_option maxHeartbeats 8000000
set_option maxRecDepth 100000
set_option linter.unusedSimpArgs false
mutual
def impl_Camp_after.l0 : Nat → List (List Int) → Int → Int → List Bool → Int → List Bool → Int → Option (List Bool × Int)
 | 0, _, _, _, _, _, _, _ => none
 | k + 1, x16, x17, x18, x452000, x452001, x457000, x457001 => if x18 < x17 then (if 0 ≤ x18 then (if x18 < (x16.length : Int) then (if 0 < ((rd_L1 x16 x18).length : Int) then (if 0 ≤ (rd (rd_L1 x16 x18) 0) then (if (rd (rd_L1 x16 x18) 0) < (x452000.length : Int) then ((impl_bit.f (rdOf false x452000 (rd (rd_L1 x16 x18) 0))).bind fun t460 => (impl_Camp_after.l1 k x16 x17 x18 (rd_L1 x16 x18) ((rd_L1 x16 x18).length : Int) 0 x452000 x452001 x457000 (wrap64 (x457001 + (wrap64 (1 - (wrap64 (2 * t460)))))))) else (none)) else (none)) else (none)) else (none)) else (none)) else (some (x457000, x457001))
def impl_Camp_after.l1 : Nat → List (List Int) → Int → Int → List Int → Int → Int → List Bool → Int → List Bool → Int → Option (List Bool × Int)
 | 0, _, _, _, _, _, _, _, _, _, _ => none
 | k + 1, x16, x17, x18, x36, x37, x38, x452000, x452001, x457000, x457001 => if x38 < x37 then (if 0 ≤ x38 then (if x38 < (x36.length : Int) then (if 0 ≤ (rd x36 x38) then (if (rd x36 x38) < (x452000.length : Int) then (if (rd x36 x38) < (x457000.length : Int) then (impl_Camp_after.l1 k x16 x17 x18 x36 x37 (wrap64 (x38 + 1)) x452000 x452001 (x457000.set ((rd x36 x38) : Int).toNat (!(rdOf false x452000 (rd x36 x38)))) x457001) else (none)) else (none)) else (none)) else (none)) else (none)) else (impl_Camp_after.l0 k x16 x17 (wrap64 (x18 + 1)) x452000 x452001 x457000 x457001)
end
def impl_Camp_after.f (k : Nat) (l0_0 : List Bool) (a0_1 : Int) (l1 : List (List Int)) : Option (List Bool × Int) := (slices_Clone_bool_bool.f l0_0).bind fun t453 => (impl_Camp_after.l0 k l1 (l1.length : Int) 0 l0_0 a0_1 t453 a0_1)
def impl_Camp_after.T1 : Bool × List (List Nat × List Nat) := (true, [([], []), ([0], [0]), ([1], [1]), ([], []), ([3], [3]), ([2, 4], [2, 4]), ([], []), ([6, 5, 2, 0, 1, 2, 3, 4, 5, 6], [5, 6])])
def impl_Camp_after.B1 : List Nat := [0, 1, 3, 0, 8, 31, 0, 127]
theorem impl_Camp_after.tab1 : rtab .any (opsOf Try.f79 1) = impl_Camp_after.T1 := by kernel_rfl
theorem impl_Camp_after.bits1 : waitsOk impl_Camp_after.T1.2 impl_Camp_after.B1 = true := by kernel_rfl
def impl_Camp_after.T5 : Bool × List (List Nat × List Nat) := (true, [([], []), ([0], [0]), ([], []), ([2], [2]), ([], []), ([4], [4]), ([5], [5]), ([3, 6], [3, 6]), ([7], [7]), ([8], [8]), ([9], [9]), ([10], [10]), ([1, 11], [1, 11]), ([0, 1, 2, 3, 4, 5, 6, 7, 8, 9, 10, 11, 12], []), ([13, 12, 9, 0, 1, 2, 3, 4, 5, 6, 7, 8, 9, 10, 11, 12], [12, 13])])
def impl_Camp_after.B5 : List Nat := [0, 1, 0, 4, 0, 16, 48, 124, 252, 508, 1020, 2044, 4095, 8191, 16383]
theorem impl_Camp_after.tab5 : rtab .any (opsOf Try.f79 5) = impl_Camp_after.T5 := by kernel_rfl
theorem impl_Camp_after.bits5 : waitsOk impl_Camp_after.T5.2 impl_Camp_after.B5 = true := by kernel_rfl
def impl_Camp_after.T9 : Bool × List (List Nat × List Nat) := (true, [([], []), ([0], [0]), ([], []), ([], []), ([3], [3]), ([], []), ([4, 5], [4, 5]), ([6], [6]), ([7], [7]), ([1, 2, 0, 1, 2, 3, 4, 5, 6, 7, 8], [1, 2]), ([9, 8, 0, 1, 2, 3, 4, 5, 6, 7, 8], [8, 9])])
def impl_Camp_after.B9 : List Nat := [0, 1, 0, 0, 8, 0, 56, 120, 248, 511, 1023]
theorem impl_Camp_after.tab9 : rtab .any (opsOf Try.f79 9) = impl_Camp_after.T9 := by kernel_rfl
theorem impl_Camp_after.bits9 : waitsOk impl_Camp_after.T9.2 impl_Camp_after.B9 = true := by kernel_rfl
theorem impl_Camp_after.calls (k : Nat) (A0_0 : Option Addr) (c0_0 : Nat) (l0_0 : List Bool) (a0_1 : Int) (A1 : Option Addr) (c1 : Nat) (l1 : List (List Int)) (r1 : List Bool) (r2 : Int) (w : World) (hr0_0 : Kd.C Kd.bool w A0_0 l0_0.length l0_0) (hc0_0 : l0_0.length ≤ c0_0) (hr1 : Kd.C (Kd.slice 3 (Kd.int .i64)) w A1 l1.length l1) (hc1 : l1.length ≤ c1) (h : impl_Camp_after.f k l0_0 a0_1 l1 = some (r1, r2)) :
  Calls Try.prog 79 #[.agg #[.slice A0_0 l0_0.length c0_0, .int .i64 a0_1], .slice A1 l1.length c1] w fun e w' => ∃ v0_ : Value, e = .returned (.agg #[v0_, .int .i64 r2]) ∧ Kd.R Kd.bool 4 w' w.heap.size (fun _ => True) v0_ r1 ∧ Below w.heap.size w w' := by
 have hu35 := Try.underlying35
 have HR0_0 := ak_ hr0_0
 have HC0_0 := ak_ hc0_0
 clear hr0_0 hc0_0
 have HR1 := ak_ hr1
 have HC1 := ak_ hc1
 clear hr1 hc1
 have HB := ak_ (Below.refl w.heap.size w)
 have H : ((slices_Clone_bool_bool.f l0_0).bind fun t453 => (impl_Camp_after.l0 k l1 (l1.length : Int) 0 l0_0 a0_1 t453 a0_1)) = some (r1, r2) := h
 clear h
 replace H := Option.bind_eq_some_iff.mp H
 obtain ⟨t453, A30, H⟩ := H
 replace H : (impl_Camp_after.l0 k l1 (l1.length : Int) 0 l0_0 a0_1 t453 a0_1) = some (r1, r2) := H
 have A3 := ak_ A30
 clear A30
 have H' := ak_ H
 clear H
 go_enter Try.func79, Try.ntmps79
 try go_wp2_with (first | ((with_reducible refine gate_dst (N := 2) rfl ?_); refine bx_ 2 #[.slice A0_0 l0_0.length c0_0, .int .i64 a0_1] 35 ?_; intro gb451 hg w4 hbox hb; have BK451 := ak_ (hbox); have GW451 := ak_ ((by rw [hg]; exact (bz_ (bb_ HB.out)) : w.heap.size ≤ gb451)); replace HB := ak_ (bs_ (bb_ HB.out) hb); have GE451 := GW451; clear hb hbox hg) | ((with_reducible refine gate_dst (N := 4) rfl ?_); refine bx_ 4 #[.slice none 0 0, .int .i64 0] 35 ?_; intro gb452 hg w5 hbox hb; have BK452 := ak_ (hbox); have GW452 := ak_ ((by rw [hg]; exact (bz_ bl_) : w.heap.size ≤ gb452)); replace HB := ak_ (bs_ bl_ hb); have GE452 := GW452; have NB451_452 := ak_ ((by rw [hg]; exact Nat.ne_of_lt (blk_lt (pk BK451.out)) : gb451 ≠ gb452)); replace BK451 := ak_ (blk_below (pk BK451.out) hb); have NB452_451 := ak_ NB451_452.out.symm; clear hb hbox hg))
 have n0_ := ak_ (k1_ BK451.out)
 have n1_ := ak_ (k1_ BK452.out)
 have n2_ := ak_ (b1_ HB.out)
 clear BK451 BK452 HB
 have BK451 := n0_; have BK452 := n1_; have HB := n2_
 clear n0_ n1_ n2_
 refine start_ (n := 8) (S := fun w' => w'.cell? ⟨gb451, 0, none⟩ = some (.slice A0_0 l0_0.length c0_0) ∧ w'.cell? ⟨gb451, 1, none⟩ = some (.int .i64 a0_1)) (ds := []) (mb_ 8 0) (by kernel_rfl) rfl rfl ⟨(blk_cell BK451.out 0).trans rfl, (blk_cell BK451.out 1).trans rfl⟩ (fun hHeld => ?_); refine with_tabW impl_Camp_after.tab1 impl_Camp_after.bits1 (fun HT_ HW_ => ?_)
 generalize w5.drew = w6 at BK451 BK452 HB hHeld ⊢
 refine pu_ 0 10 8 1 ?_
 refine pu_ 3 13 8 9 ?_
 refine tk_ 1 11 8 11 ?_ (hy := by rintro w' ⟨s0, s1⟩; go_simp; with_reducible rfl)
 refine tk_ 4 14 8 27 ?_ (hy := by rintro w' ⟨s0, s1⟩; go_simp; with_reducible rfl)
 refine join_ (σ := Value × Nat) 1 (mb_ 8 127) (fun s_ => [(12, s_.1), (5, .pointer (some ⟨s_.2, 0, none⟩)), (15, .agg #[s_.1, .int .i64 a0_1])]) (fun s_ w' => (w'.cell? ⟨gb451, 0, none⟩ = some (.slice A0_0 l0_0.length c0_0) ∧ w'.cell? ⟨gb451, 1, none⟩ = some (.int .i64 a0_1)) ∧ (Kd.R Kd.bool 4 w' w.heap.size (fun _ => True) s_.1 t453) ∧ (w'.heap[gb451]? = some (.cells #[.slice A0_0 l0_0.length c0_0, .int .i64 a0_1] 35 (0, 0))) ∧ (w'.heap[gb452]? = some (.cells #[.slice none 0 0, .int .i64 0] 35 (0, 0))) ∧ (w'.heap[s_.2]? = some (.cells #[.slice none 0 0, .int .i64 0] 35 (0, 0))) ∧ (w.heap.size ≤ s_.2) ∧ (w.heap.size ≤ s_.2) ∧ (gb451 ≠ s_.2) ∧ (s_.2 ≠ gb451) ∧ (gb452 ≠ s_.2) ∧ (s_.2 ≠ gb452) ∧ (Below w.heap.size w w')) ?_ ?_
 rotate_left
 ·
  intro hCont
  refine two_ (i := 2) (j := 6) (Ni := some 12) (Nj := some 5) (mb_ 8 31) (mb_ 8 91) rfl rfl rfl rfl (two_of HT_.out (by kernel_rfl)) (by decide) (by decide) (fun K hK => ?_) (fun K hK => ?_)
  ·
   skip
   refine goes_ Try.func98 (by kernel_rfl) rfl #[.slice A0_0 l0_0.length c0_0] (by rfl) rfl rfl rs_ ?_
   with_reducible refine (slices_Clone_bool_bool.calls _ _ l0_0 t453 _ ?side1 ?side2 A3.out).mono ?_
   (case side1 => exact cs_ (Kd.C_below HR0_0.out HB.out))
   (case side2 => exact HC0_0.out)
   rintro e w7 ⟨v454, rfl, ho0, hb⟩
   refine ⟨_, rfl, ?_⟩
   have n0_ := ak_ (Kd.R_lower ho0 (bz_ bl_))
   have n1_ := ak_ (blk_below (pk BK451.out) hb)
   have n2_ := ak_ (blk_below (pk BK452.out) hb)
   have n3_ := ak_ (bs_ bl_ hb)
   clear BK451 BK452 HB
   have HO455 := n0_; have BK451 := n1_; have BK452 := n2_; have HB := n3_
   clear n0_ n1_ n2_ n3_
   (try clear hb)
   (try clear hb2)
   (try clear hk)
   (try clear hi)
   (try clear ho0)
   obtain ⟨Ao8, co8, eo8⟩ := Kd.R_slice HO455.out
   (first | subst eo8 | (injection eo8 with f1_ f2_ f3_; have f4_ := f1_.symm; have f5_ := f3_.symm; clear f1_ f2_ f3_; subst f4_; subst f5_))
   refine hK.out _ _ ⟨(blk_cell BK451.out 0).trans rfl, (blk_cell BK451.out 1).trans rfl⟩ (fun hHeld => ?_)
   clear hK K
   refine nm_ ?_
   refine pu_ 5 15 8 63 ?_
   refine on_ 6 5 8 127 (fun K hK => ?_)
   refine box_step ?hg (N := 5) ?hd (cs := #[.slice none 0 0, .int .i64 0]) (t := 35) ?hr ?_; (case hd => rfl); (case hg => rfl); (case hr => go_simp <;> rfl)
   intro gb456 hg w9 hbox hb
   have n0_ := ak_ (Kd.R_below (Kd.pR HO455.out) hb)
   have n1_ := ak_ (blk_below (pk BK451.out) hb)
   have n2_ := ak_ (blk_below (pk BK452.out) hb)
   have n3_ := ak_ (bs_ bl_ hb)
   have n4_ := ak_ (hbox)
   have n5_ := ak_ ((by rw [hg]; exact (bz_ bl_) : w.heap.size ≤ gb456))
   have n6_ := n5_
   have n7_ := ak_ ((by rw [hg]; exact Nat.ne_of_lt (blk_lt (pk BK451.out)) : gb451 ≠ gb456))
   have n8_ := ak_ n7_.out.symm
   have n9_ := ak_ ((by rw [hg]; exact Nat.ne_of_lt (blk_lt (pk BK452.out)) : gb452 ≠ gb456))
   have n10_ := ak_ n9_.out.symm
   clear HO455 BK451 BK452 HB
   have HO455 := n0_; have BK451 := n1_; have BK452 := n2_; have HB := n3_; have BK456 := n4_; have GW456 := n5_; have GE456 := n6_; have NB451_456 := n7_; have NB456_451 := n8_; have NB452_456 := n9_; have NB456_452 := n10_
   clear n0_ n1_ n2_ n3_ n4_ n5_ n6_ n7_ n8_ n9_ n10_ hb hbox hg
   refine hK.out _ _ ⟨(blk_cell BK451.out 0).trans rfl, (blk_cell BK451.out 1).trans rfl⟩ (fun hHeld => ?_)
   clear hK K
   refine nm_ ?_
   exact norm_ (by simp only [putAll, Act.put, setIfInBounds_toArray, set_cons_zero, set_cons_succ]) (hCont (.slice Ao8 t453.length co8, gb456) _ ⟨hHeld, (Kd.pR HO455.out), (pk BK451.out), (pk BK452.out), (pk BK456.out), GW456.out, GE456.out, NB451_456.out, NB456_451.out, NB452_456.out, NB456_452.out, bl_⟩)
  ·
   skip
   refine box_step ?hg (N := 5) ?hd (cs := #[.slice none 0 0, .int .i64 0]) (t := 35) ?hr ?_; (case hd => rfl); (case hg => rfl); (case hr => go_simp <;> rfl)
   intro gb456 hg w7 hbox hb
   have n0_ := ak_ (blk_below (pk BK451.out) hb)
   have n1_ := ak_ (blk_below (pk BK452.out) hb)
   have n2_ := ak_ (bs_ bl_ hb)
   have n3_ := ak_ (hbox)
   have n4_ := ak_ ((by rw [hg]; exact (bz_ bl_) : w.heap.size ≤ gb456))
   have n5_ := n4_
   have n6_ := ak_ ((by rw [hg]; exact Nat.ne_of_lt (blk_lt (pk BK451.out)) : gb451 ≠ gb456))
   have n7_ := ak_ n6_.out.symm
   have n8_ := ak_ ((by rw [hg]; exact Nat.ne_of_lt (blk_lt (pk BK452.out)) : gb452 ≠ gb456))
   have n9_ := ak_ n8_.out.symm
   clear BK451 BK452 HB
   have BK451 := n0_; have BK452 := n1_; have HB := n2_; have BK456 := n3_; have GW456 := n4_; have GE456 := n5_; have NB451_456 := n6_; have NB456_451 := n7_; have NB452_456 := n8_; have NB456_452 := n9_
   clear n0_ n1_ n2_ n3_ n4_ n5_ n6_ n7_ n8_ n9_ hb hbox hg
   refine hK.out _ _ ⟨(blk_cell BK451.out 0).trans rfl, (blk_cell BK451.out 1).trans rfl⟩ (fun hHeld => ?_)
   clear hK K
   refine nm_ ?_
   refine on_ 2 12 8 95 (fun K hK => ?_)
   refine goes_ Try.func98 (by kernel_rfl) rfl #[.slice A0_0 l0_0.length c0_0] (by rfl) rfl rfl rs_ ?_
   with_reducible refine (slices_Clone_bool_bool.calls _ _ l0_0 t453 _ ?side1 ?side2 A3.out).mono ?_
   (case side1 => exact cs_ (Kd.C_below HR0_0.out HB.out))
   (case side2 => exact HC0_0.out)
   rintro e w8 ⟨v454, rfl, ho0, hb⟩
   refine ⟨_, rfl, ?_⟩
   have n0_ := ak_ (Kd.R_lower ho0 (bz_ bl_))
   have n1_ := ak_ (blk_below (pk BK451.out) hb)
   have n2_ := ak_ (blk_below (pk BK452.out) hb)
   have n3_ := ak_ (blk_below (pk BK456.out) hb)
   have n4_ := ak_ (bs_ bl_ hb)
   clear BK451 BK452 BK456 HB
   have HO455 := n0_; have BK451 := n1_; have BK452 := n2_; have BK456 := n3_; have HB := n4_
   clear n0_ n1_ n2_ n3_ n4_
   (try clear hb)
   (try clear hb2)
   (try clear hk)
   (try clear hi)
   (try clear ho0)
   obtain ⟨Ao9, co9, eo9⟩ := Kd.R_slice HO455.out
   (first | subst eo9 | (injection eo9 with f1_ f2_ f3_; have f4_ := f1_.symm; have f5_ := f3_.symm; clear f1_ f2_ f3_; subst f4_; subst f5_))
   refine hK.out _ _ ⟨(blk_cell BK451.out 0).trans rfl, (blk_cell BK451.out 1).trans rfl⟩ (fun hHeld => ?_)
   clear hK K
   refine nm_ ?_
   refine pu_ 5 15 8 127 ?_
   exact norm_ (by simp only [putAll, Act.put, setIfInBounds_toArray, set_cons_zero, set_cons_succ]) (hCont (.slice Ao9 t453.length co9, gb456) _ ⟨hHeld, (Kd.pR HO455.out), (pk BK451.out), (pk BK452.out), (pk BK456.out), GW456.out, GE456.out, NB451_456.out, NB456_451.out, NB452_456.out, NB456_452.out, bl_⟩)
 rintro ⟨v454, gb456⟩ w10 ⟨hS_, h0_, h1_, h2_, h3_, h4_, h5_, h6_, h7_, h8_, h9_, h10_⟩
 have n0_ : Aside0 (Kd.R Kd.bool 4 w10 w.heap.size (fun _ => True) v454 t453) := ⟨h0_⟩
 have n1_ : Aside0 (w10.heap[gb451]? = some (.cells #[.slice A0_0 l0_0.length c0_0, .int .i64 a0_1] 35 (0, 0))) := ⟨h1_⟩
 have n2_ : Aside0 (w10.heap[gb452]? = some (.cells #[.slice none 0 0, .int .i64 0] 35 (0, 0))) := ⟨h2_⟩
 have n3_ : Aside0 (w10.heap[gb456]? = some (.cells #[.slice none 0 0, .int .i64 0] 35 (0, 0))) := ⟨h3_⟩
 have n4_ : Aside0 (w.heap.size ≤ gb456) := ⟨h4_⟩
 have n5_ : Aside0 (w.heap.size ≤ gb456) := ⟨h5_⟩
 have n6_ : Aside0 (gb451 ≠ gb456) := ⟨h6_⟩
 have n7_ : Aside0 (gb456 ≠ gb451) := ⟨h7_⟩
 have n8_ : Aside0 (gb452 ≠ gb456) := ⟨h8_⟩
 have n9_ : Aside0 (gb456 ≠ gb452) := ⟨h9_⟩
 have n10_ : Aside0 (Below w.heap.size w w10) := ⟨h10_⟩
 clear BK451 BK452 HB h0_ h1_ h2_ h3_ h4_ h5_ h6_ h7_ h8_ h9_ h10_
 have HO455 := n0_; have BK451 := n1_; have BK452 := n2_; have BK456 := n3_; have GW456 := n4_; have GE456 := n5_; have NB451_456 := n6_; have NB456_451 := n7_; have NB452_456 := n8_; have NB456_452 := n9_; have HB := n10_
 clear n0_ n1_ n2_ n3_ n4_ n5_ n6_ n7_ n8_ n9_ n10_
 have hHeld : w10.cell? ⟨gb451, 0, none⟩ = some (.slice A0_0 l0_0.length c0_0) ∧ w10.cell? ⟨gb451, 1, none⟩ = some (.int .i64 a0_1) := hS_
 obtain ⟨Ao11, co11, eo11⟩ := Kd.R_slice HO455.out
 (first | subst eo11 | (injection eo11 with f1_ f2_ f3_; have f4_ := f1_.symm; have f5_ := f3_.symm; clear f1_ f2_ f3_; subst f4_; subst f5_))
 refine norm_ (a' := ?_) ?_ ?_
 rotate_left
 ·
  simp only [putAll, Act.put, setIfInBounds_toArray, set_cons_zero, set_cons_succ]
  rfl
 refine one_ (i := 7) (N := none) (mb_ 8 255) rfl rfl (one_of HT_.out (by kernel_rfl)) (by decide) (fun K hK => ?_)
 have hs12 : w10.cell? ⟨gb456, 0, none⟩ = some (.slice none 0 0) := (blk_cell BK456.out 0).trans rfl
 have hfs12 := blk_frozen BK456.out 0
 have hns12_0 := NB451_456.out
 have hns12_1 := NB452_456.out
 have hms12_0 := NB456_451.out
 have hms12_1 := NB456_452.out
 have hs13 : w10.cell? ⟨gb456, 1, none⟩ = some (.int .i64 0) := (blk_cell BK456.out 1).trans rfl
 have hfs13 := blk_frozen BK456.out 1
 have hns13_0 := NB451_456.out
 have hns13_1 := NB452_456.out
 have hms13_0 := NB456_451.out
 have hms13_1 := NB456_452.out
 refine skip_ (w1 := ?_) (by rfl) rfl ?_ ?_
 rotate_left
 ·
  go_simp
  rfl
 refine hK.out _ _ ⟨((cell_far (p := ⟨gb456, _, none⟩) NB451_456.out _).trans (((cell_far (p := ⟨gb456, _, none⟩) NB451_456.out _).trans (hHeld.1)))), ((cell_far (p := ⟨gb456, _, none⟩) NB451_456.out _).trans (((cell_far (p := ⟨gb456, _, none⟩) NB451_456.out _).trans (hHeld.2))))⟩ (fun hHeld => ?_)
 clear hK K
 refine done_ (done_of HT_.out (by kernel_rfl)) ?_
 try go_wp2
 go_loopg [18] k (fun kq v18 w' => ∃ (x18_1 : Int) (x457000_1 : List Bool) (x457001_1 : Int) (u457000 : Value), v18 = .int .i64 x18_1 ∧ Aside0 (impl_Camp_after.l0 kq l1 (l1.length : Int) x18_1 l0_0 a0_1 x457000_1 x457001_1 = some (r1, r2)) ∧ Aside0 (kq ≤ k) ∧ Aside0 (Kd.R Kd.bool 4 w' w.heap.size (fun _ => True) u457000 x457000_1) ∧ Aside0 (w'.heap[gb451]? = some (.cells #[(.slice A0_0 l0_0.length c0_0), .int .i64 a0_1] 35 (0, 0))) ∧ Aside0 (w'.heap[gb452]? = some (.cells #[(.slice none 0 0), .int .i64 0] 35 (0, 0))) ∧ Aside0 (w'.heap[gb456]? = some (.cells #[u457000, .int .i64 x457001_1] 35 (0, 0))) ∧ Aside0 (Below w.heap.size w w'))
 case atStart => exact ⟨(0), (t453), (a0_1), (.slice Ao11 t453.length co11), (ry_), H', ⟨Nat.le_refl _⟩, ⟨by (with_reducible repeat (first | apply Kd.R_alloc | apply Kd.R_drewN | apply Kd.R_drew)); exact Kd.R_mono (Kd.R_far (p := ⟨gb456, 1, none⟩) (Kd.R_far (p := ⟨gb456, 0, none⟩) (Kd.R_types HO455.out BK456.out (by decide)) (fun _ hk => hk.2) (.slice Ao11 t453.length co11)) (fun _ hk => hk.2) (.int .i64 a0_1)) (fun _ hk => trivial)⟩, ⟨by (with_reducible repeat (first | refine kN_ ?_ _ | refine k1_ ?_ | refine ka_ ?_ _)); refine blk_far ?_ NB451_456.out _; (with_reducible repeat (first | refine kN_ ?_ _ | refine k1_ ?_ | refine ka_ ?_ _)); refine blk_far ?_ NB451_456.out _; exact pk BK451.out⟩, ⟨by (with_reducible repeat (first | refine kN_ ?_ _ | refine k1_ ?_ | refine ka_ ?_ _)); refine blk_far ?_ NB452_456.out _; (with_reducible repeat (first | refine kN_ ?_ _ | refine k1_ ?_ | refine ka_ ?_ _)); refine blk_far ?_ NB452_456.out _; exact pk BK452.out⟩, ⟨by (with_reducible repeat (first | refine kN_ ?_ _ | refine k1_ ?_ | refine ka_ ?_ _)); refine blk_put (cs := #[.slice Ao11 t453.length co11, .int .i64 0]) ?_ 1 _ rfl; (with_reducible repeat (first | refine kN_ ?_ _ | refine k1_ ?_ | refine ka_ ?_ _)); refine blk_put (cs := #[.slice none 0 0, .int .i64 0]) ?_ 0 _ rfl; exact pk BK456.out⟩, ⟨bl_⟩⟩
 case round =>
  clear H'
  try clear c1
  try clear p2
  try clear c7
  try clear c9
  obtain ⟨x18_1, x457000_1, x457001_1, u457000, rfl, HA, HK1, HO_457000, BK451, BK452, BK456, HB⟩ := hrel
  cases gk with
  | zero => exact absurd HA.out (by simp [impl_Camp_after.l0])
  | succ k1 =>
   have H := HA.out
   clear HA
   simp only [impl_Camp_after.l0] at H
   by_cases c14 : x18_1 < (l1.length : Int)
   ·
    rw [if_pos c14] at H
    have c14b0 := decide_eq_true c14
    clear c14
    by_cases c15 : 0 ≤ x18_1
    ·
     rw [if_pos c15] at H
     have c15b0 := decide_eq_true c15
     clear c15
     by_cases c16 : x18_1 < (l1.length : Int)
     ·
      rw [if_pos c16] at H
      have c16b0 := decide_eq_true c16
      clear c16
      by_cases c17 : 0 < ((rd_L1 l1 x18_1).length : Int)
      ·
       rw [if_pos c17] at H
       have c17b0 := decide_eq_true c17
       have c17b1 : decide (0 < (rd_L1 l1 x18_1).length) = true := decide_eq_true (by omega)
       clear c17
       by_cases c18 : 0 ≤ (rd (rd_L1 l1 x18_1) 0)
       ·
        rw [if_pos c18] at H
        have c18b0 := decide_eq_true c18
        clear c18
        by_cases c19 : (rd (rd_L1 l1 x18_1) 0) < (l0_0.length : Int)
        ·
         rw [if_pos c19] at H
         have c19b0 := decide_eq_true c19
         clear c19
         replace H := Option.bind_eq_some_iff.mp H
         obtain ⟨t460, A200, H⟩ := H
         replace H : (impl_Camp_after.l1 k1 l1 (l1.length : Int) x18_1 (rd_L1 l1 x18_1) ((rd_L1 l1 x18_1).length : Int) 0 l0_0 a0_1 x457000_1 (wrap64 (x457001_1 + (wrap64 (1 - (wrap64 (2 * t460))))))) = some (r1, r2) := H
         have A20 := ak_ A200
         clear A200
         have H' := ak_ H
         clear H
         have p457 : 0 ≤ (x18_1 : Int) := od_
         have q457 : x18_1 < (l1.length : Int) := od_
         obtain ⟨ad457, A457_0, c457_0, e457, hx457_0, hl457_0, hi457_0⟩ := at_L1 HR1.out x18_1 p457 q457
         cases e457
         try replace hx457_0 := (HB.out.cell (World.block_lt_of_cell? w _ hx457_0)).trans hx457_0
         have HR457_0 := ak_ hi457_0
         have HC457_0 := ak_ hl457_0
         clear hi457_0 hl457_0
         replace p457 := eq_true p457
         replace q457 := eq_true q457
         try go_wp2
         have n0_ := ak_ (Kd.R_drew HO_457000.out)
         have n1_ := ak_ (k1_ BK451.out)
         have n2_ := ak_ (k1_ BK452.out)
         have n3_ := ak_ (k1_ BK456.out)
         have n4_ := ak_ (b1_ HB.out)
         clear HO_457000 BK451 BK452 BK456 HB
         have HO_457000 := n0_; have BK451 := n1_; have BK452 := n2_; have BK456 := n3_; have HB := n4_
         clear n0_ n1_ n2_ n3_ n4_
         have p458 : 0 ≤ (0 : Int) := (by omega)
         have q458 : 0 < ((rd_L1 l1 x18_1).length : Int) := od_
         obtain ⟨ad458, e458, hx458_0⟩ := Kd.at_int HR457_0.out 0 p458 q458
         have hw458_0 := hx458_0
         (try rw [show ((0 : Int)).toNat = 0 from rfl] at hw458_0)
         (try rw [show 0 * 1 = 0 from rfl] at hw458_0)
         (try rw [Addr.add_zero'] at hw458_0)
         cases e458
         have qi458 : (0 < (rd_L1 l1 x18_1).length) = True := eq_true (by omega)
         (try rw [show ((0 : Int)).toNat = 0 from rfl] at hx458_0)
         (try rw [Addr.add_zero'] at hx458_0)
         try replace hx458_0 := (HB.out.cell (World.block_lt_of_cell? w _ hx458_0)).trans hx458_0
         replace p458 := eq_true p458
         replace q458 := eq_true q458
         have p459 : 0 ≤ ((rd (rd_L1 l1 x18_1) 0) : Int) := od_
         have q459 : (rd (rd_L1 l1 x18_1) 0) < (l0_0.length : Int) := od_
         obtain ⟨ad459, e459, hx459_0⟩ := Kd.at_bool HR0_0.out (rd (rd_L1 l1 x18_1) 0) p459 q459
         have hw459_0 := hx459_0
         cases e459
         try replace hx459_0 := (HB.out.cell (World.block_lt_of_cell? w _ hx459_0)).trans hx459_0
         replace p459 := eq_true p459
         replace q459 := eq_true q459
         refine start_ (n := 15) (S := fun w' => w'.cell? ⟨gb456, 0, none⟩ = some (u457000) ∧ w'.cell? ⟨gb456, 1, none⟩ = some (.int .i64 x457001_1) ∧ w'.cell? ⟨gb451, 0, none⟩ = some (.slice (some ad459) l0_0.length c0_0) ∧ w'.cell? ⟨gb451, 1, none⟩ = some (.int .i64 a0_1) ∧ w'.cell? ad458 = some (.int .i64 (rd (rd_L1 l1 x18_1) 0)) ∧ w'.cell? (ad459.add ((rd (rd_L1 l1 x18_1) 0)).toNat) = some (.bool (rdOf false l0_0 (rd (rd_L1 l1 x18_1) 0)))) (ds := [14]) (mb_ 15 0) (by kernel_rfl) rfl rfl ⟨(blk_cell BK456.out 0).trans rfl, (blk_cell BK456.out 1).trans rfl, (blk_cell BK451.out 0).trans rfl, (blk_cell BK451.out 1).trans rfl, ((HB.out.cell (World.block_lt_of_cell? w _ hw458_0)).trans hw458_0), ((HB.out.cell (World.block_lt_of_cell? w _ hw459_0)).trans hw459_0)⟩ (fun hHeld => ?_); refine with_tabW impl_Camp_after.tab5 impl_Camp_after.bits5 (fun HT_ HW_ => ?_)
         generalize wr.drew = w21 at HO_457000 BK451 BK452 BK456 HB hx458_0 hx459_0 hHeld ⊢
         refine pu_ 0 22 15 1 ?_
         refine pu_ 2 24 15 5 ?_
         refine pu_ 4 26 15 21 ?_
         refine pu_ 5 27 15 53 ?_
         refine tk_ 1 23 15 55 ?_ (hy := by rintro w' ⟨s0, s1, s2, s3, s4, s5⟩; go_simp; with_reducible rfl)
         refine tk_ 3 25 15 63 ?_ (hy := by rintro w' ⟨s0, s1, s2, s3, s4, s5⟩; go_simp; with_reducible rfl)
         refine tk_ 6 28 15 127 ?_ (hy := by rintro w' ⟨s0, s1, s2, s3, s4, s5⟩; go_simp; with_reducible rfl)
         refine pu_ 7 29 15 255 ?_
         refine tk_ 8 30 15 511 ?_ (hy := by rintro w' ⟨s0, s1, s2, s3, s4, s5⟩; go_simp; with_reducible rfl)
         refine on_ 9 31 15 1023 (fun K hK => ?_)
         refine goes_ Try.func81 (by kernel_rfl) rfl #[.bool (rdOf false l0_0 (rd (rd_L1 l1 x18_1) 0))] (by rfl) rfl rfl rs_ ?_
         with_reducible refine (impl_bit.calls (rdOf false l0_0 (rd (rd_L1 l1 x18_1) 0)) t460 _ A20.out).mono ?_
         rintro e w' ⟨rfl, ⟨nd, rfl⟩⟩
         refine ⟨_, rfl, ?_⟩
         refine hK.out _ _ ⟨(blk_cell BK456.out 0).trans rfl, (blk_cell BK456.out 1).trans rfl, (blk_cell BK451.out 0).trans rfl, (blk_cell BK451.out 1).trans rfl, ((HB.out.cell (World.block_lt_of_cell? w _ hw458_0)).trans hw458_0), ((HB.out.cell (World.block_lt_of_cell? w _ hw459_0)).trans hw459_0)⟩ (fun hHeld => ?_)
         clear hK K
         refine nm_ ?_
         refine pu_ 10 32 15 2047 ?_
         refine pu_ 11 33 15 4095 ?_
         refine pu_ 12 34 15 8191 ?_
         refine pu_ 13 35 15 16383 ?_
         refine last_ (i := 14) (N := none) (mb_ 15 32767) rfl rfl (one_of HT_.out (by kernel_rfl)) (by decide) (fun K hK => ?_)
         have hs22 : w21.cell? ⟨gb456, 1, none⟩ = some (.int .i64 x457001_1) := (blk_cell BK456.out 1).trans rfl
         have hfs22 := blk_frozen BK456.out 1
         have hns22_0 := NB451_456.out
         have hns22_1 := NB452_456.out
         have hms22_0 := NB456_451.out
         have hms22_1 := NB456_452.out
         refine skip_ (w1 := ?_) (by rfl) rfl ?_ ?_
         rotate_left
         ·
          go_simp
          rfl
         refine hK.out _ _ ?_
         clear hK K
         refine done_ (done_of HT_.out (by kernel_rfl)) ?_
         try go_wp2
         go_loopg [38] k1 (fun kq v38 w' => ∃ (x38_2 : Int) (x457000_2 : List Bool) (u457000 : Value), v38 = .int .i64 x38_2 ∧ Aside0 (impl_Camp_after.l1 kq l1 (l1.length : Int) x18_1 (rd_L1 l1 x18_1) ((rd_L1 l1 x18_1).length : Int) x38_2 l0_0 a0_1 x457000_2 (wrap64 (x457001_1 + (wrap64 (1 - (wrap64 (2 * t460)))))) = some (r1, r2)) ∧ Aside0 (kq ≤ k1) ∧ Aside0 (Kd.R Kd.bool 4 w' w.heap.size (fun _ => True) u457000 x457000_2) ∧ Aside0 (w'.heap[gb451]? = some (.cells #[(.slice (some ad459) l0_0.length c0_0), .int .i64 a0_1] 35 (0, 0))) ∧ Aside0 (w'.heap[gb452]? = some (.cells #[(.slice none 0 0), .int .i64 0] 35 (0, 0))) ∧ Aside0 (w'.heap[gb456]? = some (.cells #[u457000, .int .i64 (wrap64 (x457001_1 + (wrap64 (1 - (wrap64 (2 * t460))))))] 35 (0, 0))) ∧ Aside0 (Below w.heap.size w w'))
         case atStart => exact ⟨(0), (x457000_1), (u457000), (ry_), H', ⟨Nat.le_refl _⟩, ⟨by (with_reducible repeat (first | apply Kd.R_alloc | apply Kd.R_drewN | apply Kd.R_drew)); exact Kd.R_mono (Kd.R_far (p := ⟨gb456, 1, none⟩) (Kd.R_types HO_457000.out BK456.out (by decide)) (fun _ hk => hk.2) (.int .i64 (wrap64 (x457001_1 + (wrap64 (1 - (wrap64 (2 * t460)))))))) (fun _ hk => trivial)⟩, ⟨by (with_reducible repeat (first | refine kN_ ?_ _ | refine k1_ ?_ | refine ka_ ?_ _)); refine blk_far ?_ NB451_456.out _; exact pk BK451.out⟩, ⟨by (with_reducible repeat (first | refine kN_ ?_ _ | refine k1_ ?_ | refine ka_ ?_ _)); refine blk_far ?_ NB452_456.out _; exact pk BK452.out⟩, ⟨by (with_reducible repeat (first | refine kN_ ?_ _ | refine k1_ ?_ | refine ka_ ?_ _)); refine blk_put (cs := #[u457000, .int .i64 x457001_1]) ?_ 1 _ rfl; exact pk BK456.out⟩, ⟨bl_⟩⟩
         case round =>
          clear H'
          try clear c1
          try clear p2
          try clear c4
          try clear p4
          try clear q4
          try clear hx4
          try clear qi4
          try clear p6
          try clear c7
          try clear c8
          try clear c9
          try clear c14
          try clear c14b0
          try clear c15
          try clear c15b0
          try clear c16
          try clear c16b0
          try clear c17
          try clear c17b0
          try clear c17b1
          try clear c18
          try clear c18b0
          try clear c19
          try clear c19b0
          try clear hx457_0
          try clear hx458_0
          try clear hx459_0
          try clear p2
          try clear p457
          try clear p458
          try clear p459
          try clear q457
          try clear q458
          try clear q459
          obtain ⟨x38_2, x457000_2, u457000, rfl, HA, HK2, HO_457000, BK451, BK452, BK456, HB⟩ := hrel
          cases gk with
          | zero => exact absurd HA.out (by simp [impl_Camp_after.l1])
          | succ k2 =>
           have H := HA.out
           clear HA
           simp only [impl_Camp_after.l1] at H
           by_cases c23 : x38_2 < ((rd_L1 l1 x18_1).length : Int)
           ·
            rw [if_pos c23] at H
            have c23b0 := decide_eq_true c23
            clear c23
            by_cases c24 : 0 ≤ x38_2
            ·
             rw [if_pos c24] at H
             have c24b0 := decide_eq_true c24
             clear c24
             by_cases c25 : x38_2 < ((rd_L1 l1 x18_1).length : Int)
             ·
              rw [if_pos c25] at H
              have c25b0 := decide_eq_true c25
              clear c25
              by_cases c26 : 0 ≤ (rd (rd_L1 l1 x18_1) x38_2)
              ·
               rw [if_pos c26] at H
               have c26b0 := decide_eq_true c26
               clear c26
               by_cases c27 : (rd (rd_L1 l1 x18_1) x38_2) < (l0_0.length : Int)
               ·
                rw [if_pos c27] at H
                have c27b0 := decide_eq_true c27
                clear c27
                by_cases c28 : (rd (rd_L1 l1 x18_1) x38_2) < (x457000_2.length : Int)
                ·
                 rw [if_pos c28] at H
                 have c28b0 := decide_eq_true c28
                 clear c28
                 obtain ⟨y463, hy463⟩ : ∃ y_ : List Bool, y_ = (x457000_2.set ((rd (rd_L1 l1 x18_1) x38_2) : Int).toNat (!(rdOf false l0_0 (rd (rd_L1 l1 x18_1) x38_2)))) := ⟨_, rfl⟩
                 replace H : (impl_Camp_after.l1 k2 l1 (l1.length : Int) x18_1 (rd_L1 l1 x18_1) ((rd_L1 l1 x18_1).length : Int) (wrap64 (x38_2 + 1)) l0_0 a0_1 y463 (wrap64 (x457001_1 + (wrap64 (1 - (wrap64 (2 * t460))))))) = some (r1, r2) := by first | (rw [hy463]; exact H) | exact H
                 have Ny463 := ak_ hy463
                 clear hy463
                 have H' := ak_ H
                 clear H
                 have p461 : 0 ≤ (x38_2 : Int) := od_
                 have q461 : x38_2 < ((rd_L1 l1 x18_1).length : Int) := od_
                 obtain ⟨ad461, e461, hx461_0⟩ := Kd.at_int HR457_0.out x38_2 p461 q461
                 obtain rfl : ad458 = ad461 := (by injection e461)
                 try replace hx461_0 := (HB.out.cell (World.block_lt_of_cell? w _ hx461_0)).trans hx461_0
                 replace p461 := eq_true p461
                 replace q461 := eq_true q461
                 try go_wp2
                 have n0_ := ak_ (Kd.R_drew HO_457000.out)
                 have n1_ := ak_ (k1_ BK451.out)
                 have n2_ := ak_ (k1_ BK452.out)
                 have n3_ := ak_ (k1_ BK456.out)
                 have n4_ := ak_ (b1_ HB.out)
                 clear HO_457000 BK451 BK452 BK456 HB
                 have HO_457000 := n0_; have BK451 := n1_; have BK452 := n2_; have BK456 := n3_; have HB := n4_
                 clear n0_ n1_ n2_ n3_ n4_
                 have p462 : 0 ≤ ((rd (rd_L1 l1 x18_1) x38_2) : Int) := od_
                 have q462 : (rd (rd_L1 l1 x18_1) x38_2) < (l0_0.length : Int) := od_
                 obtain ⟨ad462, e462, hx462_0⟩ := Kd.at_bool HR0_0.out (rd (rd_L1 l1 x18_1) x38_2) p462 q462
                 have hw462_0 := hx462_0
                 obtain rfl : ad459 = ad462 := (by injection e462)
                 try replace hx462_0 := (HB.out.cell (World.block_lt_of_cell? w _ hx462_0)).trans hx462_0
                 replace p462 := eq_true p462
                 replace q462 := eq_true q462
                 have p29 : 0 ≤ ((rd (rd_L1 l1 x18_1) x38_2) : Int) := od_
                 have q29 : ((rd (rd_L1 l1 x18_1) x38_2) : Int) < ((x457000_2.length : Int) : Int) := od_
                 obtain ⟨go29, co29, eo29, gb29, gl29, cl29, HG29⟩ := Kd.R_form HO_457000.out (by omega)
                 (first | cases eo29 | (injection eo29 with ea_ en_ ec_; (first | subst ea_ | (injection ea_ with ea_; subst ea_)); subst ec_; clear en_))
                 have GB29 := ak_ gb29
                 have GG29 := ak_ HG29
                 clear gb29 gl29 HG29
                 obtain ⟨hx29_0, hf29_0⟩ := Kd.R_celln false HO_457000.out ((rd (rd_L1 l1 x18_1) x38_2) : Int) p29 q29
                 replace p29 := eq_true p29
                 replace q29 := eq_true q29
                 have HP31 := Kd.R_putn HO_457000.out ((rd (rd_L1 l1 x18_1) x38_2) : Int) (!(rdOf false l0_0 (rd (rd_L1 l1 x18_1) x38_2)))
                 rw [← Ny463.out] at HP31
                 have HQ31 := ak_ HP31
                 clear HP31
                 refine start_ (n := 11) (S := fun w' => w'.cell? ⟨gb456, 0, none⟩ = some (.slice (some ⟨go29, 0, none⟩) x457000_2.length co29) ∧ w'.cell? ⟨gb456, 1, none⟩ = some (.int .i64 (wrap64 (x457001_1 + (wrap64 (1 - (wrap64 (2 * t460))))))) ∧ w'.cell? ⟨gb451, 0, none⟩ = some (.slice (some ad459) l0_0.length c0_0) ∧ w'.cell? ⟨gb451, 1, none⟩ = some (.int .i64 a0_1) ∧ w'.cell? (ad459.add ((rd (rd_L1 l1 x18_1) x38_2)).toNat) = some (.bool (rdOf false l0_0 (rd (rd_L1 l1 x18_1) x38_2)))) (ds := [10]) (mb_ 11 0) (by kernel_rfl) rfl rfl ⟨(blk_cell BK456.out 0).trans rfl, (blk_cell BK456.out 1).trans rfl, (blk_cell BK451.out 0).trans rfl, (blk_cell BK451.out 1).trans rfl, ((HB.out.cell (World.block_lt_of_cell? w _ hw462_0)).trans hw462_0)⟩ (fun hHeld => ?_); refine with_tabW impl_Camp_after.tab9 impl_Camp_after.bits9 (fun HT_ HW_ => ?_)
                 generalize wr.drew = w30 at HO_457000 BK451 BK452 BK456 HB GG29 HQ31 hf29_0 hx29_0 hx462_0 hHeld ⊢
                 refine pu_ 0 42 11 1 ?_
                 refine pu_ 2 44 11 5 ?_
                 refine pu_ 3 45 11 13 ?_
                 refine pu_ 5 47 11 45 ?_
                 refine tk_ 1 43 11 47 ?_ (hy := by rintro w' ⟨s0, s1, s2, s3, s4⟩; go_simp; with_reducible rfl)
                 refine tk_ 4 46 11 63 ?_ (hy := by rintro w' ⟨s0, s1, s2, s3, s4⟩; go_simp; with_reducible rfl)
                 refine pu_ 6 48 11 127 ?_
                 refine tk_ 7 49 11 255 ?_ (hy := by rintro w' ⟨s0, s1, s2, s3, s4⟩; go_simp; with_reducible rfl)
                 refine pu_ 8 50 11 511 ?_
                 refine pu_ 9 51 11 1023 ?_
                 refine last_ (i := 10) (N := none) (mb_ 11 2047) rfl rfl (one_of HT_.out (by kernel_rfl)) (by decide) (fun K hK => ?_)
                 refine skip_ (w1 := ?_) (by rfl) rfl ?_ ?_
                 rotate_left
                 ·
                  go_simp
                  rfl
                 refine hK.out _ _ ?_
                 clear hK K
                 refine done_ (done_of HT_.out (by kernel_rfl)) ?_
                 try go_wp2
                 go_roundg k2
                 case measure => have := HK1.out; have := HK2.out; omega
                 case rel => exact ⟨(wrap64 (x38_2 + 1)), (y463), (.slice (some ⟨go29, 0, none⟩) x457000_2.length co29), (ry_), H', ⟨by have := HK1.out; have := HK2.out; omega⟩, ⟨Kd.pR HQ31.out⟩, ⟨by (with_reducible repeat (first | refine kN_ ?_ _ | refine k1_ ?_ | refine ka_ ?_ _)); refine blk_far ?_ (by have h_ := Kd.R_ne HO_457000.out BK451.out (by decide); intro e_; exact h_ (by rw [e_]; rfl)) _; exact pk BK451.out⟩, ⟨by (with_reducible repeat (first | refine kN_ ?_ _ | refine k1_ ?_ | refine ka_ ?_ _)); refine blk_far ?_ (by have h_ := Kd.R_ne HO_457000.out BK452.out (by decide); intro e_; exact h_ (by rw [e_]; rfl)) _; exact pk BK452.out⟩, ⟨by (with_reducible repeat (first | refine kN_ ?_ _ | refine k1_ ?_ | refine ka_ ?_ _)); refine blk_far ?_ (by have h_ := Kd.R_ne HO_457000.out BK456.out (by decide); intro e_; exact h_ (by rw [e_]; rfl)) _; exact pk BK456.out⟩, ⟨by repeat (with_reducible first | exact HB.out | apply ba_ | apply bN_ | apply b1_ | refine below_set ?_ GB29.out | refine below_set ?_ (Aside0.out (by assumption)))⟩⟩
                ·
                 rw [if_neg c28] at H
                 exact absurd H (by simp)
               ·
                rw [if_neg c27] at H
                exact absurd H (by simp)
              ·
               rw [if_neg c26] at H
               exact absurd H (by simp)
             ·
              rw [if_neg c25] at H
              exact absurd H (by simp)
            ·
             rw [if_neg c24] at H
             exact absurd H (by simp)
           ·
            rw [if_neg c23] at H
            have c23b0 := decide_eq_false c23
            clear c23
            have H' := ak_ H
            clear H
            go_wp2
            go_roundg k2
            case measure => have := HK1.out; have := HK2.out; omega
            case rel => exact ⟨(wrap64 (x18_1 + 1)), (x457000_2), ((wrap64 (x457001_1 + (wrap64 (1 - (wrap64 (2 * t460))))))), (u457000), (ry_), H', ⟨by have := HK1.out; have := HK2.out; omega⟩, ⟨Kd.pR HO_457000.out⟩, ⟨pk BK451.out⟩, ⟨pk BK452.out⟩, ⟨pk BK456.out⟩, ⟨bl_⟩⟩
        ·
         rw [if_neg c19] at H
         exact absurd H (by simp)
       ·
        rw [if_neg c18] at H
        exact absurd H (by simp)
      ·
       rw [if_neg c17] at H
       exact absurd H (by simp)
     ·
      rw [if_neg c16] at H
      exact absurd H (by simp)
    ·
     rw [if_neg c15] at H
     exact absurd H (by simp)
   ·
    rw [if_neg c14] at H
    have c14b0 := decide_eq_false c14
    clear c14
    simp only [Option.some.injEq, Prod.mk.injEq] at H
    obtain ⟨rfl, rfl⟩ := H
    have hnb32 := NB456_451.out
    have hnc32 := NB451_456.out
    have hnb33 := NB456_452.out
    have hnc33 := NB452_456.out
    obtain ⟨hcz34_0, hcz34_1, hfz34_0, hfz34_1⟩ := c2_ BK456.out
    obtain ⟨Ao35, co35, eo35⟩ := Kd.R_slice HO_457000.out
    subst eo35
    have hnb36 := NB452_451.out
    have hnc36 := NB451_452.out
    obtain ⟨hcz37_0, hcz37_1, hfz37_0, hfz37_1⟩ := c2_ BK452.out
    go_wp2
    refine bodyPost_ret (results_cell_row rfl _ _ gb452 35 #[.slice Ao35 x457000_1.length co35, .int .i64 x457001_1] (0, 0) _ rfl (by (with_reducible repeat (first | refine kN_ ?_ _ | refine k1_ ?_ | refine ka_ ?_ _)); refine blk_put (cs := #[.slice Ao35 x457000_1.length co35, .int .i64 0]) ?_ 1 _ rfl; (with_reducible repeat (first | refine kN_ ?_ _ | refine k1_ ?_ | refine ka_ ?_ _)); refine blk_put (cs := #[.slice none 0 0, .int .i64 0]) ?_ 0 _ rfl; exact pk BK452.out) Try.underlying35 rfl (by kernel_rfl)) rfl ?_
    exact ⟨_, rx_, by (with_reducible repeat (first | apply Kd.R_alloc | apply Kd.R_drewN | apply Kd.R_drew)); exact Kd.R_mono (Kd.R_far (p := ⟨gb452, 1, none⟩) (Kd.R_far (p := ⟨gb452, 0, none⟩) (Kd.R_types HO_457000.out BK452.out (by decide)) (fun _ hk => hk.2) (.slice Ao35 x457000_1.length co35)) (fun _ hk => hk.2) (.int .i64 x457001_1)) (fun _ hk => trivial), bl_⟩
structure REdge where
 f0 : Int
 f1 : Int
 A : Option Addr
 n : Nat
 c : Nat
def REdge.enc (r : REdge) : List Value := [.int .i64 r.f0, .int .i64 r.f1, .slice r.A r.n r.c]
def zRE : REdge := ⟨0, 0, none, 0, 0⟩
def kre : Kd REdge := Kd.iso (Kd.raw 3) REdge.enc
theorem kre_M (W : World) (base : Nat) (ok : Nat → Prop) (r : REdge) : kre.M W base ok r [.int .i64 r.f0, .int .i64 r.f1, .slice r.A r.n r.c] := ⟨rfl, rfl, by
 intro u hu
 simp only [List.mem_cons, List.not_mem_nil, or_false] at hu
 rcases hu with rfl | rfl | rfl <;> rfl⟩
theorem kre_get {W : World} {base g n cap : Nat} {ok : Nat → Prop} {res : List REdge} (h : kre.R 90 W base ok (.slice (some ⟨g, 0, none⟩) n cap) res) (i : Nat) (hi : i < res.length) :
  W.cell? ⟨g, i * 3, none⟩ = some (.int .i64 res[i].f0) ∧ W.cell? ⟨g, i * 3 + 1, none⟩ = some (.int .i64 res[i].f1) ∧ W.cell? ⟨g, i * 3 + 2, none⟩ = some (.slice res[i].A res[i].n res[i].c) := by
 obtain ⟨ad, c, e, -, hK, hcell⟩ := Kd.C_get (Kd.R_reads' h).2.2 zRE (i : Int) (by omega) (by omega)
 obtain rfl := Option.some.inj e
 rw [Int.toNat_natCast, List.getD_eq_getElem?_getD, List.getElem?_eq_getElem hi] at hK
 obtain rfl := hK.1
 have hsz : kre.sz = 3 := rfl
 refine ⟨?_, ?_, ?_⟩
 ·have h_ := hcell 0 _ rfl
  rw [add_at, hsz, Nat.zero_add, Nat.add_zero, Int.toNat_natCast] at h_; exact h_
 ·have h_ := hcell 1 _ rfl
  rw [add_at, hsz, Nat.zero_add, Int.toNat_natCast] at h_; exact h_
 ·have h_ := hcell 2 _ rfl
  rw [add_at, hsz, Nat.zero_add, Int.toNat_natCast] at h_; exact h_
theorem kre_cc {W : World} {base g n cap : Nat} {ok : Nat → Prop} {res : List REdge} (h : kre.R 90 W base ok (.slice (some ⟨g, 0, none⟩) n cap) res) (i : Nat) (hi : i < res.length) :
  ∃ o : REdge, ∀ j u, ([.int .i64 o.f0, .int .i64 o.f1, .slice o.A o.n o.c] : List Value)[j]? = some u → W.cell? ⟨g, (i : Int).toNat * kre.sz + j, none⟩ = some u := by
 obtain ⟨h0, h1, h2⟩ := kre_get h i hi
 refine ⟨res[i], fun j u hu => ?_⟩
 have e : (i : Int).toNat * kre.sz = i * 3 := rfl
 rw [e]
 rcases j with _ | _ | _ | j
 ·obtain rfl := Option.some.inj hu; exact h0
 ·obtain rfl := Option.some.inj hu; exact h1
 ·obtain rfl := Option.some.inj hu; exact h2
 ·simp at hu
theorem gr_below {w W w' : World} {row : Option Nat} (h : w.grownBy W row) (hb : Below W.heap.size W w') : w.grownBy w' row :=
 ⟨hb.os.trans h.os, hb.tape.trans h.tape, hb.output.trans h.output, Nat.le_trans h.size hb.size, fun k hk hn => (hb.block k (Nat.lt_of_lt_of_le hk h.size)).trans (h.block k hk hn)⟩
theorem gr_gr {w W w' : World} {row : Option Nat} (h : w.grownBy W row) (hb : W.grownBy w' row) : w.grownBy w' row :=
 ⟨hb.os.trans h.os, hb.tape.trans h.tape, hb.output.trans h.output, Nat.le_trans h.size hb.size, fun k hk hn => (hb.block k (Nat.lt_of_lt_of_le hk h.size) hn).trans (h.block k hk hn)⟩
def leadR (W : World) (base : Nat) (okl : Nat → Prop) (f : Nat → Nat) (z : S90 × Nat) (r : REdge) : Prop := r.f0 = z.1.f0 ∧ r.f1 = z.1.f1 ∧ (Kd.slice 3 (Kd.int .i64)).R 22 W base (fun k => okl k ∧ f k = z.2) (.slice r.A r.n r.c) z.1.f2
def LeadT (W : World) (base : Nat) (okl : Nat → Prop) (f : Nat → Nat) : List (S90 × Nat) → List REdge → Prop
 | [], [] => True
 | z :: zs, r :: rs => leadR W base okl f z r ∧ LeadT W base okl f zs rs
 | _, _ => False
section
variable {W W' : World} {base : Nat} {okl : Nat → Prop} {f : Nat → Nat}
theorem LeadT.len : ∀ {zs : List (S90 × Nat)} {rs : List REdge}, LeadT W base okl f zs rs → zs.length = rs.length
 | [], [], _ => rfl
 | _ :: _, _ :: _, h => congrArg (· + 1) (LeadT.len h.2)
 | [], _ :: _, h => h.elim
 | _ :: _, [], h => h.elim
theorem LeadT.at_ : ∀ {zs : List (S90 × Nat)} {rs : List REdge}, LeadT W base okl f zs rs → ∀ (j : Nat) (z : S90 × Nat) (r : REdge), zs[j]? = some z → rs[j]? = some r → leadR W base okl f z r
 | [], _, _, _, _, _, h, _ => by simp at h
 | _ :: _, [], h, _, _, _, _, _ => h.elim
 | _ :: _, _ :: _, h, 0, z, r, hz, hr => by obtain rfl := Option.some.inj hz; obtain rfl := Option.some.inj hr; exact h.1
 | _ :: _, _ :: _, h, j + 1, z, r, hz, hr => LeadT.at_ h.2 j z r hz hr
theorem LeadT.of : ∀ {zs : List (S90 × Nat)} {rs : List REdge}, zs.length = rs.length → (∀ (j : Nat) (z : S90 × Nat) (r : REdge), zs[j]? = some z → rs[j]? = some r → leadR W base okl f z r) → LeadT W base okl f zs rs
 | [], [], _, _ => trivial
 | _ :: _, _ :: _, hl, h => ⟨h 0 _ _ rfl rfl, LeadT.of (Nat.succ.inj hl) (fun j z r hz hr => h (j + 1) z r hz hr)⟩
 | [], _ :: _, hl, _ => by simp at hl
 | _ :: _, [], hl, _ => by simp at hl
theorem LeadT.move (hm : ∀ k, okl k → k < W.heap.size → W'.heap[k]? = W.heap[k]?) : ∀ {zs : List (S90 × Nat)} {rs : List REdge}, LeadT W base okl f zs rs → LeadT W' base okl f zs rs
 | [], [], _ => trivial
 | _ :: _, _ :: _, h => ⟨⟨h.1.1, h.1.2.1, Kd.R_step h.1.2.2 (fun k hk hl => hm k hk.1 hl)⟩, LeadT.move hm h.2⟩
 | [], _ :: _, h => h.elim
 | _ :: _, [], h => h.elim
theorem LeadT.filter (q : Int → Int → Bool) : ∀ {zs : List (S90 × Nat)} {rs : List REdge}, LeadT W base okl f zs rs → LeadT W base okl f (zs.filter fun z => q z.1.f0 z.1.f1) (rs.filter fun r => q r.f0 r.f1)
 | [], [], _ => trivial
 | z :: zs, r :: rs, h => by
  have ih := LeadT.filter q h.2
  rw [List.filter_cons, List.filter_cons, h.1.1, h.1.2.1]
  split
  ·exact ⟨h.1, ih⟩
  ·exact ih
 | [], _ :: _, h => h.elim
 | _ :: _, [], h => h.elim
theorem LeadT.all {p : Int → Int → Prop} : ∀ {zs : List (S90 × Nat)} {rs : List REdge}, LeadT W base okl f zs rs → (∀ z ∈ zs, p z.1.f0 z.1.f1) → ∀ r ∈ rs, p r.f0 r.f1
 | [], [], _, _ => by simp
 | z :: zs, r :: rs, h, hp => by
  intro r' hr
  rcases List.mem_cons.1 hr with rfl | hr
  ·rw [h.1.1, h.1.2.1]; exact hp z List.mem_cons_self
  ·exact LeadT.all h.2 (fun z hz => hp z (List.mem_cons_of_mem _ hz)) r' hr
 | [], _ :: _, h, _ => h.elim
 | _ :: _, [], h, _ => h.elim
end
theorem lead_list {α : Type} {p : Nat → α → Prop} : ∀ (n : Nat), (∀ i, i < n → ∃ x, p i x) → ∃ l : List α, l.length = n ∧ ∀ i x, l[i]? = some x → p i x
 | 0, _ => ⟨[], rfl, fun i x hx => by simp at hx⟩
 | n + 1, h => by
  obtain ⟨l, hl, hp⟩ := lead_list n (fun i hi => h i (Nat.lt_succ_of_lt hi))
  obtain ⟨x, hx⟩ := h n (Nat.lt_succ_self n)
  refine ⟨l ++ [x], by rw [List.length_append, hl]; rfl, fun i y hy => ?_⟩
  rcases Nat.lt_or_ge i l.length with hi | hi
  ·rw [List.getElem?_append_left hi] at hy
   exact hp i y hy
  ·have hi' := (List.getElem?_eq_some_iff.1 hy).1
   rw [List.length_append, List.length_singleton] at hi'
   have e : i = l.length := by omega
   subst e
   rw [List.getElem?_append_right (Nat.le_refl _), Nat.sub_self] at hy
   obtain rfl : x = y := by simpa using hy
   rw [hl]; exact hx
theorem lead_open {W : World} {base : Nat} {ok : Nat → Prop} {v : Value} {es : List S90} (h : Kd.S k90 90 W base ok v es) :
  ∃ f res, kre.R 90 W base (fun k => some k = v.ownBlock) v res ∧ LeadT W base (fun k => ok k ∧ some k ≠ v.ownBlock) f es.zipIdx res := by
 obtain ⟨f, hown, inner, ho, hl, hr⟩ := h
 obtain ⟨res, hres, hp⟩ := lead_list (p := fun i (r : REdge) => ∃ z, es.zipIdx[i]? = some z ∧ (inner.drop (i * 3)).take 3 = r.enc ∧ leadR W base (fun k => ok k ∧ some k ≠ v.ownBlock) f z r) es.zipIdx.length (fun i hi => by
  obtain ⟨z, hz⟩ : ∃ z, es.zipIdx[i]? = some z := ⟨_, List.getElem?_eq_getElem hi⟩
  have hM := hr i z hz
  obtain ⟨v2, hc, hR⟩ := k90_openM (show k90.M W base (fun k => (ok k ∧ some k ≠ v.ownBlock) ∧ f k = z.2) z.1 ((inner.drop (i * 3)).take 3) from hM)
  obtain ⟨A, c, rfl⟩ := Kd.R_slice hR
  exact ⟨⟨z.1.f0, z.1.f1, A, z.1.f2.length, c⟩, z, hz, hc, rfl, rfl, hR⟩)
 refine ⟨f, res, ⟨fun k hk => hk.symm, inner, by rw [hres]; exact ho, ?_, fun j r hj => ?_⟩, LeadT.of hres.symm (fun j z r hz hr => ?_)⟩
 ·rw [hres]; exact hl
 ·obtain ⟨z, hz, hc, -⟩ := hp j r hj
  have hc' : (inner.drop (j * kre.sz)).take kre.sz = r.enc := hc
  rw [hc']
  exact kre_M _ _ _ r
 ·obtain ⟨z', hz', -, hL⟩ := hp j r hr
  rw [hz] at hz'
  obtain rfl := Option.some.inj hz'
  exact hL
theorem lead_shut {W : World} {base : Nat} {okr okl : Nat → Prop} {f : Nat → Nat} {v : Value} {zs : List (S90 × Nat)} {res : List REdge} (hR : kre.R 90 W base okr v res) (hL : LeadT W base okl f zs res) (hnd : (zs.map (·.2)).Nodup) (hne : ∀ k, okl k → some k ≠ v.ownBlock) :
  Kd.S k90 90 W base (fun _ => True) v (zs.map (·.1)) := by
 obtain ⟨hown, inner, ho, hl, hr⟩ := hR
 have hlen := hL.len
 refine ⟨fun k => (zs.map (·.2)).idxOf (f k), fun _ _ => trivial, inner, by rw [List.length_zipIdx, List.length_map, hlen]; exact ho, by rw [List.length_zipIdx, List.length_map, hlen]; exact hl, fun j z hz => ?_⟩
 rw [List.getElem?_zipIdx, Nat.zero_add] at hz
 obtain ⟨x, hx, rfl⟩ := Option.map_eq_some_iff.1 hz
 rw [List.getElem?_map] at hx
 obtain ⟨z0, hz0, rfl⟩ := Option.map_eq_some_iff.1 hx
 have hj : j < zs.length := (List.getElem?_eq_some_iff.1 hz0).1
 obtain ⟨r, hr0⟩ : ∃ r, res[j]? = some r := ⟨_, List.getElem?_eq_getElem (by rw [← hlen]; exact hj)⟩
 have hc := (hr j r hr0).1
 obtain ⟨e0, e1, hR2⟩ := hL.at_ j z0 r hz0 hr0
 have hM := k90_mkM W base (fun k => okl k ∧ f k = z0.2) z0.1 hR2
 show k90.M W base (fun k => (True ∧ some k ≠ v.ownBlock) ∧ (zs.map (·.2)).idxOf (f k) = j) z0.1 ((inner.drop (j * 3)).take 3)
 have hc' : (inner.drop (j * 3)).take 3 = [.int .i64 z0.1.f0, .int .i64 z0.1.f1, .slice r.A r.n r.c] := by rw [← e0, ← e1]; exact hc
 rw [hc']
 refine Kd.M_mono _ (fun k hk => ⟨⟨trivial, hne k hk.1⟩, ?_⟩) hM
 rw [hk.2]
 have hjm : j < (zs.map (·.2)).length := by rw [List.length_map]; exact hj
 have e2 : z0.2 = (zs.map (·.2))[j] := by rw [List.getElem_map]; congr 1; rw [List.getElem?_eq_getElem hj] at hz0; exact (Option.some.inj hz0).symm
 rw [e2]
 exact hnd.idxOf_getElem j hjm
theorem ls_lead {α : Type} {d : Kd α} {eI e g n cap base : Nat} {ok : Nat → Prop} {W : World} {ls : List (List α)} {cl : Array Value} (h : Kd.S (Kd.slice eI d) e W base ok (.slice (some ⟨g, 0, none⟩) n cap) ls) (hb : W.heap[g]? = some (.cells cl e (0, 0))) :
  ∃ f : Nat → Nat, ∀ (j : Nat) (l : List α), ls[j]? = some l → ∃ u : Value, cl[j]? = some u ∧ d.R eI W base (fun k => (ok k ∧ k ≠ g) ∧ f k = j) u l := by
 obtain ⟨f, hown, inner, ho, hl, hr⟩ := h
 refine ⟨f, fun j l hj => ?_⟩
 obtain ⟨v, hc, hR⟩ := hr j (l, j) (Kd.zip_at hj)
 rcases ho.2 with ⟨hv, _⟩ | ⟨g', cap', cur, hv, -, hh, -, -, -, ht⟩
 ·cases hv
 cases hv
 rw [hb] at hh
 injection hh with hh
 injection hh with hh _
 subst hh
 have hjl := (List.getElem?_eq_some_iff.1 hj).1
 have hsz : (Kd.tag f (Kd.slice eI d)).sz = 1 := rfl
 rw [hsz] at hc ht
 refine ⟨v, ?_, Kd.R_mono hR (fun k hk => ⟨⟨hk.1.1, fun e_ => hk.1.2 (by rw [e_]; rfl)⟩, hk.2⟩)⟩
 have h2 : inner[j]? = some v := by
  have h3 := congrArg (fun l : List Value => l[0]?) hc
  simp only [List.getElem?_take, List.getElem?_drop, Nat.mul_one, Nat.add_zero] at h3
  simpa using h3
 rw [← ht, List.getElem?_take] at h2
 split at h2
 ·rw [Array.getElem?_toList] at h2
  exact h2
 ·exact absurd h2 (by simp)
def edRel (cl : Array Value) (ls : List (List (List Int))) (acc : List S90) (res : List REdge) : Prop := acc.length = res.length ∧ ∀ (i : Nat) (a : S90) (r : REdge), acc[i]? = some a → res[i]? = some r → r.f0 = a.f0 ∧ r.f1 = a.f1 ∧ ls[i]? = some a.f2 ∧ cl[i]? = some (.slice r.A r.n r.c)
theorem edRel.snoc {cl : Array Value} {ls : List (List (List Int))} {acc : List S90} {res : List REdge} (h : edRel cl ls acc res) {j : Nat} (hj : acc.length = j) {q c : Int} {l : (List (List Int))} {A : Option Addr} {n cc : Nat} (hl : ls[j]? = some l) (hc : cl[j]? = some (.slice A n cc)) : edRel cl ls (acc ++ [⟨q, c, l⟩]) (res ++ [⟨q, c, A, n, cc⟩]) := by
 refine ⟨by rw [List.length_append, List.length_append, h.1]; rfl, fun i a r ha hr => ?_⟩
 rcases Nat.lt_or_ge i acc.length with hi | hi
 ·rw [List.getElem?_append_left hi] at ha
  rw [List.getElem?_append_left (by rw [← h.1]; exact hi)] at hr
  exact h.2 i a r ha hr
 ·have hi' := (List.getElem?_eq_some_iff.1 ha).1
  rw [List.length_append, List.length_singleton] at hi'
  have e : i = acc.length := by omega
  subst e
  rw [List.getElem?_append_right (Nat.le_refl _), Nat.sub_self] at ha
  rw [h.1, List.getElem?_append_right (Nat.le_refl _), Nat.sub_self] at hr
  obtain rfl := Option.some.inj ha
  obtain rfl := Option.some.inj hr
  rw [hj]
  exact ⟨rfl, rfl, hl, hc⟩
theorem edRel.shut {W : World} {base g n cap : Nat} {ok okr : Nat → Prop} {ls : List (List (List Int))} {cl : Array Value} {v : Value} {es : List S90} {res : List REdge} (h : edRel cl ls es res) (hls : Kd.S (Kd.slice 22 (Kd.slice 3 (Kd.int .i64))) 57 W base ok (.slice (some ⟨g, 0, none⟩) n cap) ls) (hb : W.heap[g]? = some (.cells cl 57 (0, 0)))
  (hR : kre.R 90 W base okr v res) (hne : 90 ∉ 22 :: (Kd.slice 3 (Kd.int .i64)).E) : Kd.S k90 90 W base (fun _ => True) v es := by
 obtain ⟨f, hf⟩ := ls_lead hls hb
 have hL : LeadT W base (fun k => some k ≠ v.ownBlock) f es.zipIdx res := LeadT.of (by rw [List.length_zipIdx]; exact h.1) (fun j z r hz hr => by
  rw [List.getElem?_zipIdx, Nat.zero_add] at hz
  obtain ⟨a, ha, rfl⟩ := Option.map_eq_some_iff.1 hz
  obtain ⟨e0, e1, hl, hc⟩ := h.2 j a r ha hr
  obtain ⟨u, hu, hR2⟩ := hf j a.f2 hl
  rw [hc] at hu
  obtain rfl := Option.some.inj hu
  refine ⟨e0, e1, Kd.R_mono (Kd.R_bound hR2) (fun k hk => ⟨fun e_ => ?_, hk.1.2⟩)⟩
  obtain ⟨_, _, _, q, hq, cells, hcq⟩ := hk
  obtain ⟨cells2, hc2⟩ := Kd.R_typed hR k e_.symm
  rw [hcq] at hc2
  injection hc2 with hc2
  injection hc2 with _ hc2
  exact hne (hc2 ▸ hq))
 have h2 := lead_shut hR hL (by rw [List.zipIdx_map_snd]; exact List.nodup_range') (fun k hk => hk)
 rw [List.zipIdx_map_fst] at h2
 exact h2
theorem fr_lendG {α : Type} {d : Kd α} {e e' g base n cap : Nat} {ok : Nat → Prop} {W : World} {xs : List (List α)} (h : Kd.S (Kd.slice e d) e' W base ok (.slice (some ⟨g, 0, none⟩) n cap) xs) (i : Int) (h0 : 0 ≤ i) (h1 : i < n) :
  ∃ (v : Value) (oki : Nat → Prop), W.cell? ⟨g, i.toNat, none⟩ = some v ∧ d.R e W base oki v (xs.getD i.toNat []) := by
 obtain ⟨oki, c, -, hM, hcc, -, -, -⟩ := Kd.S_elem h [] i h0 h1
 obtain ⟨v, rfl, hR⟩ := hM
 have h2 := hcc 0 v rfl
 rw [show (Kd.slice e d).sz = 1 from rfl, Nat.mul_one, Nat.add_zero] at h2
 exact ⟨v, oki, h2, hR⟩
def nightC (k : Nat) (ts : List Int) (se tq : Int) (tm : Bool) (r : List (List Int)) : Option Int := if tm = true then impl_Night_roundTime.f k ts se tq r else some 1
def nightEd (k : Nat) (ts : List Int) (se tq : Int) (tm : Bool) (ov : List Bool) (t : Int) : List (List (List Int)) → List S90 → Option (List S90)
 | [], acc => some acc
 | l :: ls, acc => (nightC k ts se tq tm l).bind fun c => (impl_Camp_after.f k ov t l).bind fun st => (impl_Camp_code.f k st.1 st.2).bind fun q => if acc.length < 1000000 then nightEd k ts se tq tm ov t ls (acc ++ [⟨q, c, l⟩]) else none
def nightG (k : Nat) (ts : List Int) (se tq : Int) (tm : Bool) (s : Int) : Option (List S90) :=
 (impl_Night_camp.f k ts se tq s).bind fun st => (impl_Night_rounds.f k ts se tq st.1 st.2).bind fun ls => if ls.length < 1000000 then nightEd k ts se tq tm st.1 st.2 ls [] else none
theorem impl_Night_graph.calls_1 (k : Nat) (Bc Bl : Nat) (At : Option Addr) (ct : Nat) (ts : List Int) (se tq : Int) (tm : Bool) (s : Int) (es : List S90) (w : World)
  (hBc : w.heap[Bc]? = some (.cells #[.slice At ts.length ct, .int .i64 se, .int .i64 tq] 33 (0, 0))) (hBl : w.heap[Bl]? = some (.cells #[.bool tm] 4 (0, 0)))
  (ht : Kd.C (Kd.int .i64) w At ts.length ts) (hct : ts.length ≤ ct) (h : nightG k ts se tq tm s = some es) :
  Calls Try.prog 76 #[.int .i64 s, .pointer (some ⟨Bc, 0, none⟩), .pointer (some ⟨Bl, 0, none⟩)] w fun e w' => ∃ v : Value, e = .returned v ∧ Kd.S k90 90 w' w.heap.size (fun _ => True) v es ∧ Below w.heap.size w w' := by
 have hu := Try.underlying33
 have hu2 := Try.underlying90
 have hu3 := Try.underlying35
 unfold nightG at h
 obtain ⟨⟨ov, t⟩, h1, h⟩ := Option.bind_eq_some_iff.mp h
 obtain ⟨ls, h2, h⟩ := Option.bind_eq_some_iff.mp h
 by_cases hls : ls.length < 1000000
 rotate_left
 ·rw [if_neg hls] at h; exact absurd h (by simp)
 rw [if_pos hls] at h
 have A1 := ak_ fun (W : World) (hb : Below w.heap.size w W) => impl_Night_camp.calls k At ct ts se tq s ov t W (Kd.C_below ht hb) hct h1
 have A2 := ak_ fun (W : World) (hb : Below w.heap.size w W) (Ao : Option Addr) (co : Nat) (ho : Kd.C Kd.bool W Ao ov.length ov) (hco : ov.length ≤ co) => impl_Night_rounds.calls k At ct ts se tq Ao co ov t ls W (Kd.C_below ht hb) hct ho hco h2
 have HT := ak_ ht
 have HCT := ak_ hct
 have HLS := ak_ hls
 have H := ak_ h
 have HB := ak_ (Below.refl w.heap.size w)
 have hl0 := blk_cell hBl 0
 have hc0 := blk_cell hBc 0
 have hc1 := blk_cell hBc 1
 have hc2 := blk_cell hBc 2
 simp at hl0
 simp at hc0
 simp at hc1
 simp at hc2
 have BC := ak_ hBc
 have BL := ak_ hBl
 clear h h1 h2 hls ht hct hBc hBl
 go_enter Try.func76, Try.ntmps76
 go_upto_region 2 with (first | (go_at_call 77; refine (A1.out _ (bb_ HB.out)).mono ?_; rintro e w13 ⟨v13, rfl, ho, hb⟩; obtain ⟨Ao, co, rfl⟩ := Kd.R_slice ho; have OV := ak_ (Kd.R_lower ho (bz_ (bb_ HB.out))); clear hl0 hc0 hc1 hc2; replace BC := ak_ (blk_below (pk BC.out) hb); replace BL := ak_ (blk_below (pk BL.out) hb); replace HB := ak_ (bs_ (bb_ HB.out) hb); clear hb ho A1))
 have hkr := Kd.R_alloc (Kd.S_R (gp_lit0 kre 90 w13 (bz_ HB.out))) (.cells #[.slice Ao ov.length co, .int .i64 t] 35)
 have hk6 := gp_new2 w13 (.cells #[] 90) (.cells #[.slice Ao ov.length co, .int .i64 t] 35)
 have hb5 := (ba_ (ba_ (Below.refl w13.heap.size w13) (.cells #[] 90)) (.cells #[.slice Ao ov.length co, .int .i64 t] 35))
 generalize (w13.alloc (.cells #[] 90)).alloc (.cells #[.slice Ao ov.length co, .int .i64 t] 35) = w5 at hkr hk6 hb5 ⊢
 generalize Value.slice (some ⟨w13.heap.size, 0, none⟩) 0 0 = v5 at hkr ⊢
 generalize w13.heap.size + 1 = gb6 at hk6 ⊢
 replace BC := ak_ (blk_below BC.out hb5); replace BL := ak_ (blk_below BL.out hb5); replace HB := ak_ (bs_ HB.out hb5); replace OV := ak_ (Kd.R_below OV.out hb5); clear hb5
 have HR := ak_ hkr
 have BK6 := ak_ hk6
 have hq0 := blk_cell BC.out 0
 have hq1 := blk_cell BC.out 1
 have hq2 := blk_cell BC.out 2
 have hq3 := blk_cell BK6.out 0
 have hq4 := blk_cell BK6.out 1
 simp at hq0
 simp at hq1
 simp at hq2
 simp at hq3
 simp at hq4
 clear hkr hk6
 go_wp2_with (first | (go_at_call 42; refine (A2.out _ (bb_ HB.out) Ao co (Kd.R_reads' OV.out).2.2 (Kd.R_reads' OV.out).2.1).mono ?_; rintro e w17 ⟨v17, rfl, ho, hb⟩; obtain ⟨Al, cl_, rfl⟩ := Kd.S_slice ho; have HLR := ak_ (Kd.S_lower (sep_S ho) (bz_ (bb_ HB.out))); clear hq0 hq1 hq2 hq3 hq4; replace BC := ak_ (blk_below (pk BC.out) hb); replace BL := ak_ (blk_below (pk BL.out) hb); replace BK6 := ak_ (blk_below (pk BK6.out) hb); replace HB := ak_ (bs_ (bb_ HB.out) hb); replace OV := ak_ (Kd.R_below (Kd.pR OV.out) hb); replace HR := ak_ (Kd.R_below (Kd.pR HR.out) hb); clear hb ho))
 obtain ⟨gl, cl, hAl⟩ : ∃ (gl : Nat) (cl : Array Value), ls.length = 0 ∨ (Al = some ⟨gl, 0, none⟩ ∧ w17.heap[gl]? = some (.cells cl 57 (0, 0))) := by
  rcases Nat.eq_zero_or_pos ls.length with h0 | h0
  ·exact ⟨0, #[], .inl h0⟩
  ·obtain ⟨g, cap, e, -, -, cl, hc⟩ := Kd.S_form HLR.out h0
   injection e with e1 _ e3
   exact ⟨g, cl, .inr ⟨e1, hc⟩⟩
 have HAL := ak_ hAl
 have HER := ak_ (show edRel cl ls [] [] from ⟨rfl, fun i a r h _ => by simp at h⟩)
 clear hAl
 go_loopg [6, 18] ls.length (fun gg v6 v18 wr => ∃ (j : Nat) (acc : List S90) (res : List REdge), v18 = .int .i64 (j : Int) ∧ Aside0 (j ≤ ls.length ∧ ls.length - j ≤ gg ∧ acc.length = j) ∧ Aside0 (nightEd k ts se tq tm ov t (ls.drop j) acc = some es) ∧ Aside0 (edRel cl ls acc res) ∧ Aside0 (kre.R 90 wr w.heap.size (fun _ => True) v6 res) ∧ Aside0 (Kd.S (Kd.slice 22 (Kd.slice 3 (Kd.int .i64))) 57 wr w.heap.size (fun _ => True) (.slice Al ls.length cl_) ls) ∧ Aside0 (ls.length = 0 ∨ (Al = some ⟨gl, 0, none⟩ ∧ wr.heap[gl]? = some (.cells cl 57 (0, 0)))) ∧ Aside0 (wr.heap[gb6]? = some (.cells #[.slice Ao ov.length co, .int .i64 t] 35 (0, 0))) ∧ Aside0 (Kd.R Kd.bool 4 wr w.heap.size (fun _ => True) (.slice Ao ov.length co) ov) ∧ Aside0 (wr.heap[Bl]? = some (.cells #[.bool tm] 4 (0, 0))) ∧ Aside0 (wr.heap[Bc]? = some (.cells #[.slice At ts.length ct, .int .i64 se, .int .i64 tq] 33 (0, 0))) ∧ Aside0 (Below w.heap.size w wr))
 case atStart => exact ⟨0, [], [], rfl, ⟨⟨Nat.zero_le _, Nat.le_refl _, rfl⟩⟩, H, HER, ⟨Kd.pR HR.out⟩, ⟨Kd.pS HLR.out⟩, HAL, ⟨pk BK6.out⟩, ⟨Kd.pR OV.out⟩, ⟨pk BL.out⟩, ⟨pk BC.out⟩, ⟨(bb_ HB.out)⟩⟩
 case round =>
  clear H HER HR HLR HAL BK6 OV BL HB BC
  obtain ⟨j, acc, res, rfl, HJ, H, HER, HR, HLR, HAL, BK6, OV, BL, BC, HB⟩ := hrel
  by_cases hj : j < ls.length
  ·have j1 : decide ((j : Int) < (ls.length : Int)) = true := decide_eq_true (by omega)
   have j1n : decide (j < ls.length) = true := decide_eq_true hj
   have j0p : ((0 : Int) ≤ (j : Int)) = True := eq_true (by omega)
   have j1p : ((j : Int) < (ls.length : Int)) = True := eq_true (by omega)
   rcases HAL.out with h0 | ⟨rfl, hbl⟩
   ·exact absurd h0 (by omega)
   obtain ⟨vi, oki, hcell, hRi⟩ := fr_lendG HLR.out (j : Int) (by omega) (by omega)
   rw [Int.toNat_natCast] at hcell hRi
   obtain ⟨Aj, cj, rfl⟩ := Kd.R_slice hRi
   have hcl : cl[j]? = some (.slice Aj (ls.getD j []).length cj) := by rw [← blk_cell hbl]; exact hcell
   obtain ⟨l, hl⟩ : ∃ l, l = ls.getD j [] := ⟨_, rfl⟩
   rw [← hl] at hcell hRi hcl
   have hlj : ls[j]? = some l := by rw [hl, List.getD_eq_getElem?_getD, List.getElem?_eq_getElem hj]; rfl
   have h := H.out
   rw [List.drop_eq_getElem_cons hj, show ls[j] = l from by rw [List.getElem?_eq_getElem hj] at hlj; exact Option.some.inj hlj] at h
   simp only [nightEd] at h
   obtain ⟨c, h5, h⟩ := Option.bind_eq_some_iff.mp h
   obtain ⟨⟨mo, mt⟩, h3, h⟩ := Option.bind_eq_some_iff.mp h
   obtain ⟨q, h4, h⟩ := Option.bind_eq_some_iff.mp h
   by_cases hac : acc.length < 1000000
   rotate_left
   ·rw [if_neg hac] at h; exact absurd h (by simp)
   rw [if_pos hac] at h
   have A3 := ak_ fun (W : World) (hb : Below wr.heap.size wr W) => impl_Camp_after.calls k Ao co ov t Aj cj l mo mt W (Kd.C_below (Kd.R_reads' OV.out).2.2 hb) (Kd.R_reads' OV.out).2.1 (Kd.C_below (Kd.R_reads' hRi).2.2 hb) (Kd.R_reads' hRi).2.1 h3
   have A4 := ak_ fun (W : World) (Am : Option Addr) (cm : Nat) (hm : Kd.C Kd.bool W Am mo.length mo) (hcm : mo.length ≤ cm) => impl_Camp_code.calls k Am cm mo mt q W hm hcm h4
   have HBR := ak_ (Below.refl wr.heap.size wr)
   have HER2 := ak_ (HER.out.snoc HJ.out.2.2 (q := q) (c := c) hlj hcl)
   have H2 := ak_ h
   have HACC := ak_ (And.intro hac HER.out.1)
   have BLS := ak_ hbl
   have HJJ := ak_ hj
   have hw19 : IntKind.i64.wrap ((j : Int) + 1) = ((j + 1 : Nat) : Int) := by have := HLS.out; rw [IntWalk.i64_in _ ⟨by omega, by omega⟩]; omega
   have hz0 := blk_cell BK6.out 0
   have hz1 := blk_cell BK6.out 1
   have hz2 := blk_cell BL.out 0
   simp at hz0
   simp at hz1
   simp at hz2
   have A5 := ak_ fun (hq : tm = true) (W : World) (hb : Below w.heap.size w W) (hb2 : Below wr.heap.size wr W) => impl_Night_roundTime.calls k At ct ts se tq Aj cj l c W (Kd.C_below HT.out hb) HCT.out (Kd.C_below (Kd.R_reads' hRi).2.2 hb2) (Kd.R_reads' hRi).2.1 (by unfold nightC at h5; rw [if_pos hq] at h5; exact h5)
   have HC1 := ak_ (show tm = false → c = 1 from fun hq => by unfold nightC at h5; rw [hq, if_neg (by decide)] at h5; exact (Option.some.inj h5).symm)
   have hn0 := blk_cell BC.out 0
   have hn1 := blk_cell BC.out 1
   have hn2 := blk_cell BC.out 2
   simp at hn0
   simp at hn1
   simp at hn2
   clear h h3 h4 h5 H hl hlj hcl hRi hbl hac HER HAL hj
   cases tm with
   | false =>
    obtain rfl : c = 1 := HC1.out rfl
    clear A5 HC1
    go_upto_region 8 with (fail)
    go_wp2_with (first | (go_at_call 79; refine (A3.out _ (by repeat (first | (with_reducible first | exact HBR.out | apply ba_ | apply bN_ | apply b1_) | exact HBR.out))).mono ?_; rintro e w30 ⟨v30, rfl, ho, hb⟩; obtain ⟨Am, cm, rfl⟩ := Kd.R_slice ho; have OM := ak_ ho; clear A3; replace BK6 := ak_ (blk_below BK6.out hb); replace BL := ak_ (blk_below BL.out hb); replace BLS := ak_ (blk_below BLS.out hb); replace BC := ak_ (blk_below BC.out hb); replace HR := ak_ (Kd.R_below (Kd.pR HR.out) hb); replace HLR := ak_ (Kd.S_below (Kd.pS HLR.out) hb); replace OV := ak_ (Kd.R_below (Kd.pR OV.out) hb); replace HB := ak_ (bs_ (bb_ HB.out) hb); clear hb ho HBR) | (go_at_call 60; refine (A4.out _ Am cm (Kd.R_reads' OM.out).2.2 (Kd.R_reads' OM.out).2.1).mono ?_; rintro e w31 ⟨rfl, hb⟩; clear A4 OM; replace BK6 := ak_ (blk_below BK6.out hb); replace BL := ak_ (blk_below BL.out hb); replace BLS := ak_ (blk_below BLS.out hb); replace BC := ak_ (blk_below BC.out hb); replace HR := ak_ (Kd.R_below (Kd.pR HR.out) hb); replace HLR := ak_ (Kd.S_below (Kd.pS HLR.out) hb); replace OV := ak_ (Kd.R_below (Kd.pR OV.out) hb); replace HB := ak_ (bs_ (bb_ HB.out) hb); clear hb) | ((with_reducible refine gate_builtin (b := .append) (xs := #[.tmp 26, .tmp 34]) rfl ?_); at_builtin; refine Kd.R_append kre (w0 := w) w.heap.size rfl (.tmp 26) (.tmp 34) 85 90 (.agg #[(.int .i64 0), (.int .i64 0), (.slice none 0 0)]) 40 rfl Try.underlying85 info90 rfl (by decide) (by omega) _ res ⟨q, 1, Aj, l.length, cj⟩ [.int .i64 q, .int .i64 1, .slice Aj l.length cj] (fun _ => True) (fun _ => False) rfl rfl ?aP (fun _ hk => hk.elim) (fun _ _ => trivial) ?aO ?aB ?aS ?aL ?_; (case aP => exact kre_M _ _ _ ⟨q, 1, Aj, l.length, cj⟩); (case aO => exact Kd.pR HR.out); (case aB => exact (bb_ HB.out)); (case aS => exact bz_ (bb_ HB.out)); (case aL => have := HACC.out; omega); intro v36 w36 ho hb hg hat; replace BK6 := ak_ (blk_grown (pk BK6.out) hg (Kd.R_ne HR.out BK6.out (by decide))); replace BL := ak_ (blk_grown (pk BL.out) hg (Kd.R_ne HR.out BL.out (by decide))); replace BLS := ak_ (blk_grown (pk BLS.out) hg (Kd.R_ne HR.out BLS.out (by decide))); replace BC := ak_ (blk_grown (pk BC.out) hg (Kd.R_ne HR.out BC.out (by decide))); replace HLR := ak_ (Kd.S_over' (Kd.pS HLR.out) (Kd.R_typed HR.out) (by decide) hg); replace OV := ak_ (Kd.R_over' (Kd.pR OV.out) (Kd.R_typed HR.out) (by decide) hg); replace HB := ak_ (hb); replace HR := ak_ (ho); clear hg hat hb ho))
    go_roundg (ls.length - (j + 1))
    case measure => have := HJ.out; have := HJJ.out; omega
    case rel => exact ⟨j + 1, _, _, (by first | rfl | (simp; done)), ⟨⟨by have := HJJ.out; omega, Nat.le_refl _, by rw [List.length_append, HJ.out.2.2]; rfl⟩⟩, H2, HER2, ⟨Kd.pR HR.out⟩, ⟨Kd.pS HLR.out⟩, ⟨by first | exact .inr ⟨rfl, pk BLS.out⟩ | exact .inr ⟨trivial, pk BLS.out⟩⟩, ⟨pk BK6.out⟩, ⟨Kd.pR OV.out⟩, ⟨pk BL.out⟩, ⟨pk BC.out⟩, ⟨(bb_ HB.out)⟩⟩
   | true =>
    clear HC1
    go_upto_region 8 with (first | (go_at_call 78; refine (A5.out rfl _ (bb_ HB.out) (by repeat (first | (with_reducible first | exact HBR.out | apply ba_ | apply bN_ | apply b1_) | exact HBR.out))).mono ?_; rintro e w29 ⟨rfl, hb⟩; clear A5 hn0 hn1 hn2 hz0 hz1 hz2; replace BK6 := ak_ (blk_below (pk BK6.out) hb); replace BL := ak_ (blk_below (pk BL.out) hb); replace BLS := ak_ (blk_below (pk BLS.out) hb); replace BC := ak_ (blk_below (pk BC.out) hb); replace HR := ak_ (Kd.R_below (Kd.pR HR.out) hb); replace HLR := ak_ (Kd.S_below (Kd.pS HLR.out) hb); replace OV := ak_ (Kd.R_below (Kd.pR OV.out) hb); replace HBR := ak_ (bs_ (by repeat (first | (with_reducible first | exact HBR.out | apply ba_ | apply bN_ | apply b1_) | exact HBR.out)) hb); replace HB := ak_ (bs_ (bb_ HB.out) hb); clear hb; have hz0 := blk_cell BK6.out 0; have hz1 := blk_cell BK6.out 1; simp at hz0; simp at hz1))
    go_wp2_with (first | (go_at_call 79; refine (A3.out _ (by repeat (first | (with_reducible first | exact HBR.out | apply ba_ | apply bN_ | apply b1_) | exact HBR.out))).mono ?_; rintro e w30 ⟨v30, rfl, ho, hb⟩; obtain ⟨Am, cm, rfl⟩ := Kd.R_slice ho; have OM := ak_ ho; clear A3; replace BK6 := ak_ (blk_below BK6.out hb); replace BL := ak_ (blk_below BL.out hb); replace BLS := ak_ (blk_below BLS.out hb); replace BC := ak_ (blk_below BC.out hb); replace HR := ak_ (Kd.R_below (Kd.pR HR.out) hb); replace HLR := ak_ (Kd.S_below (Kd.pS HLR.out) hb); replace OV := ak_ (Kd.R_below (Kd.pR OV.out) hb); replace HB := ak_ (bs_ (bb_ HB.out) hb); clear hb ho HBR) | (go_at_call 60; refine (A4.out _ Am cm (Kd.R_reads' OM.out).2.2 (Kd.R_reads' OM.out).2.1).mono ?_; rintro e w31 ⟨rfl, hb⟩; clear A4 OM; replace BK6 := ak_ (blk_below BK6.out hb); replace BL := ak_ (blk_below BL.out hb); replace BLS := ak_ (blk_below BLS.out hb); replace BC := ak_ (blk_below BC.out hb); replace HR := ak_ (Kd.R_below (Kd.pR HR.out) hb); replace HLR := ak_ (Kd.S_below (Kd.pS HLR.out) hb); replace OV := ak_ (Kd.R_below (Kd.pR OV.out) hb); replace HB := ak_ (bs_ (bb_ HB.out) hb); clear hb) | ((with_reducible refine gate_builtin (b := .append) (xs := #[.tmp 26, .tmp 34]) rfl ?_); at_builtin; refine Kd.R_append kre (w0 := w) w.heap.size rfl (.tmp 26) (.tmp 34) 85 90 (.agg #[(.int .i64 0), (.int .i64 0), (.slice none 0 0)]) 40 rfl Try.underlying85 info90 rfl (by decide) (by omega) _ res ⟨q, c, Aj, l.length, cj⟩ [.int .i64 q, .int .i64 c, .slice Aj l.length cj] (fun _ => True) (fun _ => False) rfl rfl ?aP (fun _ hk => hk.elim) (fun _ _ => trivial) ?aO ?aB ?aS ?aL ?_; (case aP => exact kre_M _ _ _ ⟨q, c, Aj, l.length, cj⟩); (case aO => exact Kd.pR HR.out); (case aB => exact (bb_ HB.out)); (case aS => exact bz_ (bb_ HB.out)); (case aL => have := HACC.out; omega); intro v36 w36 ho hb hg hat; replace BK6 := ak_ (blk_grown (pk BK6.out) hg (Kd.R_ne HR.out BK6.out (by decide))); replace BL := ak_ (blk_grown (pk BL.out) hg (Kd.R_ne HR.out BL.out (by decide))); replace BLS := ak_ (blk_grown (pk BLS.out) hg (Kd.R_ne HR.out BLS.out (by decide))); replace BC := ak_ (blk_grown (pk BC.out) hg (Kd.R_ne HR.out BC.out (by decide))); replace HLR := ak_ (Kd.S_over' (Kd.pS HLR.out) (Kd.R_typed HR.out) (by decide) hg); replace OV := ak_ (Kd.R_over' (Kd.pR OV.out) (Kd.R_typed HR.out) (by decide) hg); replace HB := ak_ (hb); replace HR := ak_ (ho); clear hg hat hb ho))
    go_roundg (ls.length - (j + 1))
    case measure => have := HJ.out; have := HJJ.out; omega
    case rel => exact ⟨j + 1, _, _, (by first | rfl | (simp; done)), ⟨⟨by have := HJJ.out; omega, Nat.le_refl _, by rw [List.length_append, HJ.out.2.2]; rfl⟩⟩, H2, HER2, ⟨Kd.pR HR.out⟩, ⟨Kd.pS HLR.out⟩, ⟨by first | exact .inr ⟨rfl, pk BLS.out⟩ | exact .inr ⟨trivial, pk BLS.out⟩⟩, ⟨pk BK6.out⟩, ⟨Kd.pR OV.out⟩, ⟨pk BL.out⟩, ⟨pk BC.out⟩, ⟨(bb_ HB.out)⟩⟩
  ·have j1 : decide ((j : Int) < (ls.length : Int)) = false := decide_eq_false (by omega)
   have j1n : decide (j < ls.length) = false := decide_eq_false hj
   have h := H.out
   rw [List.drop_of_length_le (by omega)] at h
   have HES := ak_ (show acc = es from Option.some.inj (show some acc = some es from h))
   clear h H hj
   go_wp2
   first | go_ret | go_ret2
   refine ⟨_, rfl, ?_, (bb_ HB.out)⟩
   rw [← HES.out]
   rcases HAL.out with h0 | ⟨rfl, hbl⟩
   ·have ha : acc = [] := List.eq_nil_of_length_eq_zero (by have := HJ.out; omega)
    have hr : res = [] := List.eq_nil_of_length_eq_zero (by rw [← HER.out.1, ha]; rfl)
    have h2 := HR.out
    rw [hr] at h2
    rw [ha]
    exact lead_shut (zs := []) (f := fun _ => 0) (okl := fun _ => False) (Kd.R_below h2 be_) trivial List.Pairwise.nil (fun k hk => hk.elim)
   ·exact HER.out.shut (Kd.S_below HLR.out be_) (blk_below hbl be_) (Kd.R_below HR.out be_) (by decide)
attribute [local go_sem] run_store_fn_
def ngN (tq : Int) (n : Nat) : Int := wrap64 (wrap64 (tq + 1) * 2 ^ min n 64)
theorem impl_Night_graph.calls (At : Option Addr) (ct : Nat) (ts : List Int) (se tq : Int) (tm : Bool) (w : World) (ht : Kd.C (Kd.int .i64) w At ts.length ts) :
  Calls Try.prog 55 #[.agg #[.slice At ts.length ct, .int .i64 se, .int .i64 tq], .bool tm] w fun e w' => ∃ Bc Bl : Nat, e = .returned (.agg #[.int .i64 (ngN tq ts.length), .func (.func 76) #[] #[.pointer (some ⟨Bc, 0, none⟩), .pointer (some ⟨Bl, 0, none⟩)]]) ∧
   (w'.heap[Bc]? = some (.cells #[.slice At ts.length ct, .int .i64 se, .int .i64 tq] 33 (0, 0)) ∧ w'.heap[Bl]? = some (.cells #[.bool tm] 4 (0, 0))) ∧ Below w.heap.size w w' := by
 have hu := Try.underlying33
 have hu2 := Try.underlying67
 have HB := ak_ (Below.refl w.heap.size w)
 have hn : (ts.length : Int) ≤ 9223372036854775807 := by have := Kd.C_max ht; omega
 clear ht
 go_enter Try.func55, Try.ntmps55
 go_upto_region 1 with (first | ((with_reducible refine gate_dst (N := 2) rfl ?_); refine bx_ 2 #[.slice At ts.length ct, .int .i64 se, .int .i64 tq] 33 ?_; intro gb2 hg w2 hbox hb; have nb_ := ak_ (bs_ (bb_ HB.out) hb); have nc_ := ak_ hbox; have nd_ := ak_ ((by rw [hg]; exact (bz_ (bb_ HB.out)) : w.heap.size ≤ gb2)); clear HB hb hbox hg; have HB := nb_; have BK2 := nc_; have GE2 := nd_; clear nb_ nc_ nd_; have hz2_0 := (blk_cell BK2.out 0); have hf2_0 := (blk_frozen BK2.out 0); simp at hz2_0; have hz2_1 := (blk_cell BK2.out 1); have hf2_1 := (blk_frozen BK2.out 1); simp at hz2_1; have hz2_2 := (blk_cell BK2.out 2); have hf2_2 := (blk_frozen BK2.out 2); simp at hz2_2; skip) | ((with_reducible refine gate_dst (N := 3) rfl ?_); refine bx_ 3 #[.bool tm] 4 ?_; intro gb3 hg w3 hbox hb; have n0_ := ak_ (blk_below (pk BK2.out) hb); have m0_ := ak_ ((by rw [hg]; exact Nat.ne_of_lt (blk_lt (pk BK2.out)) : gb2 ≠ gb3)); have nb_ := ak_ (bs_ (bb_ HB.out) hb); have nc_ := ak_ hbox; have nd_ := ak_ ((by rw [hg]; exact (bz_ (bb_ HB.out)) : w.heap.size ≤ gb3)); clear HB hb hbox hg; clear BK2; have BK2 := n0_; have NE2_3 := m0_; have HB := nb_; have BK3 := nc_; have GE3 := nd_; clear nb_ nc_ nd_ n0_ m0_; have hz3_0 := (blk_cell BK3.out 0); have hf3_0 := (blk_frozen BK3.out 0); simp at hz3_0; skip) | ((with_reducible refine gate_dst (N := 4) rfl ?_); refine bx_ 4 #[.int .i64 0, .nilFunc] 67 ?_; intro gb4 hg w4 hbox hb; have n0_ := ak_ (blk_below (pk BK2.out) hb); have m0_ := ak_ ((by rw [hg]; exact Nat.ne_of_lt (blk_lt (pk BK2.out)) : gb2 ≠ gb4)); have n1_ := ak_ (blk_below (pk BK3.out) hb); have m1_ := ak_ ((by rw [hg]; exact Nat.ne_of_lt (blk_lt (pk BK3.out)) : gb3 ≠ gb4)); have nb_ := ak_ (bs_ (bb_ HB.out) hb); have nc_ := ak_ hbox; have nd_ := ak_ ((by rw [hg]; exact (bz_ (bb_ HB.out)) : w.heap.size ≤ gb4)); clear HB hb hbox hg; clear BK2 BK3; have BK2 := n0_; have NE2_4 := m0_; have BK3 := n1_; have NE3_4 := m1_; have HB := nb_; have BK4 := nc_; have GE4 := nd_; clear nb_ nc_ nd_ n0_ m0_ n1_ m1_; have hz4_0 := (blk_cell BK4.out 0); have hf4_0 := (blk_frozen BK4.out 0); simp at hz4_0; have hz4_1 := (blk_cell BK4.out 1); have hf4_1 := (blk_frozen BK4.out 1); simp at hz4_1; skip))
 have hq0 := blk_cell BK2.out 0
 have hq2 := blk_cell BK2.out 2
 simp at hq0
 simp at hq2
 have hz40 := blk_cell BK4.out 0
 have hz41 := blk_cell BK4.out 1
 have hf40 := blk_frozen BK4.out 0
 have hf41 := blk_frozen BK4.out 1
 simp at hz40
 simp at hz41
 have B41 := blk_put (cs' := #[.int .i64 (wrap64 (wrap64 (tq + 1) * 2 ^ min ts.length 64)), .func (.func 76) #[] #[.pointer (some ⟨gb2, 0, none⟩), .pointer (some ⟨gb3, 0, none⟩)]]) (blk_put (cs' := #[.int .i64 (wrap64 (wrap64 (tq + 1) * 2 ^ min ts.length 64)), .nilFunc]) BK4.out 0 (.int .i64 (wrap64 (wrap64 (tq + 1) * 2 ^ min ts.length 64))) rfl) 1 (.func (.func 76) #[] #[.pointer (some ⟨gb2, 0, none⟩), .pointer (some ⟨gb3, 0, none⟩)]) rfl
 have B21 := blk_far (p := ⟨gb4, 1, none⟩) (blk_far (p := ⟨gb4, 0, none⟩) BK2.out NE2_4.out (.int .i64 (wrap64 (wrap64 (tq + 1) * 2 ^ min ts.length 64)))) NE2_4.out (.func (.func 76) #[] #[.pointer (some ⟨gb2, 0, none⟩), .pointer (some ⟨gb3, 0, none⟩)])
 have B31 := blk_far (p := ⟨gb4, 1, none⟩) (blk_far (p := ⟨gb4, 0, none⟩) BK3.out NE3_4.out (.int .i64 (wrap64 (wrap64 (tq + 1) * 2 ^ min ts.length 64)))) NE3_4.out (.func (.func 76) #[] #[.pointer (some ⟨gb2, 0, none⟩), .pointer (some ⟨gb3, 0, none⟩)])
 have HB1 := below_set (v := (.func (.func 76) #[] #[.pointer (some ⟨gb2, 0, none⟩), .pointer (some ⟨gb3, 0, none⟩)])) (j := 1) (below_set (v := (.int .i64 (wrap64 (wrap64 (tq + 1) * 2 ^ min ts.length 64)))) (j := 0) HB.out GE4.out) GE4.out
 have HF := ak_ (And.intro B41 (And.intro B21 (And.intro B31 HB1)))
 clear B41 B21 B31 HB1
 go_wp2
 refine bodyPost_ret (results_cell_row rfl _ _ gb4 67 #[.int .i64 (wrap64 (wrap64 (tq + 1) * 2 ^ min ts.length 64)), .func (.func 76) #[] #[.pointer (some ⟨gb2, 0, none⟩), .pointer (some ⟨gb3, 0, none⟩)]] (0, 0) _ rfl HF.out.1 Try.underlying67 rfl (by kernel_rfl)) rfl ?_
 exact ⟨gb2, gb3, rfl, ⟨HF.out.2.1, HF.out.2.2.1⟩, HF.out.2.2.2⟩
def slices_Repeat_int_int.f (l0 : List Int) (a1 : Int) : Option (List Int) := if l0.length = 1 then (if 0 ≤ a1 then (if a1 ≤ 1000000 then some (List.replicate a1.toNat (l0.headD 0)) else none) else none) else none
def slices_Repeat_int_int.row (N m : Nat) (x : Int) : List Int := List.replicate m x ++ List.replicate (N - m) 0
theorem slices_Repeat_int_int.row_len {N m : Nat} {x : Int} (h : m ≤ N) : (slices_Repeat_int_int.row N m x).length = N := by
 unfold slices_Repeat_int_int.row
 rw [List.length_append, List.length_replicate, List.length_replicate]
 omega
theorem slices_Repeat_int_int.row_set {N m : Nat} {x : Int} (h : m < N) : (slices_Repeat_int_int.row N m x).set m x = slices_Repeat_int_int.row N (m + 1) x := by
 unfold slices_Repeat_int_int.row
 obtain ⟨r, hr⟩ : ∃ r, N - m = r + 1 := ⟨N - m - 1, by omega⟩
 rw [hr, show N - (m + 1) = r by omega, List.set_append_right _ _ (by simp), List.length_replicate, Nat.sub_self, List.replicate_succ, List.set_cons_zero, List.replicate_succ', List.append_assoc]
 rfl
theorem slices_Repeat_int_int.row_get {N m j : Nat} {x : Int} (h : j < m) : rdOf 0 (slices_Repeat_int_int.row N m x) (j : Int) = x := by
 unfold slices_Repeat_int_int.row rdOf
 rw [Int.toNat_natCast, List.getD_eq_getElem?_getD, List.getElem?_append_left (by simpa using h)]
 simp [h]
theorem slices_Repeat_int_int.puts {w : World} {base g N c : Nat} {x : Int} (hg : w.heap.size ≤ g) : ∀ (q m : Nat) (W : World), m + q ≤ N → (Kd.int .i64).R 3 W base (fun _ => True) (.slice (some ⟨g, 0, none⟩) N c) (slices_Repeat_int_int.row N m x) → Below w.heap.size w W →
  (Kd.int .i64).R 3 (W.setCells g m (List.replicate q (Value.int .i64 x))) base (fun _ => True) (.slice (some ⟨g, 0, none⟩) N c) (slices_Repeat_int_int.row N (m + q) x) ∧ Below w.heap.size w (W.setCells g m (List.replicate q (Value.int .i64 x)))
 | 0, m, W, _, h, hb => ⟨h, hb⟩
 | q + 1, m, W, hl, h, hb => by
  have h1 := (Kd.R_putg h (m : Int) x).1
  rw [Int.toNat_natCast, slices_Repeat_int_int.row_set (by omega)] at h1
  have h2 := slices_Repeat_int_int.puts hg q (m + 1) _ (by omega) h1 (below_set (j := m) (v := Value.int .i64 x) hb hg)
  rw [show m + (q + 1) = m + 1 + q by omega, List.replicate_succ]
  exact h2
theorem slices_Repeat_int_int.calls (A0 : Option Addr) (c0 : Nat) (l0 : List Int) (a1 : Int) (r : List Int) (w : World) (hr0 : Kd.C (Kd.int .i64) w A0 l0.length l0) (hc0 : l0.length ≤ c0) (h : slices_Repeat_int_int.f l0 a1 = some r) :
  Calls Try.prog 99 #[.slice A0 l0.length c0, .int .i64 a1] w fun e w' => ∃ v0_ : Value, e = .returned (v0_) ∧ (Kd.int .i64).R 3 w' w.heap.size (fun _ => True) v0_ r ∧ Below w.heap.size w w' := by
 unfold slices_Repeat_int_int.f at h
 by_cases hl : l0.length = 1
 rotate_left
 ·rw [if_neg hl] at h; exact absurd h (by simp)
 rw [if_pos hl] at h
 by_cases h0 : 0 ≤ a1
 rotate_left
 ·rw [if_neg h0] at h; exact absurd h (by simp)
 rw [if_pos h0] at h
 by_cases h1 : a1 ≤ 1000000
 rotate_left
 ·rw [if_neg h1] at h; exact absurd h (by simp)
 rw [if_pos h1] at h
 obtain ⟨x, rfl⟩ := List.length_eq_one_iff.mp hl
 obtain ⟨N, rfl⟩ : ∃ N : Nat, a1 = (N : Int) := ⟨a1.toNat, by omega⟩
 rw [Int.toNat_natCast] at h
 obtain rfl := Option.some.inj h
 obtain ⟨ad, rfl, hx⟩ := Kd.at_int hr0 0 (by decide) (by simp)
 have hx1 : w.cell? (ad.add 0) = some (Value.int .i64 x) := hx
 have HX := ak_ hx1
 have HN := ak_ h1
 have HB := ak_ (Below.refl w.heap.size w)
 have HM0 := fun (W : World) => Try.bits_Mul 1 N (by decide) (by omega) W
 rw [show (1 * N / 18446744073709551616 : Nat) = 0 by omega, show (1 * N % 18446744073709551616 : Nat) = N by omega] at HM0
 have HM := ak_ HM0
 have k0 : decide ((N : Int) < 0) = false := decide_eq_false (by omega)
 have k0n : ((N : Int) < 0) = False := eq_false (by omega)
 have k1 : IntKind.u64.wrap (N : Int) = (N : Int) := IntWalk.u64_in _ ⟨by omega, by omega⟩
 have k2 : IntKind.i64.wrap (N : Int) = (N : Int) := IntWalk.i64_in _ ⟨by omega, by omega⟩
 have k3 : decide ((9223372036854775807 : Int) < (N : Int)) = false := decide_eq_false (by omega)
 have k3n : ((9223372036854775807 : Int) < (N : Int)) = False := eq_false (by omega)
 have HH := ak_ (show List.replicate N x = List.replicate N (List.headD [x] 0) from rfl)
 clear h hl h0 h1 hr0 hc0 hx hx1 HM0
 go_enter Try.func99, Try.ntmps99
 go_upto_region 6 with (go_at_call 111; refine (HM.out _).mono ?_; rintro e w' ⟨rfl, hw_⟩; rw [hw_]; clear hw_ w')
 go_upto_region 7 with ((with_reducible refine gate_dst (N := 30) rfl ?_); refine Kd.R_make (Kd.int .i64) _ 3 rfl (N := 30) rfl 22 _ _ rfl (N : Int) rfl rfl Try.underlying22 (Value.int .i64 0) 8 info3 rfl (by decide) (by omega) 0 (ok := fun _ => True) (okp := fun _ => True) rfl (fun _ hk => hk) trivial (by omega) (by have := HN.out; omega) (Below.refl _ _) (Nat.le_refl _) ?_; intro v30 w30 ho hb hg hnew; have HO := ak_ (Kd.R_lower ho (bz_ (bb_ HB.out))); replace HB := ak_ (bs_ (bb_ HB.out) hb); clear hb hg hnew ho)
 have h30 := HO.out
 rw [Int.toNat_natCast] at h30
 clear HO
 have hsz : (Try.prog.info? 3).map (·.size) = some 1 := by kernel_rfl
 by_cases hz : N = 0
 ·obtain ⟨A3, c3, e3⟩ := Kd.R_slice h30
  rw [List.length_replicate] at e3
  subst e3
  have HO := ak_ h30
  have hcp : ∀ W, (Builtin.copy_ #[22, 22] 3 #[.slice A3 N c3, .slice (some ad) 1 c0]).run Try.prog W = .ok (goInt 0) W := fun W => run_copy_none W 22 22 3 3 A3 (some ad) N c3 1 c0 Try.underlying22 hsz (by rw [hz]; rfl)
  have k4 : decide ((0 : Int) < (N : Int)) = false := decide_eq_false (by omega)
  have k4n : decide (0 < N) = false := decide_eq_false (by omega)
  have k4p : (0 < N) = False := eq_false (by omega)
  have HZ := ak_ hz
  clear h30 hz
  go_upto_region 8 with (fail)
  go_loopg [8] 0 (fun gg v8 wr => v8 = .int .i64 0 ∧ Aside0 ((Kd.int .i64).R 3 wr w.heap.size (fun _ => True) (.slice A3 N c3) (List.replicate N 0)) ∧ Aside0 (Below w.heap.size w wr))
  case atStart => exact ⟨rfl, ⟨Kd.R_below HO.out be_⟩, ⟨(bb_ HB.out)⟩⟩
  case round =>
   clear HO HB
   obtain ⟨rfl, HO, HB⟩ := hrel
   go_wp2
   go_ret
   exact ⟨_, rfl, by have h_ := HO.out; rw [HZ.out] at h_ ⊢; exact Kd.R_below h_ be_, (bb_ HB.out)⟩
 obtain ⟨g, cap, e3, hge, -, -⟩ := Kd.R_form h30 (by rw [List.length_replicate]; omega)
 rw [List.length_replicate] at e3
 subst e3
 have HO := ak_ (show (Kd.int .i64).R 3 w30 w.heap.size (fun _ => True) (.slice (some ⟨g, 0, none⟩) N cap) (slices_Repeat_int_int.row N 0 x) from h30)
 have HG := ak_ hge
 have HZ := ak_ hz
 have hc00 := Kd.R_celln 0 h30 (0 : Int) (by decide) (by omega)
 have hcp : (Builtin.copy_ #[22, 22] 3 #[.slice (some ⟨g, 0, none⟩) N cap, .slice (some ad) 1 c0]).run Try.prog w30 = .ok (goInt 1) (w30.setCells g 0 [Value.int .i64 x]) :=
  run_copy_cells w30 22 22 3 3 g 0 N cap ad 1 c0 [Value.int .i64 x] Try.underlying22 hsz (by simp [Nat.min_def]; omega)
   (fun j v hj => by
    rcases j with _ | j
    ·obtain rfl := Option.some.inj hj
     exact (HB.out.cell (World.block_lt_of_cell? w _ HX.out)).trans HX.out
    ·simp at hj)
   (fun j hj => by
    obtain rfl : j = 0 := by simpa using hj
    have := hc00.1
    simp at this ⊢
    rw [this]; rfl)
   (fun j hj => by
    obtain rfl : j = 0 := by simpa using hj
    have := hc00.2
    simpa using this) (by intro v hv; obtain rfl := List.mem_singleton.mp hv; rfl)
 clear h30 hge hz hc00
 go_upto_region 8 with (fail)
 have hp1 := slices_Repeat_int_int.puts (w := w) HG.out 1 0 w30 (by have := HZ.out; omega) HO.out HB.out
 have n0_ := ak_ hp1.1
 have n1_ := ak_ hp1.2
 clear HO HB hp1 hcp
 have HO := n0_; have HB := n1_
 clear n0_ n1_
 change Aside0 ((Kd.int .i64).R 3 (w30.setCells g 0 [Value.int .i64 x]) w.heap.size (fun _ => True) (.slice (some ⟨g, 0, none⟩) N cap) (slices_Repeat_int_int.row N 1 x)) at HO
 change Aside0 (Below w.heap.size w (w30.setCells g 0 [Value.int .i64 x])) at HB
 generalize hW8 : w30.setCells g 0 [Value.int .i64 x] = W8 at HO HB ⊢
 clear hW8
 go_loopg [8] N (fun gg v8 wr => ∃ m : Nat, v8 = .int .i64 (m : Int) ∧ 1 ≤ m ∧ m ≤ N ∧ N - m ≤ gg ∧ Aside0 ((Kd.int .i64).R 3 wr w.heap.size (fun _ => True) (.slice (some ⟨g, 0, none⟩) N cap) (slices_Repeat_int_int.row N m x)) ∧ Aside0 (Below w.heap.size w wr))
 case atStart => exact ⟨1, rfl, Nat.le_refl _, by have := HZ.out; omega, by omega, ⟨Kd.R_below HO.out be_⟩, ⟨(bb_ HB.out)⟩⟩
 case round =>
  clear HO HB
  obtain ⟨m, rfl, hm1, hmN, hg, HO, HB⟩ := hrel
  by_cases hlt : m < N
  ·have q1 : decide ((m : Int) < (N : Int)) = true := decide_eq_true (by omega)
   have q1n : decide (m < N) = true := decide_eq_true hlt
   have q1p : (m < N) = True := eq_true hlt
   have hcap := (Kd.R_reads' HO.out).2.1
   have h00 := fun j (hj : j < N) => Kd.R_celln 0 HO.out (j : Int) (by omega) (by omega)
   have b0 : (0 : Int) ≤ (m : Int) := by omega
   have b1 : (m : Int) ≤ (N : Int) := by omega
   have b2 : (m : Int) ≤ (cap : Int) := by omega
   have b3 : (N : Int) ≤ (cap : Int) := by omega
   have b1n : m ≤ N := by omega
   have b2n : m ≤ cap := by omega
   have b3n : N ≤ cap := by omega
   have b4 : (cap = m) = False := eq_false (by omega)
   have b5 : ((cap : Int) = (m : Int)) = False := eq_false (by omega)
   obtain ⟨q, hq⟩ : ∃ q, q = Nat.min m (N - m) := ⟨_, rfl⟩
   have hq1 : q ≤ m := by rw [hq]; exact Nat.min_le_left _ _
   have hq2' : q ≤ N - m := by rw [hq]; exact Nat.min_le_right _ _
   have hq2 : m + q ≤ N := by omega
   clear hq2'
   have hq3 : 1 ≤ q := by rw [hq]; exact Nat.le_min.2 ⟨hm1, by omega⟩
   have hw : IntKind.i64.wrap ((m : Int) + (q : Int)) = ((m + q : Nat) : Int) := by rw [IntWalk.i64_in _ ⟨by omega, by have := HN.out; omega⟩]; omega
   have hp1 := slices_Repeat_int_int.puts (w := w) HG.out q m wr.drew hq2 (Kd.R_drew HO.out) (b1_ HB.out)
   have hcp : (Builtin.copy_ #[22, 22] 3 #[.slice (some ⟨g, m, none⟩) (N - m) (cap - m), .slice (some ⟨g, 0, none⟩) m cap]).run Try.prog wr.drew = .ok (goInt (q : Int)) (wr.drew.setCells g m (List.replicate q (Value.int .i64 x))) := by
    have h_ := run_copy_cells (P := Try.prog) wr.drew 22 22 3 3 g m (N - m) (cap - m) ⟨g, 0, none⟩ m cap (List.replicate q (Value.int .i64 x)) Try.underlying22 hsz (by rw [List.length_replicate]; exact hq)
     (fun j v hj => by
      rw [List.getElem?_replicate] at hj
      by_cases hjq : j < q
      ·rw [if_pos hjq] at hj
       obtain rfl := Option.some.inj hj
       have e := (h00 j (by omega)).1
       rw [slices_Repeat_int_int.row_get (by omega), Int.toNat_natCast] at e
       rw [add_plain]
       simpa using e
      ·rw [if_neg hjq] at hj; exact absurd hj (by simp))
     (fun j hj => by
      rw [List.length_replicate] at hj
      have e := (h00 (m + j) (by omega)).1
      rw [Int.toNat_natCast] at e
      simp only [World.cell?_drew]
      rw [e]; rfl)
     (fun j hj => by
      rw [List.length_replicate] at hj
      have e := (h00 (m + j) (by omega)).2
      rw [Int.toNat_natCast] at e
      simpa using e) (by intro v hv; obtain rfl := List.eq_of_mem_replicate hv; rfl)
    rw [List.length_replicate] at h_
    exact h_
   have HQ := ak_ (And.intro hq3 (And.intro hg hlt))
   have HP1 := ak_ hp1
   clear hq hq1 hq3 h00 hp1 hcap hm1 hmN hg hlt
   try go_wp2
   refine start_ (n := 10) (S := fun _ => True) (ds := [9]) (mb_ 10 0) (by kernel_rfl) rfl rfl trivial (fun hHeld => ?_)
   refine pure_ (i := 0) (N := some 38) (v := ?_) (a' := ?_) (mb_ 10 1) rfl rfl (by kernel_rfl) (fun _ _ _ h => h) (Or.inl ⟨by rfl, ?_⟩) ?_ ?_
   rotate_left
   ·intro w'
    go_simp
    with_reducible rfl
   rotate_left
   ·simp only [Act.put, setIfInBounds_toArray, set_cons_zero, set_cons_succ, i64_w, i32_w]
    rfl
   refine pure_ (i := 1) (N := some 39) (v := ?_) (a' := ?_) (mb_ 10 3) rfl rfl (by kernel_rfl) (fun _ _ _ h => h) (Or.inl ⟨by rfl, ?_⟩) ?_ ?_
   rotate_left
   ·intro w'
    go_simp
    with_reducible rfl
   rotate_left
   ·simp only [Act.put, setIfInBounds_toArray, set_cons_zero, set_cons_succ, i64_w, i32_w]
    rfl
   refine pure_ (i := 2) (N := some 40) (v := ?_) (a' := ?_) (mb_ 10 7) rfl rfl (by kernel_rfl) (fun _ _ _ h => h) (Or.inl ⟨by rfl, ?_⟩) ?_ ?_
   rotate_left
   ·intro w'
    go_simp
    with_reducible rfl
   rotate_left
   ·simp only [Act.put, setIfInBounds_toArray, set_cons_zero, set_cons_succ, i64_w, i32_w]
    rfl
   refine pure_ (i := 3) (N := some 41) (v := ?_) (a' := ?_) (mb_ 10 15) rfl rfl (by kernel_rfl) (fun _ _ _ h => h) (Or.inl ⟨by rfl, ?_⟩) ?_ ?_
   rotate_left
   ·intro w'
    go_simp
    with_reducible rfl
   rotate_left
   ·simp only [Act.put, setIfInBounds_toArray, set_cons_zero, set_cons_succ, i64_w, i32_w]
    rfl
   refine pure_ (i := 4) (N := some 42) (v := ?_) (a' := ?_) (mb_ 10 31) rfl rfl (by kernel_rfl) (fun _ _ _ h => h) (Or.inl ⟨by rfl, ?_⟩) ?_ ?_
   rotate_left
   ·intro w'
    go_simp
    with_reducible rfl
   rotate_left
   ·simp only [Act.put, setIfInBounds_toArray, set_cons_zero, set_cons_succ, i64_w, i32_w]
    rfl
   refine pure_ (i := 5) (N := some 43) (v := ?_) (a' := ?_) (mb_ 10 63) rfl rfl (by kernel_rfl) (fun _ _ _ h => h) (Or.inl ⟨by rfl, ?_⟩) ?_ ?_
   rotate_left
   ·intro w'
    go_simp
    with_reducible rfl
   rotate_left
   ·simp only [Act.put, setIfInBounds_toArray, set_cons_zero, set_cons_succ, i64_w, i32_w]
    rfl
   refine pure_ (i := 6) (N := some 44) (v := ?_) (a' := ?_) (mb_ 10 127) rfl rfl (by kernel_rfl) (fun _ _ _ h => h) (Or.inl ⟨by rfl, ?_⟩) ?_ ?_
   rotate_left
   ·intro w'
    go_simp
    with_reducible rfl
   rotate_left
   ·simp only [Act.put, setIfInBounds_toArray, set_cons_zero, set_cons_succ, i64_w, i32_w]
    rfl
   refine one_ (i := 7) (N := some 45) (mb_ 10 255) rfl rfl (by kernel_rfl) (by decide) (fun K hK => ?_)
   refine value_ (w1 := ?_) (v := ?_) (by rfl) rfl ?_ ?_
   rotate_left 2
   ·go_simp
    constructor
    ·rfl
    ·rfl
   refine hK.out _ _ trivial (fun hHeld => ?_)
   clear hK K
   refine nm_ ?_
   refine pure_ (i := 8) (N := some 46) (v := ?_) (a' := ?_) (mb_ 10 511) rfl rfl (by kernel_rfl) (fun _ _ _ h => h) (Or.inl ⟨by rfl, ?_⟩) ?_ ?_
   rotate_left
   ·intro w'
    go_simp
    with_reducible rfl
   rotate_left
   ·simp only [Act.put, setIfInBounds_toArray, set_cons_zero, set_cons_succ, i64_w, i32_w]
    rfl
   refine pure_ (i := 9) (N := some 8) (v := ?_) (a' := ?_) (mb_ 10 1023) rfl rfl (by kernel_rfl) (fun _ _ _ h => h) (Or.inl ⟨by rfl, ?_⟩) ?_ ?_
   rotate_left
   ·intro w'
    go_simp
    with_reducible rfl
   rotate_left
   ·simp only [Act.put, setIfInBounds_toArray, set_cons_zero, set_cons_succ, i64_w, i32_w]
    rfl
   refine done_ (by kernel_rfl) ?_
   clear HO HB hcp
   have HO := ak_ HP1.out.1
   have HB := ak_ HP1.out.2
   clear HP1
   generalize wr.drew.setCells g m (List.replicate q (Value.int .i64 x)) = W9 at HO HB ⊢
   try go_wp2
   go_roundg (N - (m + q))
   case measure => have := HQ.out; omega
   case rel => exact ⟨m + q, (ry_), by have := HQ.out; omega, hq2, Nat.le_refl _, ⟨Kd.R_below HO.out be_⟩, ⟨(bb_ HB.out)⟩⟩
  ·have q1 : decide ((m : Int) < (N : Int)) = false := decide_eq_false (by omega)
   have q1n : decide (m < N) = false := decide_eq_false hlt
   have q1p : (m < N) = False := eq_false hlt
   obtain rfl : m = N := by omega
   clear hlt hg hmN hm1
   go_wp2
   go_ret
   have e : slices_Repeat_int_int.row m m x = List.replicate m (List.headD [x] 0) := by unfold slices_Repeat_int_int.row; rw [Nat.sub_self]; simp
   exact ⟨_, rfl, by have h_ := HO.out; rw [e] at h_; exact Kd.R_below h_ be_, (bb_ HB.out)⟩
end Go.Proofs.Ytmdbhpbogbekmaa.QNt
