/- Contracts of functions of the given program, walked: each call returns what its Lean function says. Conditions: those that stand at each theorem. (Written by a program of this session.) -/
import Derived.Test.YtmdbhpbogbekmaaQNtx0
import Derived.Test.YtmdbhpbogbekmaaQNtx14
import Derived.Test.YtmdbhpbogbekmaaQNtx16
namespace Go.Proofs.Ytmdbhpbogbekmaa.QNt
open Go.RowKit Go.Proofs.YtmdbhpbogbekmaaW.PrintWords Go.Proofs.YtmdbhpbogbekmaaW.PrintLast Go.Proofs.YtmdbhpbogbekmaaW.PrintMore
open List (setIfInBounds_toArray set_cons_zero set_cons_succ map_toArray map_cons map_nil)
attribute [local go_sem] max2_int min2_int max_two min_two max_three min_three max_four min_four
set_option linter.unusedVariables false
set_option maxHeartbeats 8000000
set_option maxRecDepth 100000
set_option linter.unusedSimpArgs false
mutual
def impl_Camp_after.l0 : Nat → List (List Int) → Int → Int → List Bool → Int → List Bool → Int → Option (List Bool × Int)
 | 0, _, _, _, _, _, _, _ => none
 | k + 1, x16, x17, x18, x481000, x481001, x486000, x486001 => if x18 < x17 then (if 0 ≤ x18 then (if x18 < (x16.length : Int) then (if 0 < ((rd_L1 x16 x18).length : Int) then (if 0 ≤ (rd (rd_L1 x16 x18) 0) then (if (rd (rd_L1 x16 x18) 0) < (x481000.length : Int) then ((impl_bit.f (rdOf false x481000 (rd (rd_L1 x16 x18) 0))).bind fun t489 => (impl_Camp_after.l1 k x16 x17 x18 (rd_L1 x16 x18) ((rd_L1 x16 x18).length : Int) 0 x481000 x481001 x486000 (wrap64 (x486001 + (wrap64 (1 - (wrap64 (2 * t489)))))))) else (none)) else (none)) else (none)) else (none)) else (none)) else (some (x486000, x486001))
def impl_Camp_after.l1 : Nat → List (List Int) → Int → Int → List Int → Int → Int → List Bool → Int → List Bool → Int → Option (List Bool × Int)
 | 0, _, _, _, _, _, _, _, _, _, _ => none
 | k + 1, x16, x17, x18, x36, x37, x38, x481000, x481001, x486000, x486001 => if x38 < x37 then (if 0 ≤ x38 then (if x38 < (x36.length : Int) then (if 0 ≤ (rd x36 x38) then (if (rd x36 x38) < (x481000.length : Int) then (if (rd x36 x38) < (x486000.length : Int) then (impl_Camp_after.l1 k x16 x17 x18 x36 x37 (wrap64 (x38 + 1)) x481000 x481001 (x486000.set ((rd x36 x38) : Int).toNat (!(rdOf false x481000 (rd x36 x38)))) x486001) else (none)) else (none)) else (none)) else (none)) else (none)) else (impl_Camp_after.l0 k x16 x17 (wrap64 (x18 + 1)) x481000 x481001 x486000 x486001)
end
def impl_Camp_after.f (k : Nat) (l0_0 : List Bool) (a0_1 : Int) (l1 : List (List Int)) : Option (List Bool × Int) := (slices_Clone_bool_bool.f l0_0).bind fun t482 => (impl_Camp_after.l0 k l1 (l1.length : Int) 0 l0_0 a0_1 t482 a0_1)
def impl_Camp_after.T1 : Bool × List (List Nat × List Nat) := (true, [([], []), ([0], [0]), ([1], [1]), ([], []), ([3], [3]), ([2, 4], [2, 4]), ([], []), ([6, 5, 2, 0, 1, 2, 3, 4, 5, 6], [5, 6])])
def impl_Camp_after.B1 : List Nat := [0, 1, 3, 0, 8, 31, 0, 127]
theorem impl_Camp_after.tab1 : rtab .any (opsOf Try.f79 1) = impl_Camp_after.T1 := by kernel_rfl
theorem impl_Camp_after.bits1 : waitsOk impl_Camp_after.T1.2 impl_Camp_after.B1 = true := by kernel_rfl
def impl_Camp_after.T5 : Bool × List (List Nat × List Nat) := (true, [([], []), ([0], [0]), ([], []), ([2], [2]), ([], []), ([4], [4]), ([5], [5]), ([3, 6], [3, 6]), ([7], [7]), ([8], [8]), ([9], [9]), ([10], [10]), ([1, 11], [1, 11]), ([0, 1, 2, 3, 4, 5, 6, 7, 8, 9, 10, 11, 12], []), ([13, 12, 9, 0, 1, 2, 3, 4, 5, 6, 7, 8, 9, 10, 11, 12], [12, 13])])
def impl_Camp_after.B5 : List Nat := [0, 1, 0, 4, 0, 16, 48, 124, 252, 508, 1020, 2044, 4095, 8191, 16383]
theorem impl_Camp_after.tab5 : rtab .any (opsOf Try.f79 5) = impl_Camp_after.T5 := by kernel_rfl
theorem impl_Camp_after.bits5 : waitsOk impl_Camp_after.T5.2 impl_Camp_after.B5 = true := by kernel_rfl
def impl_Camp_after.T9 : Bool × List (List Nat × List Nat) := (true, [([], []), ([0], [0]), ([], []), ([], []), ([3], [3]), ([], []), ([4, 5], [4, 5]), ([6], [6]), ([7], [7]), ([1, 2, 0, 1, 2, 3, 4, 5, 6, 7, 8], [1, 2]), ([9, 8, 0, 1, 2, 3, 4, 5, 6, 7, 8], [8, 9])])
def impl_Camp_after.B9 : List Nat := [0, 1, 0, 0, 8, 0, 56, 120, 248, 511, 1023]
theorem impl_Camp_after.tab9 : rtab .any (opsOf Try.f79 9) = impl_Camp_after.T9 := by kernel_rfl
theorem impl_Camp_after.bits9 : waitsOk impl_Camp_after.T9.2 impl_Camp_after.B9 = true := by kernel_rfl
theorem impl_Camp_after.calls (k : Nat) (A0_0 : Option Addr) (c0_0 : Nat) (l0_0 : List Bool) (a0_1 : Int) (A1 : Option Addr) (c1 : Nat) (l1 : List (List Int)) (r1 : List Bool) (r2 : Int) (w : World) (hr0_0 : Kd.C Kd.bool w A0_0 l0_0.length l0_0) (hc0_0 : l0_0.length ≤ c0_0) (hr1 : Kd.C (Kd.slice 3 (Kd.int .i64)) w A1 l1.length l1) (hc1 : l1.length ≤ c1) (h : impl_Camp_after.f k l0_0 a0_1 l1 = some (r1, r2)) :
  Calls Try.prog 79 #[.agg #[.slice A0_0 l0_0.length c0_0, .int .i64 a0_1], .slice A1 l1.length c1] w fun e w' => ∃ v0_ : Value, e = .returned (.agg #[v0_, .int .i64 r2]) ∧ Kd.R Kd.bool 4 w' w.heap.size (fun _ => True) v0_ r1 ∧ Below w.heap.size w w' := by
 have hu35 := Try.underlying35
 have HR0_0 := ak_ hr0_0
 have HC0_0 := ak_ hc0_0
 clear hr0_0 hc0_0
 have HR1 := ak_ hr1
 have HC1 := ak_ hc1
 clear hr1 hc1
 have HB := ak_ (Below.refl w.heap.size w)
 have H : ((slices_Clone_bool_bool.f l0_0).bind fun t482 => (impl_Camp_after.l0 k l1 (l1.length : Int) 0 l0_0 a0_1 t482 a0_1)) = some (r1, r2) := h
 clear h
 replace H := Option.bind_eq_some_iff.mp H
 obtain ⟨t482, A30, H⟩ := H
 replace H : (impl_Camp_after.l0 k l1 (l1.length : Int) 0 l0_0 a0_1 t482 a0_1) = some (r1, r2) := H
 have A3 := ak_ A30
 clear A30
 have H' := ak_ H
 clear H
 go_enter Try.func79, Try.ntmps79
 try go_wp2_with (first | ((with_reducible refine gate_dst (N := 2) rfl ?_); refine bx_ 2 #[.slice A0_0 l0_0.length c0_0, .int .i64 a0_1] 35 ?_; intro gb480 hg w4 hbox hb; have n0_ := ak_ (bs_ (bb_ HB.out) hb); have n1_ := ak_ (hbox); have n2_ := ak_ ((by rw [hg]; exact (bz_ (bb_ HB.out)) : w.heap.size ≤ gb480)); have n3_ := n2_; clear HB; have HB := n0_; have BK480 := n1_; have GW480 := n2_; have GE480 := n3_; clear n0_ n1_ n2_ n3_; clear hb hbox hg) | ((with_reducible refine gate_dst (N := 4) rfl ?_); refine bx_ 4 #[.slice none 0 0, .int .i64 0] 35 ?_; intro gb481 hg w5 hbox hb; have n0_ := ak_ (blk_below (pk BK480.out) hb); have n1_ := ak_ (bs_ bl_ hb); have n2_ := ak_ (hbox); have n3_ := ak_ ((by rw [hg]; exact (bz_ bl_) : w.heap.size ≤ gb481)); have n4_ := n3_; have n5_ := ak_ ((by rw [hg]; exact Nat.ne_of_lt (blk_lt (pk BK480.out)) : gb480 ≠ gb481)); have n6_ := ak_ n5_.out.symm; clear BK480; clear HB; have BK480 := n0_; have HB := n1_; have BK481 := n2_; have GW481 := n3_; have GE481 := n4_; have NB480_481 := n5_; have NB481_480 := n6_; clear n0_ n1_ n2_ n3_ n4_ n5_ n6_; clear hb hbox hg))
 have n0_ := ak_ (k1_ BK480.out)
 have n1_ := ak_ (k1_ BK481.out)
 have n2_ := ak_ (b1_ HB.out)
 clear BK480 BK481 HB
 have BK480 := n0_; have BK481 := n1_; have HB := n2_
 clear n0_ n1_ n2_
 refine start_ (n := 8) (S := fun w' => w'.cell? ⟨gb480, 0, none⟩ = some (.slice A0_0 l0_0.length c0_0) ∧ w'.cell? ⟨gb480, 1, none⟩ = some (.int .i64 a0_1)) (ds := []) (mb_ 8 0) (by kernel_rfl) rfl rfl ⟨(blk_cell BK480.out 0).trans rfl, (blk_cell BK480.out 1).trans rfl⟩ (fun hHeld => ?_); refine with_tabW impl_Camp_after.tab1 impl_Camp_after.bits1 (fun HT_ HW_ => ?_)
 generalize w5.drew = w6 at BK480 BK481 HB hHeld ⊢
 refine pu_ 0 10 8 1 ?_
 refine pu_ 3 13 8 9 ?_
 refine tk_ 1 11 8 11 ?_ (hy := by rintro w' ⟨s0, s1⟩; go_simp; with_reducible rfl)
 refine tk_ 4 14 8 27 ?_ (hy := by rintro w' ⟨s0, s1⟩; go_simp; with_reducible rfl)
 refine join_ (σ := Value × Nat) 1 (mb_ 8 127) (fun s_ => [(12, s_.1), (5, .pointer (some ⟨s_.2, 0, none⟩)), (15, .agg #[s_.1, .int .i64 a0_1])]) (fun s_ w' => (w'.cell? ⟨gb480, 0, none⟩ = some (.slice A0_0 l0_0.length c0_0) ∧ w'.cell? ⟨gb480, 1, none⟩ = some (.int .i64 a0_1)) ∧ (Kd.R Kd.bool 4 w' w.heap.size (fun _ => True) s_.1 t482) ∧ (w'.heap[gb480]? = some (.cells #[.slice A0_0 l0_0.length c0_0, .int .i64 a0_1] 35 (0, 0))) ∧ (w'.heap[gb481]? = some (.cells #[.slice none 0 0, .int .i64 0] 35 (0, 0))) ∧ (w'.heap[s_.2]? = some (.cells #[.slice none 0 0, .int .i64 0] 35 (0, 0))) ∧ (w.heap.size ≤ s_.2) ∧ (w.heap.size ≤ s_.2) ∧ (gb480 ≠ s_.2) ∧ (s_.2 ≠ gb480) ∧ (gb481 ≠ s_.2) ∧ (s_.2 ≠ gb481) ∧ (Below w.heap.size w w')) ?_ ?_
 rotate_left
 ·
  intro hCont
  refine two_ (i := 2) (j := 6) (Ni := some 12) (Nj := some 5) (mb_ 8 31) (mb_ 8 91) rfl rfl rfl rfl (two_of HT_.out (by kernel_rfl)) (by decide) (by decide) (fun K hK => ?_) (fun K hK => ?_)
  ·
   skip
   refine goes_ Try.func98 (by kernel_rfl) rfl #[.slice A0_0 l0_0.length c0_0] (by rfl) rfl rfl (by first | rfl | (simp only [map_toArray, map_cons, map_nil]; try rfl)) ?_
   with_reducible refine (slices_Clone_bool_bool.calls _ _ l0_0 t482 _ ?side1 ?side2 A3.out).mono ?_
   (case side1 => repeat (first | exact (Kd.C_below HR0_0.out HB.out) | (with_reducible refine Kd.C_alloc ?_ _) | (with_reducible refine Kd.C_drewN ?_ _) | (with_reducible refine Kd.C_drew ?_)))
   (case side2 => exact HC0_0.out)
   rintro e w7 ⟨v483, rfl, ho0, hb⟩
   refine ⟨_, rfl, ?_⟩
   have n0_ := ak_ (Kd.R_lower ho0 (bz_ bl_))
   have n1_ := ak_ (blk_below (pk BK480.out) hb)
   have n2_ := ak_ (blk_below (pk BK481.out) hb)
   have n3_ := ak_ (bs_ bl_ hb)
   clear BK480 BK481 HB
   have HO484 := n0_; have BK480 := n1_; have BK481 := n2_; have HB := n3_
   clear n0_ n1_ n2_ n3_
   (try clear hb)
   (try clear hb2)
   (try clear hk)
   (try clear hi)
   (try clear ho0)
   obtain ⟨Ao8, co8, eo8⟩ := Kd.R_slice HO484.out
   (first | subst eo8 | (injection eo8 with f1_ f2_ f3_; have f4_ := f1_.symm; have f5_ := f3_.symm; clear f1_ f2_ f3_; subst f4_; subst f5_))
   refine hK.out _ _ ⟨(blk_cell BK480.out 0).trans rfl, (blk_cell BK480.out 1).trans rfl⟩ (fun hHeld => ?_)
   clear hK K
   refine nm_ ?_
   refine pu_ 5 15 8 63 ?_
   refine on_ 6 5 8 127 (fun K hK => ?_)
   refine box_step ?hg (N := 5) ?hd (cs := #[.slice none 0 0, .int .i64 0]) (t := 35) ?hr ?_; (case hd => rfl); (case hg => rfl); (case hr => go_simp <;> rfl)
   intro gb485 hg w9 hbox hb
   have n0_ := ak_ (Kd.R_below (Kd.pR HO484.out) hb)
   have n1_ := ak_ (blk_below (pk BK480.out) hb)
   have n2_ := ak_ (blk_below (pk BK481.out) hb)
   have n3_ := ak_ (bs_ bl_ hb)
   have n4_ := ak_ (hbox)
   have n5_ := ak_ ((by rw [hg]; exact (bz_ bl_) : w.heap.size ≤ gb485))
   have n6_ := n5_
   have n7_ := ak_ ((by rw [hg]; exact Nat.ne_of_lt (blk_lt (pk BK480.out)) : gb480 ≠ gb485))
   have n8_ := ak_ n7_.out.symm
   have n9_ := ak_ ((by rw [hg]; exact Nat.ne_of_lt (blk_lt (pk BK481.out)) : gb481 ≠ gb485))
   have n10_ := ak_ n9_.out.symm
   clear HO484 BK480 BK481 HB
   have HO484 := n0_; have BK480 := n1_; have BK481 := n2_; have HB := n3_; have BK485 := n4_; have GW485 := n5_; have GE485 := n6_; have NB480_485 := n7_; have NB485_480 := n8_; have NB481_485 := n9_; have NB485_481 := n10_
   clear n0_ n1_ n2_ n3_ n4_ n5_ n6_ n7_ n8_ n9_ n10_ hb hbox hg
   refine hK.out _ _ ⟨(blk_cell BK480.out 0).trans rfl, (blk_cell BK480.out 1).trans rfl⟩ (fun hHeld => ?_)
   clear hK K
   refine nm_ ?_
   exact norm_ (by simp only [putAll, Act.put, setIfInBounds_toArray, set_cons_zero, set_cons_succ]) (hCont (.slice Ao8 t482.length co8, gb485) _ ⟨hHeld, (Kd.pR HO484.out), (pk BK480.out), (pk BK481.out), (pk BK485.out), GW485.out, GE485.out, NB480_485.out, NB485_480.out, NB481_485.out, NB485_481.out, bl_⟩)
  ·
   skip
   refine box_step ?hg (N := 5) ?hd (cs := #[.slice none 0 0, .int .i64 0]) (t := 35) ?hr ?_; (case hd => rfl); (case hg => rfl); (case hr => go_simp <;> rfl)
   intro gb485 hg w7 hbox hb
   have n0_ := ak_ (blk_below (pk BK480.out) hb)
   have n1_ := ak_ (blk_below (pk BK481.out) hb)
   have n2_ := ak_ (bs_ bl_ hb)
   have n3_ := ak_ (hbox)
   have n4_ := ak_ ((by rw [hg]; exact (bz_ bl_) : w.heap.size ≤ gb485))
   have n5_ := n4_
   have n6_ := ak_ ((by rw [hg]; exact Nat.ne_of_lt (blk_lt (pk BK480.out)) : gb480 ≠ gb485))
   have n7_ := ak_ n6_.out.symm
   have n8_ := ak_ ((by rw [hg]; exact Nat.ne_of_lt (blk_lt (pk BK481.out)) : gb481 ≠ gb485))
   have n9_ := ak_ n8_.out.symm
   clear BK480 BK481 HB
   have BK480 := n0_; have BK481 := n1_; have HB := n2_; have BK485 := n3_; have GW485 := n4_; have GE485 := n5_; have NB480_485 := n6_; have NB485_480 := n7_; have NB481_485 := n8_; have NB485_481 := n9_
   clear n0_ n1_ n2_ n3_ n4_ n5_ n6_ n7_ n8_ n9_ hb hbox hg
   refine hK.out _ _ ⟨(blk_cell BK480.out 0).trans rfl, (blk_cell BK480.out 1).trans rfl⟩ (fun hHeld => ?_)
   clear hK K
   refine nm_ ?_
   refine on_ 2 12 8 95 (fun K hK => ?_)
   refine goes_ Try.func98 (by kernel_rfl) rfl #[.slice A0_0 l0_0.length c0_0] (by rfl) rfl rfl (by first | rfl | (simp only [map_toArray, map_cons, map_nil]; try rfl)) ?_
   with_reducible refine (slices_Clone_bool_bool.calls _ _ l0_0 t482 _ ?side1 ?side2 A3.out).mono ?_
   (case side1 => repeat (first | exact (Kd.C_below HR0_0.out HB.out) | (with_reducible refine Kd.C_alloc ?_ _) | (with_reducible refine Kd.C_drewN ?_ _) | (with_reducible refine Kd.C_drew ?_)))
   (case side2 => exact HC0_0.out)
   rintro e w8 ⟨v483, rfl, ho0, hb⟩
   refine ⟨_, rfl, ?_⟩
   have n0_ := ak_ (Kd.R_lower ho0 (bz_ bl_))
   have n1_ := ak_ (blk_below (pk BK480.out) hb)
   have n2_ := ak_ (blk_below (pk BK481.out) hb)
   have n3_ := ak_ (blk_below (pk BK485.out) hb)
   have n4_ := ak_ (bs_ bl_ hb)
   clear BK480 BK481 BK485 HB
   have HO484 := n0_; have BK480 := n1_; have BK481 := n2_; have BK485 := n3_; have HB := n4_
   clear n0_ n1_ n2_ n3_ n4_
   (try clear hb)
   (try clear hb2)
   (try clear hk)
   (try clear hi)
   (try clear ho0)
   obtain ⟨Ao9, co9, eo9⟩ := Kd.R_slice HO484.out
   (first | subst eo9 | (injection eo9 with f1_ f2_ f3_; have f4_ := f1_.symm; have f5_ := f3_.symm; clear f1_ f2_ f3_; subst f4_; subst f5_))
   refine hK.out _ _ ⟨(blk_cell BK480.out 0).trans rfl, (blk_cell BK480.out 1).trans rfl⟩ (fun hHeld => ?_)
   clear hK K
   refine nm_ ?_
   refine pu_ 5 15 8 127 ?_
   exact norm_ (by simp only [putAll, Act.put, setIfInBounds_toArray, set_cons_zero, set_cons_succ]) (hCont (.slice Ao9 t482.length co9, gb485) _ ⟨hHeld, (Kd.pR HO484.out), (pk BK480.out), (pk BK481.out), (pk BK485.out), GW485.out, GE485.out, NB480_485.out, NB485_480.out, NB481_485.out, NB485_481.out, bl_⟩)
 rintro ⟨v483, gb485⟩ w10 ⟨hS_, h0_, h1_, h2_, h3_, h4_, h5_, h6_, h7_, h8_, h9_, h10_⟩
 have n0_ : Aside0 (Kd.R Kd.bool 4 w10 w.heap.size (fun _ => True) v483 t482) := ⟨h0_⟩
 have n1_ : Aside0 (w10.heap[gb480]? = some (.cells #[.slice A0_0 l0_0.length c0_0, .int .i64 a0_1] 35 (0, 0))) := ⟨h1_⟩
 have n2_ : Aside0 (w10.heap[gb481]? = some (.cells #[.slice none 0 0, .int .i64 0] 35 (0, 0))) := ⟨h2_⟩
 have n3_ : Aside0 (w10.heap[gb485]? = some (.cells #[.slice none 0 0, .int .i64 0] 35 (0, 0))) := ⟨h3_⟩
 have n4_ : Aside0 (w.heap.size ≤ gb485) := ⟨h4_⟩
 have n5_ : Aside0 (w.heap.size ≤ gb485) := ⟨h5_⟩
 have n6_ : Aside0 (gb480 ≠ gb485) := ⟨h6_⟩
 have n7_ : Aside0 (gb485 ≠ gb480) := ⟨h7_⟩
 have n8_ : Aside0 (gb481 ≠ gb485) := ⟨h8_⟩
 have n9_ : Aside0 (gb485 ≠ gb481) := ⟨h9_⟩
 have n10_ : Aside0 (Below w.heap.size w w10) := ⟨h10_⟩
 clear BK480 BK481 HB h0_ h1_ h2_ h3_ h4_ h5_ h6_ h7_ h8_ h9_ h10_
 have HO484 := n0_; have BK480 := n1_; have BK481 := n2_; have BK485 := n3_; have GW485 := n4_; have GE485 := n5_; have NB480_485 := n6_; have NB485_480 := n7_; have NB481_485 := n8_; have NB485_481 := n9_; have HB := n10_
 clear n0_ n1_ n2_ n3_ n4_ n5_ n6_ n7_ n8_ n9_ n10_
 have hHeld : w10.cell? ⟨gb480, 0, none⟩ = some (.slice A0_0 l0_0.length c0_0) ∧ w10.cell? ⟨gb480, 1, none⟩ = some (.int .i64 a0_1) := hS_
 obtain ⟨Ao11, co11, eo11⟩ := Kd.R_slice HO484.out
 (first | subst eo11 | (injection eo11 with f1_ f2_ f3_; have f4_ := f1_.symm; have f5_ := f3_.symm; clear f1_ f2_ f3_; subst f4_; subst f5_))
 refine norm_ (a' := ?_) ?_ ?_
 rotate_left
 ·
  simp only [putAll, Act.put, setIfInBounds_toArray, set_cons_zero, set_cons_succ]
  rfl
 refine one_ (i := 7) (N := none) (mb_ 8 255) rfl rfl (one_of HT_.out (by kernel_rfl)) (by decide) (fun K hK => ?_)
 have hs12 : w10.cell? ⟨gb485, 0, none⟩ = some (.slice none 0 0) := (blk_cell BK485.out 0).trans rfl
 have hfs12 := blk_frozen BK485.out 0
 have hns12_0 := NB480_485.out
 have hns12_1 := NB481_485.out
 have hms12_0 := NB485_480.out
 have hms12_1 := NB485_481.out
 have hs13 : w10.cell? ⟨gb485, 1, none⟩ = some (.int .i64 0) := (blk_cell BK485.out 1).trans rfl
 have hfs13 := blk_frozen BK485.out 1
 have hns13_0 := NB480_485.out
 have hns13_1 := NB481_485.out
 have hms13_0 := NB485_480.out
 have hms13_1 := NB485_481.out
 refine skip_ (w1 := ?_) (by rfl) rfl ?_ ?_
 rotate_left
 ·
  go_simp
  rfl
 refine hK.out _ _ ⟨((cell_far (p := ⟨gb485, _, none⟩) NB480_485.out _).trans (((cell_far (p := ⟨gb485, _, none⟩) NB480_485.out _).trans (hHeld.1)))), ((cell_far (p := ⟨gb485, _, none⟩) NB480_485.out _).trans (((cell_far (p := ⟨gb485, _, none⟩) NB480_485.out _).trans (hHeld.2))))⟩ (fun hHeld => ?_)
 clear hK K
 refine done_ (done_of HT_.out (by kernel_rfl)) ?_
 try go_wp2
 go_loopg [18] k (fun kq v18 w' => ∃ (x18_1 : Int) (x486000_1 : List Bool) (x486001_1 : Int) (u486000 : Value), v18 = .int .i64 x18_1 ∧ Aside0 (impl_Camp_after.l0 kq l1 (l1.length : Int) x18_1 l0_0 a0_1 x486000_1 x486001_1 = some (r1, r2)) ∧ Aside0 (kq ≤ k) ∧ Aside0 (Kd.R Kd.bool 4 w' w.heap.size (fun _ => True) u486000 x486000_1) ∧ Aside0 (w'.heap[gb480]? = some (.cells #[(.slice A0_0 l0_0.length c0_0), .int .i64 a0_1] 35 (0, 0))) ∧ Aside0 (w'.heap[gb481]? = some (.cells #[(.slice none 0 0), .int .i64 0] 35 (0, 0))) ∧ Aside0 (w'.heap[gb485]? = some (.cells #[u486000, .int .i64 x486001_1] 35 (0, 0))) ∧ Aside0 (Below w.heap.size w w'))
 case atStart => exact ⟨(0), (t482), (a0_1), (.slice Ao11 t482.length co11), (ry_), H', ⟨Nat.le_refl _⟩, ⟨by (with_reducible repeat (first | apply Kd.R_alloc | apply Kd.R_drewN | apply Kd.R_drew)); exact Kd.R_mono (Kd.R_far (p := ⟨gb485, 1, none⟩) (Kd.R_far (p := ⟨gb485, 0, none⟩) (Kd.R_types HO484.out BK485.out (by decide)) (fun _ hk => hk.2) (.slice Ao11 t482.length co11)) (fun _ hk => hk.2) (.int .i64 a0_1)) (fun _ hk => trivial)⟩, ⟨by (with_reducible repeat (first | refine kN_ ?_ _ | refine k1_ ?_ | refine ka_ ?_ _)); refine blk_far ?_ NB480_485.out _; (with_reducible repeat (first | refine kN_ ?_ _ | refine k1_ ?_ | refine ka_ ?_ _)); refine blk_far ?_ NB480_485.out _; exact pk BK480.out⟩, ⟨by (with_reducible repeat (first | refine kN_ ?_ _ | refine k1_ ?_ | refine ka_ ?_ _)); refine blk_far ?_ NB481_485.out _; (with_reducible repeat (first | refine kN_ ?_ _ | refine k1_ ?_ | refine ka_ ?_ _)); refine blk_far ?_ NB481_485.out _; exact pk BK481.out⟩, ⟨by (with_reducible repeat (first | refine kN_ ?_ _ | refine k1_ ?_ | refine ka_ ?_ _)); refine blk_put (cs := #[.slice Ao11 t482.length co11, .int .i64 0]) ?_ 1 _ rfl; (with_reducible repeat (first | refine kN_ ?_ _ | refine k1_ ?_ | refine ka_ ?_ _)); refine blk_put (cs := #[.slice none 0 0, .int .i64 0]) ?_ 0 _ rfl; exact pk BK485.out⟩, ⟨by repeat (with_reducible first | exact HB.out | apply ba_ | apply bN_ | apply b1_ | refine below_set ?_ (Aside0.out (by assumption)))⟩⟩
 case round =>
  clear H'
  try clear c1
  try clear p2
  try clear c7
  try clear c9
  obtain ⟨x18_1, x486000_1, x486001_1, u486000, rfl, HA, HK1, HO_486000, BK480, BK481, BK485, HB⟩ := hrel
  cases gk with
  | zero => exact absurd HA.out (by simp [impl_Camp_after.l0])
  | succ k1 =>
   have H := HA.out
   clear HA
   simp only [impl_Camp_after.l0] at H
   by_cases c14 : x18_1 < (l1.length : Int)
   ·
    rw [if_pos c14] at H
    have c14b0 : decide (x18_1 < (l1.length : Int)) = true := decide_eq_true c14
    clear c14
    by_cases c15 : 0 ≤ x18_1
    ·
     rw [if_pos c15] at H
     have c15b0 : decide (0 ≤ x18_1) = true := decide_eq_true c15
     clear c15
     by_cases c16 : x18_1 < (l1.length : Int)
     ·
      rw [if_pos c16] at H
      have c16b0 : decide (x18_1 < (l1.length : Int)) = true := decide_eq_true c16
      clear c16
      by_cases c17 : 0 < ((rd_L1 l1 x18_1).length : Int)
      ·
       rw [if_pos c17] at H
       have c17b0 : decide (0 < ((rd_L1 l1 x18_1).length : Int)) = true := decide_eq_true c17
       have c17b1 : decide (0 < (rd_L1 l1 x18_1).length) = true := decide_eq_true (by omega)
       clear c17
       by_cases c18 : 0 ≤ (rd (rd_L1 l1 x18_1) 0)
       ·
        rw [if_pos c18] at H
        have c18b0 : decide (0 ≤ (rd (rd_L1 l1 x18_1) 0)) = true := decide_eq_true c18
        clear c18
        by_cases c19 : (rd (rd_L1 l1 x18_1) 0) < (l0_0.length : Int)
        ·
         rw [if_pos c19] at H
         have c19b0 : decide ((rd (rd_L1 l1 x18_1) 0) < (l0_0.length : Int)) = true := decide_eq_true c19
         clear c19
         replace H := Option.bind_eq_some_iff.mp H
         obtain ⟨t489, A200, H⟩ := H
         replace H : (impl_Camp_after.l1 k1 l1 (l1.length : Int) x18_1 (rd_L1 l1 x18_1) ((rd_L1 l1 x18_1).length : Int) 0 l0_0 a0_1 x486000_1 (wrap64 (x486001_1 + (wrap64 (1 - (wrap64 (2 * t489))))))) = some (r1, r2) := H
         have A20 := ak_ A200
         clear A200
         have H' := ak_ H
         clear H
         have p486 : 0 ≤ (x18_1 : Int) := odt_ (by assumption)
         have q486 : x18_1 < (l1.length : Int) := odt_ (by assumption)
         obtain ⟨ad486, A486_0, c486_0, e486, hx486_0, hl486_0, hi486_0⟩ := at_L1 HR1.out x18_1 p486 q486
         cases e486
         try replace hx486_0 := (HB.out.cell (World.block_lt_of_cell? w _ hx486_0)).trans hx486_0
         have HR486_0 := ak_ hi486_0
         have HC486_0 := ak_ hl486_0
         clear hi486_0 hl486_0
         replace p486 := eq_true p486
         replace q486 := eq_true q486
         try go_wp2
         have n0_ := ak_ (Kd.R_drew HO_486000.out)
         have n1_ := ak_ (k1_ BK480.out)
         have n2_ := ak_ (k1_ BK481.out)
         have n3_ := ak_ (k1_ BK485.out)
         have n4_ := ak_ (b1_ HB.out)
         clear HO_486000 BK480 BK481 BK485 HB
         have HO_486000 := n0_; have BK480 := n1_; have BK481 := n2_; have BK485 := n3_; have HB := n4_
         clear n0_ n1_ n2_ n3_ n4_
         have p487 : 0 ≤ (0 : Int) := (by omega)
         have q487 : 0 < ((rd_L1 l1 x18_1).length : Int) := odt_ (by assumption)
         obtain ⟨ad487, e487, hx487_0⟩ := Kd.at_int HR486_0.out 0 p487 q487
         have hw487_0 := hx487_0
         (try rw [show ((0 : Int)).toNat = 0 from rfl] at hw487_0)
         (try rw [show 0 * 1 = 0 from rfl] at hw487_0)
         (try rw [Addr.add_zero'] at hw487_0)
         cases e487
         have qi487 : (0 < (rd_L1 l1 x18_1).length) = True := eq_true (by omega)
         (try rw [show ((0 : Int)).toNat = 0 from rfl] at hx487_0)
         (try rw [Addr.add_zero'] at hx487_0)
         try replace hx487_0 := (HB.out.cell (World.block_lt_of_cell? w _ hx487_0)).trans hx487_0
         replace p487 := eq_true p487
         replace q487 := eq_true q487
         have p488 : 0 ≤ ((rd (rd_L1 l1 x18_1) 0) : Int) := odt_ (by assumption)
         have q488 : (rd (rd_L1 l1 x18_1) 0) < (l0_0.length : Int) := odt_ (by assumption)
         obtain ⟨ad488, e488, hx488_0⟩ := Kd.at_bool HR0_0.out (rd (rd_L1 l1 x18_1) 0) p488 q488
         have hw488_0 := hx488_0
         cases e488
         try replace hx488_0 := (HB.out.cell (World.block_lt_of_cell? w _ hx488_0)).trans hx488_0
         replace p488 := eq_true p488
         replace q488 := eq_true q488
         refine start_ (n := 15) (S := fun w' => w'.cell? ⟨gb485, 0, none⟩ = some (u486000) ∧ w'.cell? ⟨gb485, 1, none⟩ = some (.int .i64 x486001_1) ∧ w'.cell? ⟨gb480, 0, none⟩ = some (.slice (some ad488) l0_0.length c0_0) ∧ w'.cell? ⟨gb480, 1, none⟩ = some (.int .i64 a0_1) ∧ w'.cell? ad487 = some (.int .i64 (rd (rd_L1 l1 x18_1) 0)) ∧ w'.cell? (ad488.add ((rd (rd_L1 l1 x18_1) 0)).toNat) = some (.bool (rdOf false l0_0 (rd (rd_L1 l1 x18_1) 0)))) (ds := [14]) (mb_ 15 0) (by kernel_rfl) rfl rfl ⟨(blk_cell BK485.out 0).trans rfl, (blk_cell BK485.out 1).trans rfl, (blk_cell BK480.out 0).trans rfl, (blk_cell BK480.out 1).trans rfl, ((HB.out.cell (World.block_lt_of_cell? w _ hw487_0)).trans hw487_0), ((HB.out.cell (World.block_lt_of_cell? w _ hw488_0)).trans hw488_0)⟩ (fun hHeld => ?_); refine with_tabW impl_Camp_after.tab5 impl_Camp_after.bits5 (fun HT_ HW_ => ?_)
         generalize wr.drew = w21 at HO_486000 BK480 BK481 BK485 HB hx487_0 hx488_0 hHeld ⊢
         refine pu_ 0 22 15 1 ?_
         refine pu_ 2 24 15 5 ?_
         refine pu_ 4 26 15 21 ?_
         refine pu_ 5 27 15 53 ?_
         refine tk_ 1 23 15 55 ?_ (hy := by rintro w' ⟨s0, s1, s2, s3, s4, s5⟩; go_simp; with_reducible rfl)
         refine tk_ 3 25 15 63 ?_ (hy := by rintro w' ⟨s0, s1, s2, s3, s4, s5⟩; go_simp; with_reducible rfl)
         refine tk_ 6 28 15 127 ?_ (hy := by rintro w' ⟨s0, s1, s2, s3, s4, s5⟩; go_simp; with_reducible rfl)
         refine pu_ 7 29 15 255 ?_
         refine tk_ 8 30 15 511 ?_ (hy := by rintro w' ⟨s0, s1, s2, s3, s4, s5⟩; go_simp; with_reducible rfl)
         refine on_ 9 31 15 1023 (fun K hK => ?_)
         refine goes_ Try.func81 (by kernel_rfl) rfl #[.bool (rdOf false l0_0 (rd (rd_L1 l1 x18_1) 0))] (by rfl) rfl rfl (by first | rfl | (simp only [map_toArray, map_cons, map_nil]; try rfl)) ?_
         with_reducible refine (impl_bit.calls (rdOf false l0_0 (rd (rd_L1 l1 x18_1) 0)) t489 _ A20.out).mono ?_
         rintro e w' ⟨rfl, ⟨nd, rfl⟩⟩
         refine ⟨_, rfl, ?_⟩
         refine hK.out _ _ ⟨(blk_cell BK485.out 0).trans rfl, (blk_cell BK485.out 1).trans rfl, (blk_cell BK480.out 0).trans rfl, (blk_cell BK480.out 1).trans rfl, ((HB.out.cell (World.block_lt_of_cell? w _ hw487_0)).trans hw487_0), ((HB.out.cell (World.block_lt_of_cell? w _ hw488_0)).trans hw488_0)⟩ (fun hHeld => ?_)
         clear hK K
         refine nm_ ?_
         refine pu_ 10 32 15 2047 ?_
         refine pu_ 11 33 15 4095 ?_
         refine pu_ 12 34 15 8191 ?_
         refine pu_ 13 35 15 16383 ?_
         refine last_ (i := 14) (N := none) (mb_ 15 32767) rfl rfl (one_of HT_.out (by kernel_rfl)) (by decide) (fun K hK => ?_)
         have hs22 : w21.cell? ⟨gb485, 1, none⟩ = some (.int .i64 x486001_1) := (blk_cell BK485.out 1).trans rfl
         have hfs22 := blk_frozen BK485.out 1
         have hns22_0 := NB480_485.out
         have hns22_1 := NB481_485.out
         have hms22_0 := NB485_480.out
         have hms22_1 := NB485_481.out
         refine skip_ (w1 := ?_) (by rfl) rfl ?_ ?_
         rotate_left
         ·
          go_simp
          rfl
         refine hK.out _ _ ?_
         clear hK K
         refine done_ (done_of HT_.out (by kernel_rfl)) ?_
         try go_wp2
         go_loopg [38] k1 (fun kq v38 w' => ∃ (x38_2 : Int) (x486000_2 : List Bool) (u486000 : Value), v38 = .int .i64 x38_2 ∧ Aside0 (impl_Camp_after.l1 kq l1 (l1.length : Int) x18_1 (rd_L1 l1 x18_1) ((rd_L1 l1 x18_1).length : Int) x38_2 l0_0 a0_1 x486000_2 (wrap64 (x486001_1 + (wrap64 (1 - (wrap64 (2 * t489)))))) = some (r1, r2)) ∧ Aside0 (kq ≤ k1) ∧ Aside0 (Kd.R Kd.bool 4 w' w.heap.size (fun _ => True) u486000 x486000_2) ∧ Aside0 (w'.heap[gb480]? = some (.cells #[(.slice (some ad488) l0_0.length c0_0), .int .i64 a0_1] 35 (0, 0))) ∧ Aside0 (w'.heap[gb481]? = some (.cells #[(.slice none 0 0), .int .i64 0] 35 (0, 0))) ∧ Aside0 (w'.heap[gb485]? = some (.cells #[u486000, .int .i64 (wrap64 (x486001_1 + (wrap64 (1 - (wrap64 (2 * t489))))))] 35 (0, 0))) ∧ Aside0 (Below w.heap.size w w'))
         case atStart => exact ⟨(0), (x486000_1), (u486000), (ry_), H', ⟨Nat.le_refl _⟩, ⟨by (with_reducible repeat (first | apply Kd.R_alloc | apply Kd.R_drewN | apply Kd.R_drew)); exact Kd.R_mono (Kd.R_far (p := ⟨gb485, 1, none⟩) (Kd.R_types HO_486000.out BK485.out (by decide)) (fun _ hk => hk.2) (.int .i64 (wrap64 (x486001_1 + (wrap64 (1 - (wrap64 (2 * t489)))))))) (fun _ hk => trivial)⟩, ⟨by (with_reducible repeat (first | refine kN_ ?_ _ | refine k1_ ?_ | refine ka_ ?_ _)); refine blk_far ?_ NB480_485.out _; exact pk BK480.out⟩, ⟨by (with_reducible repeat (first | refine kN_ ?_ _ | refine k1_ ?_ | refine ka_ ?_ _)); refine blk_far ?_ NB481_485.out _; exact pk BK481.out⟩, ⟨by (with_reducible repeat (first | refine kN_ ?_ _ | refine k1_ ?_ | refine ka_ ?_ _)); refine blk_put (cs := #[u486000, .int .i64 x486001_1]) ?_ 1 _ rfl; exact pk BK485.out⟩, ⟨by repeat (with_reducible first | exact HB.out | apply ba_ | apply bN_ | apply b1_ | refine below_set ?_ (Aside0.out (by assumption)))⟩⟩
         case round =>
          clear H'
          try clear c1
          try clear p2
          try clear c4
          try clear p4
          try clear q4
          try clear hx4
          try clear qi4
          try clear p6
          try clear c7
          try clear c8
          try clear c9
          try clear c14
          try clear c14b0
          try clear c15
          try clear c15b0
          try clear c16
          try clear c16b0
          try clear c17
          try clear c17b0
          try clear c17b1
          try clear c18
          try clear c18b0
          try clear c19
          try clear c19b0
          try clear hx486_0
          try clear hx487_0
          try clear hx488_0
          try clear p2
          try clear p486
          try clear p487
          try clear p488
          try clear q486
          try clear q487
          try clear q488
          obtain ⟨x38_2, x486000_2, u486000, rfl, HA, HK2, HO_486000, BK480, BK481, BK485, HB⟩ := hrel
          cases gk with
          | zero => exact absurd HA.out (by simp [impl_Camp_after.l1])
          | succ k2 =>
           have H := HA.out
           clear HA
           simp only [impl_Camp_after.l1] at H
           by_cases c23 : x38_2 < ((rd_L1 l1 x18_1).length : Int)
           ·
            rw [if_pos c23] at H
            have c23b0 : decide (x38_2 < ((rd_L1 l1 x18_1).length : Int)) = true := decide_eq_true c23
            clear c23
            by_cases c24 : 0 ≤ x38_2
            ·
             rw [if_pos c24] at H
             have c24b0 : decide (0 ≤ x38_2) = true := decide_eq_true c24
             clear c24
             by_cases c25 : x38_2 < ((rd_L1 l1 x18_1).length : Int)
             ·
              rw [if_pos c25] at H
              have c25b0 : decide (x38_2 < ((rd_L1 l1 x18_1).length : Int)) = true := decide_eq_true c25
              clear c25
              by_cases c26 : 0 ≤ (rd (rd_L1 l1 x18_1) x38_2)
              ·
               rw [if_pos c26] at H
               have c26b0 : decide (0 ≤ (rd (rd_L1 l1 x18_1) x38_2)) = true := decide_eq_true c26
               clear c26
               by_cases c27 : (rd (rd_L1 l1 x18_1) x38_2) < (l0_0.length : Int)
               ·
                rw [if_pos c27] at H
                have c27b0 : decide ((rd (rd_L1 l1 x18_1) x38_2) < (l0_0.length : Int)) = true := decide_eq_true c27
                clear c27
                by_cases c28 : (rd (rd_L1 l1 x18_1) x38_2) < (x486000_2.length : Int)
                ·
                 rw [if_pos c28] at H
                 have c28b0 : decide ((rd (rd_L1 l1 x18_1) x38_2) < (x486000_2.length : Int)) = true := decide_eq_true c28
                 clear c28
                 obtain ⟨y492, hy492⟩ : ∃ y_ : List Bool, y_ = (x486000_2.set ((rd (rd_L1 l1 x18_1) x38_2) : Int).toNat (!(rdOf false l0_0 (rd (rd_L1 l1 x18_1) x38_2)))) := ⟨_, rfl⟩
                 replace H : (impl_Camp_after.l1 k2 l1 (l1.length : Int) x18_1 (rd_L1 l1 x18_1) ((rd_L1 l1 x18_1).length : Int) (wrap64 (x38_2 + 1)) l0_0 a0_1 y492 (wrap64 (x486001_1 + (wrap64 (1 - (wrap64 (2 * t489))))))) = some (r1, r2) := by first | (rw [hy492]; exact H) | exact H
                 have Ny492 := ak_ hy492
                 clear hy492
                 have H' := ak_ H
                 clear H
                 have p490 : 0 ≤ (x38_2 : Int) := odt_ (by assumption)
                 have q490 : x38_2 < ((rd_L1 l1 x18_1).length : Int) := odt_ (by assumption)
                 obtain ⟨ad490, e490, hx490_0⟩ := Kd.at_int HR486_0.out x38_2 p490 q490
                 obtain rfl : ad487 = ad490 := (by injection e490)
                 try replace hx490_0 := (HB.out.cell (World.block_lt_of_cell? w _ hx490_0)).trans hx490_0
                 replace p490 := eq_true p490
                 replace q490 := eq_true q490
                 try go_wp2
                 have n0_ := ak_ (Kd.R_drew HO_486000.out)
                 have n1_ := ak_ (k1_ BK480.out)
                 have n2_ := ak_ (k1_ BK481.out)
                 have n3_ := ak_ (k1_ BK485.out)
                 have n4_ := ak_ (b1_ HB.out)
                 clear HO_486000 BK480 BK481 BK485 HB
                 have HO_486000 := n0_; have BK480 := n1_; have BK481 := n2_; have BK485 := n3_; have HB := n4_
                 clear n0_ n1_ n2_ n3_ n4_
                 have p491 : 0 ≤ ((rd (rd_L1 l1 x18_1) x38_2) : Int) := odt_ (by assumption)
                 have q491 : (rd (rd_L1 l1 x18_1) x38_2) < (l0_0.length : Int) := odt_ (by assumption)
                 obtain ⟨ad491, e491, hx491_0⟩ := Kd.at_bool HR0_0.out (rd (rd_L1 l1 x18_1) x38_2) p491 q491
                 have hw491_0 := hx491_0
                 obtain rfl : ad488 = ad491 := (by injection e491)
                 try replace hx491_0 := (HB.out.cell (World.block_lt_of_cell? w _ hx491_0)).trans hx491_0
                 replace p491 := eq_true p491
                 replace q491 := eq_true q491
                 have p29 : 0 ≤ ((rd (rd_L1 l1 x18_1) x38_2) : Int) := odt_ (by assumption)
                 have q29 : ((rd (rd_L1 l1 x18_1) x38_2) : Int) < ((x486000_2.length : Int) : Int) := odt_ (by assumption)
                 obtain ⟨go29, co29, eo29, gb29, gl29, cl29, HG29⟩ := Kd.R_form HO_486000.out (by omega)
                 (first | cases eo29 | (injection eo29 with ea_ en_ ec_; (first | subst ea_ | (injection ea_ with ea_; subst ea_)); subst ec_; clear en_))
                 have GB29 := ak_ gb29
                 have GG29 := ak_ HG29
                 clear gb29 gl29 HG29
                 obtain ⟨hx29_0, hf29_0⟩ := Kd.R_celln false HO_486000.out ((rd (rd_L1 l1 x18_1) x38_2) : Int) p29 q29
                 replace p29 := eq_true p29
                 replace q29 := eq_true q29
                 have HP31 := Kd.R_putn HO_486000.out ((rd (rd_L1 l1 x18_1) x38_2) : Int) (!(rdOf false l0_0 (rd (rd_L1 l1 x18_1) x38_2)))
                 rw [← Ny492.out] at HP31
                 have HQ31 := ak_ HP31
                 clear HP31
                 refine start_ (n := 11) (S := fun w' => w'.cell? ⟨gb485, 0, none⟩ = some (.slice (some ⟨go29, 0, none⟩) x486000_2.length co29) ∧ w'.cell? ⟨gb485, 1, none⟩ = some (.int .i64 (wrap64 (x486001_1 + (wrap64 (1 - (wrap64 (2 * t489))))))) ∧ w'.cell? ⟨gb480, 0, none⟩ = some (.slice (some ad488) l0_0.length c0_0) ∧ w'.cell? ⟨gb480, 1, none⟩ = some (.int .i64 a0_1) ∧ w'.cell? (ad488.add ((rd (rd_L1 l1 x18_1) x38_2)).toNat) = some (.bool (rdOf false l0_0 (rd (rd_L1 l1 x18_1) x38_2)))) (ds := [10]) (mb_ 11 0) (by kernel_rfl) rfl rfl ⟨(blk_cell BK485.out 0).trans rfl, (blk_cell BK485.out 1).trans rfl, (blk_cell BK480.out 0).trans rfl, (blk_cell BK480.out 1).trans rfl, ((HB.out.cell (World.block_lt_of_cell? w _ hw491_0)).trans hw491_0)⟩ (fun hHeld => ?_); refine with_tabW impl_Camp_after.tab9 impl_Camp_after.bits9 (fun HT_ HW_ => ?_)
                 generalize wr.drew = w30 at HO_486000 BK480 BK481 BK485 HB GG29 HQ31 hf29_0 hx29_0 hx491_0 hHeld ⊢
                 refine pu_ 0 42 11 1 ?_
                 refine pu_ 2 44 11 5 ?_
                 refine pu_ 3 45 11 13 ?_
                 refine pu_ 5 47 11 45 ?_
                 refine tk_ 1 43 11 47 ?_ (hy := by rintro w' ⟨s0, s1, s2, s3, s4⟩; go_simp; with_reducible rfl)
                 refine tk_ 4 46 11 63 ?_ (hy := by rintro w' ⟨s0, s1, s2, s3, s4⟩; go_simp; with_reducible rfl)
                 refine pu_ 6 48 11 127 ?_
                 refine tk_ 7 49 11 255 ?_ (hy := by rintro w' ⟨s0, s1, s2, s3, s4⟩; go_simp; with_reducible rfl)
                 refine pu_ 8 50 11 511 ?_
                 refine pu_ 9 51 11 1023 ?_
                 refine last_ (i := 10) (N := none) (mb_ 11 2047) rfl rfl (one_of HT_.out (by kernel_rfl)) (by decide) (fun K hK => ?_)
                 refine skip_ (w1 := ?_) (by rfl) rfl ?_ ?_
                 rotate_left
                 ·
                  go_simp
                  rfl
                 refine hK.out _ _ ?_
                 clear hK K
                 refine done_ (done_of HT_.out (by kernel_rfl)) ?_
                 try go_wp2
                 go_roundg k2
                 case measure => have := HK1.out; have := HK2.out; omega
                 case rel => exact ⟨(wrap64 (x38_2 + 1)), (y492), (.slice (some ⟨go29, 0, none⟩) x486000_2.length co29), (ry_), H', ⟨by have := HK1.out; have := HK2.out; omega⟩, ⟨Kd.pR HQ31.out⟩, ⟨by (with_reducible repeat (first | refine kN_ ?_ _ | refine k1_ ?_ | refine ka_ ?_ _)); refine blk_far ?_ (by have h_ := Kd.R_ne HO_486000.out BK480.out (by decide); intro e_; exact h_ (by rw [e_]; rfl)) _; exact pk BK480.out⟩, ⟨by (with_reducible repeat (first | refine kN_ ?_ _ | refine k1_ ?_ | refine ka_ ?_ _)); refine blk_far ?_ (by have h_ := Kd.R_ne HO_486000.out BK481.out (by decide); intro e_; exact h_ (by rw [e_]; rfl)) _; exact pk BK481.out⟩, ⟨by (with_reducible repeat (first | refine kN_ ?_ _ | refine k1_ ?_ | refine ka_ ?_ _)); refine blk_far ?_ (by have h_ := Kd.R_ne HO_486000.out BK485.out (by decide); intro e_; exact h_ (by rw [e_]; rfl)) _; exact pk BK485.out⟩, ⟨by repeat (with_reducible first | exact HB.out | apply ba_ | apply bN_ | apply b1_ | refine below_set ?_ GB29.out | refine below_set ?_ (Aside0.out (by assumption)))⟩⟩
                ·
                 rw [if_neg c28] at H
                 exact absurd H (by simp)
               ·
                rw [if_neg c27] at H
                exact absurd H (by simp)
              ·
               rw [if_neg c26] at H
               exact absurd H (by simp)
             ·
              rw [if_neg c25] at H
              exact absurd H (by simp)
            ·
             rw [if_neg c24] at H
             exact absurd H (by simp)
           ·
            rw [if_neg c23] at H
            have c23b0 : decide (x38_2 < ((rd_L1 l1 x18_1).length : Int)) = false := decide_eq_false c23
            clear c23
            have H' := ak_ H
            clear H
            go_wp2
            go_roundg k2
            case measure => have := HK1.out; have := HK2.out; omega
            case rel => exact ⟨(wrap64 (x18_1 + 1)), (x486000_2), ((wrap64 (x486001_1 + (wrap64 (1 - (wrap64 (2 * t489))))))), (u486000), (ry_), H', ⟨by have := HK1.out; have := HK2.out; omega⟩, ⟨Kd.pR HO_486000.out⟩, ⟨pk BK480.out⟩, ⟨pk BK481.out⟩, ⟨pk BK485.out⟩, ⟨by repeat (with_reducible first | exact HB.out | apply ba_ | apply bN_ | apply b1_ | refine below_set ?_ (Aside0.out (by assumption)))⟩⟩
        ·
         rw [if_neg c19] at H
         exact absurd H (by simp)
       ·
        rw [if_neg c18] at H
        exact absurd H (by simp)
      ·
       rw [if_neg c17] at H
       exact absurd H (by simp)
     ·
      rw [if_neg c16] at H
      exact absurd H (by simp)
    ·
     rw [if_neg c15] at H
     exact absurd H (by simp)
   ·
    rw [if_neg c14] at H
    have c14b0 : decide (x18_1 < (l1.length : Int)) = false := decide_eq_false c14
    clear c14
    simp only [Option.some.injEq, Prod.mk.injEq] at H
    obtain ⟨rfl, rfl⟩ := H
    have hnb32 := NB485_480.out
    have hnc32 := NB480_485.out
    have hnb33 := NB485_481.out
    have hnc33 := NB481_485.out
    have hcz34_0 : wr.cell? ⟨gb485, 0, none⟩ = some (u486000) := (blk_cell BK485.out 0).trans rfl
    have hcz34_1 : wr.cell? ⟨gb485, 1, none⟩ = some (.int .i64 x486001_1) := (blk_cell BK485.out 1).trans rfl
    have hfz34_0 := blk_frozen BK485.out 0
    have hfz34_1 := blk_frozen BK485.out 1
    obtain ⟨Ao35, co35, eo35⟩ := Kd.R_slice HO_486000.out
    subst eo35
    have hnb36 := NB481_480.out
    have hnc36 := NB480_481.out
    have hcz37_0 : wr.cell? ⟨gb481, 0, none⟩ = some (.slice none 0 0) := (blk_cell BK481.out 0).trans rfl
    have hcz37_1 : wr.cell? ⟨gb481, 1, none⟩ = some (.int .i64 0) := (blk_cell BK481.out 1).trans rfl
    have hfz37_0 := blk_frozen BK481.out 0
    have hfz37_1 := blk_frozen BK481.out 1
    go_wp2
    refine bodyPost_ret (results_cell_row rfl _ _ gb481 35 #[.slice Ao35 x486000_1.length co35, .int .i64 x486001_1] (0, 0) _ rfl (by (with_reducible repeat (first | refine kN_ ?_ _ | refine k1_ ?_ | refine ka_ ?_ _)); refine blk_put (cs := #[.slice Ao35 x486000_1.length co35, .int .i64 0]) ?_ 1 _ rfl; (with_reducible repeat (first | refine kN_ ?_ _ | refine k1_ ?_ | refine ka_ ?_ _)); refine blk_put (cs := #[.slice none 0 0, .int .i64 0]) ?_ 0 _ rfl; exact pk BK481.out) Try.underlying35 rfl (by kernel_rfl)) rfl ?_
    exact ⟨_, rx_, by (with_reducible repeat (first | apply Kd.R_alloc | apply Kd.R_drewN | apply Kd.R_drew)); exact Kd.R_mono (Kd.R_far (p := ⟨gb481, 1, none⟩) (Kd.R_far (p := ⟨gb481, 0, none⟩) (Kd.R_types HO_486000.out BK481.out (by decide)) (fun _ hk => hk.2) (.slice Ao35 x486000_1.length co35)) (fun _ hk => hk.2) (.int .i64 x486001_1)) (fun _ hk => trivial), by repeat (with_reducible first | exact HB.out | apply ba_ | apply bN_ | apply b1_ | refine below_set ?_ (Aside0.out (by assumption)))⟩
end Go.Proofs.Ytmdbhpbogbekmaa.QNt
