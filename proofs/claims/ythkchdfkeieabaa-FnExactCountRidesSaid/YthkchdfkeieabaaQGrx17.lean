/- Contracts of functions of the given program, walked: each call returns what its Lean function says. Conditions: those that stand at each theorem. (Written by a program of this session.) -/
import Derived.Test.YthkchdfkeieabaaQGrx0
import Derived.Test.YthkchdfkeieabaaQGrx15
import Derived.Test.YthkchdfkeieabaaQGrx16
namespace Go.Proofs.Ythkchdfkeieabaa.QGr
open Go.RowKit Go.Proofs.YthkchdfkeieabaaW.PrintWords Go.Proofs.YthkchdfkeieabaaW.PrintLast Go.Proofs.YthkchdfkeieabaaW.PrintMore
open List (setIfInBounds_toArray set_cons_zero set_cons_succ map_toArray map_cons map_nil)
attribute [local go_sem] max2_int min2_int max_two min_two max_three min_three max_four min_four
set_option linter.unusedVariables false
set_option maxHeartbeats 8000000
set_option maxRecDepth 100000
set_option linter.unusedSimpArgs false
def impl_State_moved.l0 : Nat → List Int → Int → Int → List Bool → Bool → Option (List Bool × Bool)
 | 0, _, _, _, _, _ => none
 | k + 1, x15, x16, x17, x465000, x465001 => if x17 < x16 then (if 0 ≤ x17 then (if x17 < (x15.length : Int) then (if 0 ≤ (rd x15 x17) then (if (rd x15 x17) < (x465000.length : Int) then (impl_State_moved.l0 k x15 x16 (wrap64 (x17 + 1)) (x465000.set ((rd x15 x17) : Int).toNat x465001) x465001) else (none)) else (none)) else (none)) else (none)) else (some (x465000, x465001))
def impl_State_moved.f (k : Nat) (l0_0 : List Bool) (a0_1 : Bool) (l1 : List Int) : Option (List Bool × Bool) := (slices_Clone_bool_bool.f l0_0).bind fun t461 => (impl_State_moved.l0 k l1 (l1.length : Int) 0 t461 (!a0_1))
theorem impl_State_moved.mono_l : ∀ k, (∀ y0 y1 y2 y3 y4, LeO (impl_State_moved.l0 k y0 y1 y2 y3 y4) (impl_State_moved.l0 (k + 1) y0 y1 y2 y3 y4))
 | 0 => fun _ _ _ _ _ r h => by simp [impl_State_moved.l0] at h
 | k + 1 => by
  have ih0 := impl_State_moved.mono_l k
  ·intro y0 y1 y2 y3 y4
   unfold impl_State_moved.l0
   repeat' first
   | (with_reducible first | exact ih0 _ _ _ _ _ | exact LeO.refl _ | exact LeO.none _ | refine LeO.ite ?_ ?_ | refine LeO.bind ?_ (fun _ => ?_))
   | exact ih0 _ _ _ _ _
   | exact LeO.none _
   | refine LeO.ite ?_ ?_
   | refine LeO.bind ?_ (fun _ => ?_)
theorem impl_State_moved.mono : ∀ a0 a1 a2 k, LeO (impl_State_moved.f k a0 a1 a2) (impl_State_moved.f (k + 1) a0 a1 a2) := by
 intro a0 a1 a2 k
 have ih0 := impl_State_moved.mono_l k
 unfold impl_State_moved.f
 repeat' first
  | (with_reducible first | exact ih0 _ _ _ _ _ | exact LeO.refl _ | exact LeO.none _ | refine LeO.ite ?_ ?_ | refine LeO.bind ?_ (fun _ => ?_))
  | exact ih0 _ _ _ _ _
  | exact LeO.none _
  | refine LeO.ite ?_ ?_
  | refine LeO.bind ?_ (fun _ => ?_)
def impl_State_moved.T1 : Bool × List (List Nat × List Nat) := (true, [([], []), ([0], [0]), ([1], [1]), ([], []), ([3], [3]), ([4], [4]), ([2, 5], [2, 5]), ([], []), ([7, 6, 2, 0, 1, 2, 3, 4, 5, 6, 7], [6, 7])])
def impl_State_moved.B1 : List Nat := [0, 1, 3, 0, 8, 24, 63, 0, 255]
theorem impl_State_moved.tab1 : rtab .any (opsOf Try.f125 1) = impl_State_moved.T1 := by kernel_rfl
theorem impl_State_moved.bits1 : waitsOk impl_State_moved.T1.2 impl_State_moved.B1 = true := by kernel_rfl
theorem impl_State_moved.calls (k : Nat) (A0_0 : Option Addr) (c0_0 : Nat) (l0_0 : List Bool) (a0_1 : Bool) (A1 : Option Addr) (c1 : Nat) (l1 : List Int) (r1 : List Bool) (r2 : Bool) (w : World) (hr0_0 : Kd.C Kd.bool w A0_0 l0_0.length l0_0) (hc0_0 : l0_0.length ≤ c0_0) (hr1 : Kd.C (Kd.int .i64) w A1 l1.length l1) (hc1 : l1.length ≤ c1) (h : impl_State_moved.f k l0_0 a0_1 l1 = some (r1, r2)) :
  Calls Try.prog 125 #[.agg #[.slice A0_0 l0_0.length c0_0, .bool a0_1], .slice A1 l1.length c1] w fun e w' => ∃ v0_ : Value, e = .returned (.agg #[v0_, .bool r2]) ∧ Kd.R Kd.bool 4 w' w.heap.size (fun _ => True) v0_ r1 ∧ Below w.heap.size w w' := by
 have hu115 := Try.underlying115
 have HR0_0 := ak_ hr0_0
 have HC0_0 := ak_ hc0_0
 clear hr0_0 hc0_0
 have HR1 := ak_ hr1
 have HC1 := ak_ hc1
 clear hr1 hc1
 have HB := ak_ (Below.refl w.heap.size w)
 have H : ((slices_Clone_bool_bool.f l0_0).bind fun t461 => (impl_State_moved.l0 k l1 (l1.length : Int) 0 t461 (!a0_1))) = some (r1, r2) := h
 clear h
 replace H := Option.bind_eq_some_iff.mp H
 obtain ⟨t461, A30, H⟩ := H
 replace H : (impl_State_moved.l0 k l1 (l1.length : Int) 0 t461 (!a0_1)) = some (r1, r2) := H
 have A3 := ak_ A30
 clear A30
 have H' := ak_ H
 clear H
 go_enter Try.func125, Try.ntmps125
 try go_wp2_with (first | ((with_reducible refine gate_dst (N := 2) rfl ?_); refine bx_ 2 #[.slice A0_0 l0_0.length c0_0, .bool a0_1] 115 ?_; intro gb459 hg w4 hbox hb; have n0_ := ak_ (bs_ (bb_ HB.out) hb); have n1_ := ak_ (hbox); have n2_ := ak_ ((by rw [hg]; exact (bz_ (bb_ HB.out)) : w.heap.size ≤ gb459)); have n3_ := n2_; clear HB; have HB := n0_; have BK459 := n1_; have GW459 := n2_; have GE459 := n3_; clear n0_ n1_ n2_ n3_; clear hb hbox hg) | ((with_reducible refine gate_dst (N := 4) rfl ?_); refine bx_ 4 #[.slice none 0 0, .bool false] 115 ?_; intro gb460 hg w5 hbox hb; have n0_ := ak_ (blk_below (pk BK459.out) hb); have n1_ := ak_ (bs_ bl_ hb); have n2_ := ak_ (hbox); have n3_ := ak_ ((by rw [hg]; exact (bz_ bl_) : w.heap.size ≤ gb460)); have n4_ := n3_; have n5_ := ak_ ((by rw [hg]; exact Nat.ne_of_lt (blk_lt (pk BK459.out)) : gb459 ≠ gb460)); have n6_ := ak_ n5_.out.symm; clear BK459; clear HB; have BK459 := n0_; have HB := n1_; have BK460 := n2_; have GW460 := n3_; have GE460 := n4_; have NB459_460 := n5_; have NB460_459 := n6_; clear n0_ n1_ n2_ n3_ n4_ n5_ n6_; clear hb hbox hg))
 have n0_ := ak_ (k1_ BK459.out)
 have n1_ := ak_ (k1_ BK460.out)
 have n2_ := ak_ (b1_ HB.out)
 clear BK459 BK460 HB
 have BK459 := n0_; have BK460 := n1_; have HB := n2_
 clear n0_ n1_ n2_
 refine start_ (n := 9) (S := fun w' => w'.cell? ⟨gb459, 0, none⟩ = some (.slice A0_0 l0_0.length c0_0) ∧ w'.cell? ⟨gb459, 1, none⟩ = some (.bool a0_1)) (ds := []) (mb_ 9 0) (by kernel_rfl) rfl rfl ⟨(blk_cell BK459.out 0).trans rfl, (blk_cell BK459.out 1).trans rfl⟩ (fun hHeld => ?_); refine with_tabW impl_State_moved.tab1 impl_State_moved.bits1 (fun HT_ HW_ => ?_)
 generalize w5.drew = w6 at BK459 BK460 HB hHeld ⊢
 refine pu_ 0 8 9 1 ?_
 refine pu_ 3 11 9 9 ?_
 refine tk_ 1 9 9 11 ?_ (hy := by rintro w' ⟨s0, s1⟩; go_simp; with_reducible rfl)
 refine tk_ 4 12 9 27 ?_ (hy := by rintro w' ⟨s0, s1⟩; go_simp; with_reducible rfl)
 refine pu_ 5 13 9 59 ?_
 refine join_ (σ := Value × Nat) 1 (mb_ 9 255) (fun s_ => [(10, s_.1), (5, .pointer (some ⟨s_.2, 0, none⟩)), (14, .agg #[s_.1, .bool (!a0_1)])]) (fun s_ w' => (w'.cell? ⟨gb459, 0, none⟩ = some (.slice A0_0 l0_0.length c0_0) ∧ w'.cell? ⟨gb459, 1, none⟩ = some (.bool a0_1)) ∧ (Kd.R Kd.bool 4 w' w.heap.size (fun _ => True) s_.1 t461) ∧ (w'.heap[gb459]? = some (.cells #[.slice A0_0 l0_0.length c0_0, .bool a0_1] 115 (0, 0))) ∧ (w'.heap[gb460]? = some (.cells #[.slice none 0 0, .bool false] 115 (0, 0))) ∧ (w'.heap[s_.2]? = some (.cells #[.slice none 0 0, .bool false] 115 (0, 0))) ∧ (w.heap.size ≤ s_.2) ∧ (w.heap.size ≤ s_.2) ∧ (gb459 ≠ s_.2) ∧ (s_.2 ≠ gb459) ∧ (gb460 ≠ s_.2) ∧ (s_.2 ≠ gb460) ∧ (Below w.heap.size w w')) ?_ ?_
 rotate_left
 ·
  intro hCont
  refine two_ (i := 2) (j := 7) (Ni := some 10) (Nj := some 5) (mb_ 9 63) (mb_ 9 187) rfl rfl rfl rfl (two_of HT_.out (by kernel_rfl)) (by decide) (by decide) (fun K hK => ?_) (fun K hK => ?_)
  ·
   skip
   refine goes_ Try.func159 (by kernel_rfl) rfl #[.slice A0_0 l0_0.length c0_0] (by rfl) rfl rfl (by first | rfl | (simp only [map_toArray, map_cons, map_nil]; try rfl)) ?_
   with_reducible refine (slices_Clone_bool_bool.calls _ _ l0_0 t461 _ ?side1 ?side2 A3.out).mono ?_
   (case side1 => repeat (first | exact (Kd.C_below HR0_0.out HB.out) | (with_reducible refine Kd.C_alloc ?_ _) | (with_reducible refine Kd.C_drewN ?_ _) | (with_reducible refine Kd.C_drew ?_)))
   (case side2 => exact HC0_0.out)
   rintro e w7 ⟨v462, rfl, ho0, hb⟩
   refine ⟨_, rfl, ?_⟩
   have n0_ := ak_ (Kd.R_lower ho0 (bz_ bl_))
   have n1_ := ak_ (blk_below (pk BK459.out) hb)
   have n2_ := ak_ (blk_below (pk BK460.out) hb)
   have n3_ := ak_ (bs_ bl_ hb)
   clear BK459 BK460 HB
   have HO463 := n0_; have BK459 := n1_; have BK460 := n2_; have HB := n3_
   clear n0_ n1_ n2_ n3_
   (try clear hb)
   (try clear hb2)
   (try clear hk)
   (try clear hi)
   (try clear ho0)
   obtain ⟨Ao8, co8, eo8⟩ := Kd.R_slice HO463.out
   (first | subst eo8 | (injection eo8 with f1_ f2_ f3_; have f4_ := f1_.symm; have f5_ := f3_.symm; clear f1_ f2_ f3_; subst f4_; subst f5_))
   refine hK.out _ _ ⟨(blk_cell BK459.out 0).trans rfl, (blk_cell BK459.out 1).trans rfl⟩ (fun hHeld => ?_)
   clear hK K
   refine nm_ ?_
   refine pu_ 6 14 9 127 ?_
   refine on_ 7 5 9 255 (fun K hK => ?_)
   refine box_step ?hg (N := 5) ?hd (cs := #[.slice none 0 0, .bool false]) (t := 115) ?hr ?_; (case hd => rfl); (case hg => rfl); (case hr => go_simp <;> rfl)
   intro gb464 hg w9 hbox hb
   have n0_ := ak_ (Kd.R_below (Kd.pR HO463.out) hb)
   have n1_ := ak_ (blk_below (pk BK459.out) hb)
   have n2_ := ak_ (blk_below (pk BK460.out) hb)
   have n3_ := ak_ (bs_ bl_ hb)
   have n4_ := ak_ (hbox)
   have n5_ := ak_ ((by rw [hg]; exact (bz_ bl_) : w.heap.size ≤ gb464))
   have n6_ := n5_
   have n7_ := ak_ ((by rw [hg]; exact Nat.ne_of_lt (blk_lt (pk BK459.out)) : gb459 ≠ gb464))
   have n8_ := ak_ n7_.out.symm
   have n9_ := ak_ ((by rw [hg]; exact Nat.ne_of_lt (blk_lt (pk BK460.out)) : gb460 ≠ gb464))
   have n10_ := ak_ n9_.out.symm
   clear HO463 BK459 BK460 HB
   have HO463 := n0_; have BK459 := n1_; have BK460 := n2_; have HB := n3_; have BK464 := n4_; have GW464 := n5_; have GE464 := n6_; have NB459_464 := n7_; have NB464_459 := n8_; have NB460_464 := n9_; have NB464_460 := n10_
   clear n0_ n1_ n2_ n3_ n4_ n5_ n6_ n7_ n8_ n9_ n10_ hb hbox hg
   refine hK.out _ _ ⟨(blk_cell BK459.out 0).trans rfl, (blk_cell BK459.out 1).trans rfl⟩ (fun hHeld => ?_)
   clear hK K
   refine nm_ ?_
   exact norm_ (by simp only [putAll, Act.put, setIfInBounds_toArray, set_cons_zero, set_cons_succ]) (hCont (.slice Ao8 t461.length co8, gb464) _ ⟨hHeld, (Kd.pR HO463.out), (pk BK459.out), (pk BK460.out), (pk BK464.out), GW464.out, GE464.out, NB459_464.out, NB464_459.out, NB460_464.out, NB464_460.out, bl_⟩)
  ·
   skip
   refine box_step ?hg (N := 5) ?hd (cs := #[.slice none 0 0, .bool false]) (t := 115) ?hr ?_; (case hd => rfl); (case hg => rfl); (case hr => go_simp <;> rfl)
   intro gb464 hg w7 hbox hb
   have n0_ := ak_ (blk_below (pk BK459.out) hb)
   have n1_ := ak_ (blk_below (pk BK460.out) hb)
   have n2_ := ak_ (bs_ bl_ hb)
   have n3_ := ak_ (hbox)
   have n4_ := ak_ ((by rw [hg]; exact (bz_ bl_) : w.heap.size ≤ gb464))
   have n5_ := n4_
   have n6_ := ak_ ((by rw [hg]; exact Nat.ne_of_lt (blk_lt (pk BK459.out)) : gb459 ≠ gb464))
   have n7_ := ak_ n6_.out.symm
   have n8_ := ak_ ((by rw [hg]; exact Nat.ne_of_lt (blk_lt (pk BK460.out)) : gb460 ≠ gb464))
   have n9_ := ak_ n8_.out.symm
   clear BK459 BK460 HB
   have BK459 := n0_; have BK460 := n1_; have HB := n2_; have BK464 := n3_; have GW464 := n4_; have GE464 := n5_; have NB459_464 := n6_; have NB464_459 := n7_; have NB460_464 := n8_; have NB464_460 := n9_
   clear n0_ n1_ n2_ n3_ n4_ n5_ n6_ n7_ n8_ n9_ hb hbox hg
   refine hK.out _ _ ⟨(blk_cell BK459.out 0).trans rfl, (blk_cell BK459.out 1).trans rfl⟩ (fun hHeld => ?_)
   clear hK K
   refine nm_ ?_
   refine on_ 2 10 9 191 (fun K hK => ?_)
   refine goes_ Try.func159 (by kernel_rfl) rfl #[.slice A0_0 l0_0.length c0_0] (by rfl) rfl rfl (by first | rfl | (simp only [map_toArray, map_cons, map_nil]; try rfl)) ?_
   with_reducible refine (slices_Clone_bool_bool.calls _ _ l0_0 t461 _ ?side1 ?side2 A3.out).mono ?_
   (case side1 => repeat (first | exact (Kd.C_below HR0_0.out HB.out) | (with_reducible refine Kd.C_alloc ?_ _) | (with_reducible refine Kd.C_drewN ?_ _) | (with_reducible refine Kd.C_drew ?_)))
   (case side2 => exact HC0_0.out)
   rintro e w8 ⟨v462, rfl, ho0, hb⟩
   refine ⟨_, rfl, ?_⟩
   have n0_ := ak_ (Kd.R_lower ho0 (bz_ bl_))
   have n1_ := ak_ (blk_below (pk BK459.out) hb)
   have n2_ := ak_ (blk_below (pk BK460.out) hb)
   have n3_ := ak_ (blk_below (pk BK464.out) hb)
   have n4_ := ak_ (bs_ bl_ hb)
   clear BK459 BK460 BK464 HB
   have HO463 := n0_; have BK459 := n1_; have BK460 := n2_; have BK464 := n3_; have HB := n4_
   clear n0_ n1_ n2_ n3_ n4_
   (try clear hb)
   (try clear hb2)
   (try clear hk)
   (try clear hi)
   (try clear ho0)
   obtain ⟨Ao9, co9, eo9⟩ := Kd.R_slice HO463.out
   (first | subst eo9 | (injection eo9 with f1_ f2_ f3_; have f4_ := f1_.symm; have f5_ := f3_.symm; clear f1_ f2_ f3_; subst f4_; subst f5_))
   refine hK.out _ _ ⟨(blk_cell BK459.out 0).trans rfl, (blk_cell BK459.out 1).trans rfl⟩ (fun hHeld => ?_)
   clear hK K
   refine nm_ ?_
   refine pu_ 6 14 9 255 ?_
   exact norm_ (by simp only [putAll, Act.put, setIfInBounds_toArray, set_cons_zero, set_cons_succ]) (hCont (.slice Ao9 t461.length co9, gb464) _ ⟨hHeld, (Kd.pR HO463.out), (pk BK459.out), (pk BK460.out), (pk BK464.out), GW464.out, GE464.out, NB459_464.out, NB464_459.out, NB460_464.out, NB464_460.out, bl_⟩)
 rintro ⟨v462, gb464⟩ w10 ⟨hS_, h0_, h1_, h2_, h3_, h4_, h5_, h6_, h7_, h8_, h9_, h10_⟩
 have n0_ : Aside0 (Kd.R Kd.bool 4 w10 w.heap.size (fun _ => True) v462 t461) := ⟨h0_⟩
 have n1_ : Aside0 (w10.heap[gb459]? = some (.cells #[.slice A0_0 l0_0.length c0_0, .bool a0_1] 115 (0, 0))) := ⟨h1_⟩
 have n2_ : Aside0 (w10.heap[gb460]? = some (.cells #[.slice none 0 0, .bool false] 115 (0, 0))) := ⟨h2_⟩
 have n3_ : Aside0 (w10.heap[gb464]? = some (.cells #[.slice none 0 0, .bool false] 115 (0, 0))) := ⟨h3_⟩
 have n4_ : Aside0 (w.heap.size ≤ gb464) := ⟨h4_⟩
 have n5_ : Aside0 (w.heap.size ≤ gb464) := ⟨h5_⟩
 have n6_ : Aside0 (gb459 ≠ gb464) := ⟨h6_⟩
 have n7_ : Aside0 (gb464 ≠ gb459) := ⟨h7_⟩
 have n8_ : Aside0 (gb460 ≠ gb464) := ⟨h8_⟩
 have n9_ : Aside0 (gb464 ≠ gb460) := ⟨h9_⟩
 have n10_ : Aside0 (Below w.heap.size w w10) := ⟨h10_⟩
 clear BK459 BK460 HB h0_ h1_ h2_ h3_ h4_ h5_ h6_ h7_ h8_ h9_ h10_
 have HO463 := n0_; have BK459 := n1_; have BK460 := n2_; have BK464 := n3_; have GW464 := n4_; have GE464 := n5_; have NB459_464 := n6_; have NB464_459 := n7_; have NB460_464 := n8_; have NB464_460 := n9_; have HB := n10_
 clear n0_ n1_ n2_ n3_ n4_ n5_ n6_ n7_ n8_ n9_ n10_
 have hHeld : w10.cell? ⟨gb459, 0, none⟩ = some (.slice A0_0 l0_0.length c0_0) ∧ w10.cell? ⟨gb459, 1, none⟩ = some (.bool a0_1) := hS_
 obtain ⟨Ao11, co11, eo11⟩ := Kd.R_slice HO463.out
 (first | subst eo11 | (injection eo11 with f1_ f2_ f3_; have f4_ := f1_.symm; have f5_ := f3_.symm; clear f1_ f2_ f3_; subst f4_; subst f5_))
 refine norm_ (a' := ?_) ?_ ?_
 rotate_left
 ·
  simp only [putAll, Act.put, setIfInBounds_toArray, set_cons_zero, set_cons_succ]
  rfl
 refine one_ (i := 8) (N := none) (mb_ 9 511) rfl rfl (one_of HT_.out (by kernel_rfl)) (by decide) (fun K hK => ?_)
 have hs12 : w10.cell? ⟨gb464, 0, none⟩ = some (.slice none 0 0) := (blk_cell BK464.out 0).trans rfl
 have hfs12 := blk_frozen BK464.out 0
 have hns12_0 := NB459_464.out
 have hns12_1 := NB460_464.out
 have hms12_0 := NB464_459.out
 have hms12_1 := NB464_460.out
 have hs13 : w10.cell? ⟨gb464, 1, none⟩ = some (.bool false) := (blk_cell BK464.out 1).trans rfl
 have hfs13 := blk_frozen BK464.out 1
 have hns13_0 := NB459_464.out
 have hns13_1 := NB460_464.out
 have hms13_0 := NB464_459.out
 have hms13_1 := NB464_460.out
 refine skip_ (w1 := ?_) (by rfl) rfl ?_ ?_
 rotate_left
 ·
  go_simp
  rfl
 refine hK.out _ _ ⟨((cell_far (p := ⟨gb464, _, none⟩) NB459_464.out _).trans (((cell_far (p := ⟨gb464, _, none⟩) NB459_464.out _).trans (hHeld.1)))), ((cell_far (p := ⟨gb464, _, none⟩) NB459_464.out _).trans (((cell_far (p := ⟨gb464, _, none⟩) NB459_464.out _).trans (hHeld.2))))⟩ (fun hHeld => ?_)
 clear hK K
 refine done_ (done_of HT_.out (by kernel_rfl)) ?_
 try go_wp2
 go_loopg [17] k (fun kq v17 w' => ∃ (x17_1 : Int) (x465000_1 : List Bool) (u465000 : Value), v17 = .int .i64 x17_1 ∧ Aside0 (impl_State_moved.l0 kq l1 (l1.length : Int) x17_1 x465000_1 (!a0_1) = some (r1, r2)) ∧ Aside0 (kq ≤ k) ∧ Aside0 (Kd.R Kd.bool 4 w' w.heap.size (fun _ => True) u465000 x465000_1) ∧ Aside0 (w'.heap[gb459]? = some (.cells #[(.slice A0_0 l0_0.length c0_0), .bool a0_1] 115 (0, 0))) ∧ Aside0 (w'.heap[gb460]? = some (.cells #[(.slice none 0 0), .bool false] 115 (0, 0))) ∧ Aside0 (w'.heap[gb464]? = some (.cells #[u465000, .bool (!a0_1)] 115 (0, 0))) ∧ Aside0 (Below w.heap.size w w'))
 case atStart => exact ⟨(0), (t461), (.slice Ao11 t461.length co11), (ry_), H', ⟨Nat.le_refl _⟩, ⟨by (with_reducible repeat (first | apply Kd.R_alloc | apply Kd.R_drewN | apply Kd.R_drew)); exact Kd.R_mono (Kd.R_far (p := ⟨gb464, 1, none⟩) (Kd.R_far (p := ⟨gb464, 0, none⟩) (Kd.R_types HO463.out BK464.out (by decide)) (fun _ hk => hk.2) (.slice Ao11 t461.length co11)) (fun _ hk => hk.2) (.bool (!a0_1))) (fun _ hk => trivial)⟩, ⟨by (with_reducible repeat (first | refine kN_ ?_ _ | refine k1_ ?_ | refine ka_ ?_ _)); refine blk_far ?_ NB459_464.out _; (with_reducible repeat (first | refine kN_ ?_ _ | refine k1_ ?_ | refine ka_ ?_ _)); refine blk_far ?_ NB459_464.out _; exact pk BK459.out⟩, ⟨by (with_reducible repeat (first | refine kN_ ?_ _ | refine k1_ ?_ | refine ka_ ?_ _)); refine blk_far ?_ NB460_464.out _; (with_reducible repeat (first | refine kN_ ?_ _ | refine k1_ ?_ | refine ka_ ?_ _)); refine blk_far ?_ NB460_464.out _; exact pk BK460.out⟩, ⟨by (with_reducible repeat (first | refine kN_ ?_ _ | refine k1_ ?_ | refine ka_ ?_ _)); refine blk_put (cs := #[.slice Ao11 t461.length co11, .bool false]) ?_ 1 _ rfl; (with_reducible repeat (first | refine kN_ ?_ _ | refine k1_ ?_ | refine ka_ ?_ _)); refine blk_put (cs := #[.slice none 0 0, .bool false]) ?_ 0 _ rfl; exact pk BK464.out⟩, ⟨by repeat (first | exact HB.out | apply ba_ | apply bN_ | apply b1_ | refine below_set ?_ (Aside0.out (by assumption)))⟩⟩
 case round =>
  clear H'
  try clear c1
  try clear p2
  try clear c12
  obtain ⟨x17_1, x465000_1, u465000, rfl, HA, HK1, HO_465000, BK459, BK460, BK464, HB⟩ := hrel
  cases gk with
  | zero => exact absurd HA.out (by simp [impl_State_moved.l0])
  | succ k1 =>
   have H := HA.out
   clear HA
   simp only [impl_State_moved.l0] at H
   by_cases c14 : x17_1 < (l1.length : Int)
   ·
    rw [if_pos c14] at H
    have c14b0 : decide (x17_1 < (l1.length : Int)) = true := decide_eq_true c14
    clear c14
    by_cases c15 : 0 ≤ x17_1
    ·
     rw [if_pos c15] at H
     have c15b0 : decide (0 ≤ x17_1) = true := decide_eq_true c15
     clear c15
     by_cases c16 : x17_1 < (l1.length : Int)
     ·
      rw [if_pos c16] at H
      have c16b0 : decide (x17_1 < (l1.length : Int)) = true := decide_eq_true c16
      clear c16
      by_cases c17 : 0 ≤ (rd l1 x17_1)
      ·
       rw [if_pos c17] at H
       have c17b0 : decide (0 ≤ (rd l1 x17_1)) = true := decide_eq_true c17
       clear c17
       by_cases c18 : (rd l1 x17_1) < (x465000_1.length : Int)
       ·
        rw [if_pos c18] at H
        have c18b0 : decide ((rd l1 x17_1) < (x465000_1.length : Int)) = true := decide_eq_true c18
        clear c18
        obtain ⟨y466, hy466⟩ : ∃ y_ : List Bool, y_ = (x465000_1.set ((rd l1 x17_1) : Int).toNat (!a0_1)) := ⟨_, rfl⟩
        replace H : (impl_State_moved.l0 k1 l1 (l1.length : Int) (wrap64 (x17_1 + 1)) y466 (!a0_1)) = some (r1, r2) := by first | (rw [hy466]; exact H) | exact H
        have Ny466 := ak_ hy466
        clear hy466
        have H' := ak_ H
        clear H
        have p465 : 0 ≤ (x17_1 : Int) := odt_ (by assumption)
        have q465 : x17_1 < (l1.length : Int) := odt_ (by assumption)
        obtain ⟨ad465, e465, hx465_0⟩ := Kd.at_int HR1.out x17_1 p465 q465
        cases e465
        try replace hx465_0 := (HB.out.cell (World.block_lt_of_cell? w _ hx465_0)).trans hx465_0
        replace p465 := eq_true p465
        replace q465 := eq_true q465
        have hnb20 := NB464_459.out
        have hnc20 := NB459_464.out
        have hnb21 := NB464_460.out
        have hnc21 := NB460_464.out
        have hcz22_0 : wr.cell? ⟨gb464, 0, none⟩ = some (u465000) := (blk_cell BK464.out 0).trans rfl
        have hcz22_1 : wr.cell? ⟨gb464, 1, none⟩ = some (.bool (!a0_1)) := (blk_cell BK464.out 1).trans rfl
        have hfz22_0 := blk_frozen BK464.out 0
        have hfz22_1 := blk_frozen BK464.out 1
        have p19 : 0 ≤ ((rd l1 x17_1) : Int) := odt_ (by assumption)
        have q19 : ((rd l1 x17_1) : Int) < ((x465000_1.length : Int) : Int) := odt_ (by assumption)
        obtain ⟨go19, co19, eo19, gb19, gl19, cl19, HG19⟩ := Kd.R_form HO_465000.out (by omega)
        (first | cases eo19 | (injection eo19 with ea_ en_ ec_; (first | subst ea_ | (injection ea_ with ea_; subst ea_)); subst ec_; clear en_))
        have GB19 := ak_ gb19
        have GG19 := ak_ HG19
        clear gb19 gl19 HG19
        obtain ⟨hx19_0, hf19_0⟩ := Kd.R_celln false HO_465000.out ((rd l1 x17_1) : Int) p19 q19
        replace p19 := eq_true p19
        replace q19 := eq_true q19
        have HP23 := Kd.R_putg HO_465000.out ((rd l1 x17_1) : Int) (!a0_1)
        go_wp2_with (first | ((with_reducible refine gate_store (t := 4) (p := 26) rfl ?_); refine store_event (t := 4) (p := 26) (v := ?vo_w24) (w1 := (wr.setCell ⟨go19, ((rd l1 x17_1) : Int).toNat, none⟩ (.bool (!a0_1)))) ?hg ?ho ?hn ?hr ?_; (case ho => rfl); (case hg => rfl); (case hn => rfl); (case hr => go_simp <;> rfl); intro w24 hw; have hg : wr.grownBy w24 (some go19) := (by rw [hw]; exact HP23.2); have hp_ : Kd.R Kd.bool 4 w24 w.heap.size (fun _ => True) (.slice (some ⟨go19, 0, none⟩) x465000_1.length co19) y466 := (by rw [hw, Ny466.out]; exact HP23.1); clear HP23; have n0_ := ak_ (hp_); have n1_ := ak_ (blk_grown (pk BK459.out) hg (Kd.R_ne HO_465000.out BK459.out (by decide))); have n2_ := ak_ (blk_grown (pk BK460.out) hg (Kd.R_ne HO_465000.out BK460.out (by decide))); have n3_ := ak_ (blk_grown (pk BK464.out) hg (Kd.R_ne HO_465000.out BK464.out (by decide))); have n4_ := ak_ ((by rw [hw]; exact below_set (HB.out) GB19.out : Below w.heap.size w w24)); clear HO_465000; clear BK459; clear BK460; clear BK464; clear HB; have HO_465000 := n0_; have BK459 := n1_; have BK460 := n2_; have BK464 := n3_; have HB := n4_; clear n0_ n1_ n2_ n3_ n4_; clear hg hw hp_))
        go_roundg k1
        case measure => have := HK1.out; omega
        case rel => exact ⟨(wrap64 (x17_1 + 1)), (y466), (.slice (some ⟨go19, 0, none⟩) x465000_1.length co19), (ry_), H', ⟨by have := HK1.out; omega⟩, ⟨Kd.pR HO_465000.out⟩, ⟨pk BK459.out⟩, ⟨pk BK460.out⟩, ⟨pk BK464.out⟩, ⟨by repeat (first | exact HB.out | apply ba_ | apply bN_ | apply b1_ | refine below_set ?_ (Aside0.out (by assumption)))⟩⟩
       ·
        rw [if_neg c18] at H
        exact absurd H (by simp)
      ·
       rw [if_neg c17] at H
       exact absurd H (by simp)
     ·
      rw [if_neg c16] at H
      exact absurd H (by simp)
    ·
     rw [if_neg c15] at H
     exact absurd H (by simp)
   ·
    rw [if_neg c14] at H
    have c14b0 : decide (x17_1 < (l1.length : Int)) = false := decide_eq_false c14
    clear c14
    simp only [Option.some.injEq, Prod.mk.injEq] at H
    obtain ⟨rfl, rfl⟩ := H
    have hnb25 := NB464_459.out
    have hnc25 := NB459_464.out
    have hnb26 := NB464_460.out
    have hnc26 := NB460_464.out
    have hcz27_0 : wr.cell? ⟨gb464, 0, none⟩ = some (u465000) := (blk_cell BK464.out 0).trans rfl
    have hcz27_1 : wr.cell? ⟨gb464, 1, none⟩ = some (.bool (!a0_1)) := (blk_cell BK464.out 1).trans rfl
    have hfz27_0 := blk_frozen BK464.out 0
    have hfz27_1 := blk_frozen BK464.out 1
    obtain ⟨Ao28, co28, eo28⟩ := Kd.R_slice HO_465000.out
    subst eo28
    have hnb29 := NB460_459.out
    have hnc29 := NB459_460.out
    have hcz30_0 : wr.cell? ⟨gb460, 0, none⟩ = some (.slice none 0 0) := (blk_cell BK460.out 0).trans rfl
    have hcz30_1 : wr.cell? ⟨gb460, 1, none⟩ = some (.bool false) := (blk_cell BK460.out 1).trans rfl
    have hfz30_0 := blk_frozen BK460.out 0
    have hfz30_1 := blk_frozen BK460.out 1
    go_wp2
    refine bodyPost_ret (results_cell_row rfl _ _ gb460 115 #[.slice Ao28 x465000_1.length co28, .bool (!a0_1)] (0, 0) _ rfl (by (with_reducible repeat (first | refine kN_ ?_ _ | refine k1_ ?_ | refine ka_ ?_ _)); refine blk_put (cs := #[.slice Ao28 x465000_1.length co28, .bool false]) ?_ 1 _ rfl; (with_reducible repeat (first | refine kN_ ?_ _ | refine k1_ ?_ | refine ka_ ?_ _)); refine blk_put (cs := #[.slice none 0 0, .bool false]) ?_ 0 _ rfl; exact pk BK460.out) Try.underlying115 rfl (by kernel_rfl)) rfl ?_
    exact ⟨_, rx_, by (with_reducible repeat (first | apply Kd.R_alloc | apply Kd.R_drewN | apply Kd.R_drew)); exact Kd.R_mono (Kd.R_far (p := ⟨gb460, 1, none⟩) (Kd.R_far (p := ⟨gb460, 0, none⟩) (Kd.R_types HO_465000.out BK460.out (by decide)) (fun _ hk => hk.2) (.slice Ao28 x465000_1.length co28)) (fun _ hk => hk.2) (.bool (!a0_1))) (fun _ hk => trivial), by repeat (first | exact HB.out | apply ba_ | apply bN_ | apply b1_ | refine below_set ?_ (Aside0.out (by assumption)))⟩
def impl_Bank_ridden.f (k : Nat) (l0_0 : List Bool) (a0_1 : Bool) (l1 : List Int) : Option (List Bool × Bool) := (impl_Bank_state.f l0_0 a0_1).bind fun bt469 => ((impl_State_moved.f k bt469.1 bt469.2 l1).bind fun bt473 => (some (bt473.1, bt473.2)))
theorem impl_Bank_ridden.mono : ∀ a0 a1 a2 k, LeO (impl_Bank_ridden.f k a0 a1 a2) (impl_Bank_ridden.f (k + 1) a0 a1 a2) := by
 intro a0 a1 a2 k
 unfold impl_Bank_ridden.f
 repeat' first
  | (with_reducible first | exact impl_State_moved.mono _ _ _ _ | exact LeO.refl _ | exact LeO.none _ | refine LeO.ite ?_ ?_ | refine LeO.bind ?_ (fun _ => ?_))
  | exact impl_State_moved.mono _ _ _ _
  | exact LeO.none _
  | refine LeO.ite ?_ ?_
  | refine LeO.bind ?_ (fun _ => ?_)
theorem impl_Bank_ridden.calls (k : Nat) (A0_0 : Option Addr) (c0_0 : Nat) (l0_0 : List Bool) (a0_1 : Bool) (A1 : Option Addr) (c1 : Nat) (l1 : List Int) (r1 : List Bool) (r2 : Bool) (w : World) (hr0_0 : Kd.C Kd.bool w A0_0 l0_0.length l0_0) (hc0_0 : l0_0.length ≤ c0_0) (hr1 : Kd.C (Kd.int .i64) w A1 l1.length l1) (hc1 : l1.length ≤ c1) (h : impl_Bank_ridden.f k l0_0 a0_1 l1 = some (r1, r2)) :
  Calls Try.prog 143 #[.agg #[.slice A0_0 l0_0.length c0_0, .bool a0_1], .slice A1 l1.length c1] w fun e w' => ∃ v0_ : Value, e = .returned (.agg #[v0_, .bool r2]) ∧ Kd.R Kd.bool 4 w' w.heap.size (fun _ => True) v0_ r1 ∧ Below w.heap.size w w' := by
 have hu90 := Try.underlying90
 have hu115 := Try.underlying115
 have HR0_0 := ak_ hr0_0
 have HC0_0 := ak_ hc0_0
 clear hr0_0 hc0_0
 have HR1 := ak_ hr1
 have HC1 := ak_ hc1
 clear hr1 hc1
 have HB := ak_ (Below.refl w.heap.size w)
 have H : ((impl_Bank_state.f l0_0 a0_1).bind fun bt469 => ((impl_State_moved.f k bt469.1 bt469.2 l1).bind fun bt473 => (some (bt473.1, bt473.2)))) = some (r1, r2) := h
 clear h
 replace H := Option.bind_eq_some_iff.mp H
 obtain ⟨⟨t469, t472⟩, A30, H⟩ := H
 replace H : ((impl_State_moved.f k t469 t472 l1).bind fun bt473 => (some (bt473.1, bt473.2))) = some (r1, r2) := H
 have A3 := ak_ A30
 clear A30
 replace H := Option.bind_eq_some_iff.mp H
 obtain ⟨⟨t473, t476⟩, A40, H⟩ := H
 replace H : (some (t473, t476)) = some (r1, r2) := H
 have A4 := ak_ A40
 clear A40
 simp only [Option.some.injEq, Prod.mk.injEq] at H
 obtain ⟨rfl, rfl⟩ := H
 go_enter Try.func143, Try.ntmps143
 go_wp2_with (first | ((with_reducible refine gate_dst (N := 2) rfl ?_); refine bx_ 2 #[.slice A0_0 l0_0.length c0_0, .bool a0_1] 90 ?_; intro gb467 hg w5 hbox hb; have n0_ := ak_ (bs_ (bb_ HB.out) hb); have n1_ := ak_ (hbox); have n2_ := ak_ ((by rw [hg]; exact (bz_ (bb_ HB.out)) : w.heap.size ≤ gb467)); have n3_ := n2_; clear HB; have HB := n0_; have BK467 := n1_; have GW467 := n2_; have GE467 := n3_; clear n0_ n1_ n2_ n3_; clear hb hbox hg) | ((with_reducible refine gate_dst (N := 4) rfl ?_); refine bx_ 4 #[.slice none 0 0, .bool false] 90 ?_; intro gb468 hg w6 hbox hb; have n0_ := ak_ (blk_below (pk BK467.out) hb); have n1_ := ak_ (bs_ bl_ hb); have n2_ := ak_ (hbox); have n3_ := ak_ ((by rw [hg]; exact (bz_ bl_) : w.heap.size ≤ gb468)); have n4_ := n3_; have n5_ := ak_ ((by rw [hg]; exact Nat.ne_of_lt (blk_lt (pk BK467.out)) : gb467 ≠ gb468)); have n6_ := ak_ n5_.out.symm; clear BK467; clear HB; have BK467 := n0_; have HB := n1_; have BK468 := n2_; have GW468 := n3_; have GE468 := n4_; have NB467_468 := n5_; have NB468_467 := n6_; clear n0_ n1_ n2_ n3_ n4_ n5_ n6_; clear hb hbox hg; have hnb7 := NB467_468.out; have hnc7 := NB468_467.out; have hcz8_0 : w6.cell? ⟨gb467, 0, none⟩ = some (.slice A0_0 l0_0.length c0_0) := (blk_cell BK467.out 0).trans rfl; have hcz8_1 : w6.cell? ⟨gb467, 1, none⟩ = some (.bool a0_1) := (blk_cell BK467.out 1).trans rfl; have hfz8_0 := blk_frozen BK467.out 0; have hfz8_1 := blk_frozen BK467.out 1) | ((with_reducible refine gate_callee (f := 144) rfl ?_); refine goesL_ (some 7) rfl rfl Try.func144 (by kernel_rfl) rfl #[.agg #[.slice A0_0 l0_0.length c0_0, .bool a0_1]] rfl (by first | rfl | (simp only [map_toArray, map_cons, map_nil]; try rfl)) ?_; (with_reducible refine (impl_Bank_state.calls (fun k_ => k_ < w.heap.size) _ _ l0_0 a0_1 t469 t472 _ ?side1 A3.out).mono ?_); (case side1 => exact Kd.V_mk HC0_0.out (Kd.F_below (Kd.C_F Kd.heap_bool HR0_0.out) bl_)); rintro e w9 ⟨v470, rfl, ho0, hb⟩; refine ⟨_, rfl, ?_⟩; have n0_ := ak_ (Kd.V_lower (Kd.V_mono (ok' := fun k_ => k_ ≠ gb467 ∧ k_ ≠ gb468) ho0 (fun k_ hk_ => ⟨Or.elim hk_ (fun hs_ => fun e_ => Nat.not_le.2 hs_ (by rw [e_]; exact GW467.out)) (fun hn_ => (Kd.freshB (pk BK467.out) k_ hn_)), Or.elim hk_ (fun hs_ => fun e_ => Nat.not_le.2 hs_ (by rw [e_]; exact GW468.out)) (fun hn_ => (Kd.freshB (pk BK468.out) k_ hn_))⟩)) (bz_ bl_)); have n1_ := ak_ (blk_below (pk BK467.out) hb); have n2_ := ak_ (blk_below (pk BK468.out) hb); have n3_ := ak_ (bs_ bl_ hb); clear BK467; clear BK468; clear HB; have HO471 := n0_; have BK467 := n1_; have BK468 := n2_; have HB := n3_; clear n0_ n1_ n2_ n3_; (try clear hb); (try clear hb2); (try clear hk); (try clear hi); (try clear ho0); obtain ⟨Ao10, co10, eo10⟩ := Kd.V_slice HO471.out; subst eo10) | ((with_reducible refine gate_callee (f := 125) rfl ?_); refine goesL_ (some 9) rfl rfl Try.func125 (by kernel_rfl) rfl #[.agg #[.slice Ao10 t469.length co10, .bool t472], .slice A1 l1.length c1] rfl (by first | rfl | (simp only [map_toArray, map_cons, map_nil]; try rfl)) ?_; (with_reducible refine (impl_State_moved.calls k _ _ t469 t472 _ _ l1 t473 t476 _ ?side1 ?side2 ?side3 ?side4 A4.out).mono ?_); (case side1 => repeat (first | exact (Kd.V_reads' HO471.out).2.2 | (with_reducible refine Kd.C_alloc ?_ _) | (with_reducible refine Kd.C_drewN ?_ _) | (with_reducible refine Kd.C_drew ?_))); (case side2 => exact (Kd.V_reads' HO471.out).2.1); (case side3 => repeat (first | exact (Kd.C_below HR1.out HB.out) | (with_reducible refine Kd.C_alloc ?_ _) | (with_reducible refine Kd.C_drewN ?_ _) | (with_reducible refine Kd.C_drew ?_))); (case side4 => exact HC1.out); rintro e w11 ⟨v474, rfl, ho0, hb⟩; refine ⟨_, rfl, ?_⟩; have n0_ := ak_ (Kd.V_elder' (Kd.pV HO471.out) (Kd.R_base ho0) hb); have n1_ := ak_ (Kd.R_lower ho0 (bz_ bl_)); have n2_ := ak_ (blk_below (pk BK467.out) hb); have n3_ := ak_ (blk_below (pk BK468.out) hb); have n4_ := ak_ (bs_ bl_ hb); clear HO471; clear BK467; clear BK468; clear HB; have HO471 := n0_; have HO475 := n1_; have BK467 := n2_; have BK468 := n3_; have HB := n4_; clear n0_ n1_ n2_ n3_ n4_; (try clear hb); (try clear hb2); (try clear hk); (try clear hi); (try clear ho0)) | ((with_reducible refine gate_dst (N := 5) rfl ?_); refine bx_ 5 #[.slice none 0 0, .bool false] 115 ?_; intro gb477 hg w12 hbox hb; have n0_ := ak_ (Kd.V_below (Kd.V_elderB (Kd.pV HO471.out) gb477 (Nat.le_of_eq hg.symm)) hb); have n1_ := ak_ (Kd.R_below (Kd.pR HO475.out) hb); have n2_ := ak_ (blk_below (pk BK467.out) hb); have n3_ := ak_ (blk_below (pk BK468.out) hb); have n4_ := ak_ (bs_ bl_ hb); have n5_ := ak_ (hbox); have n6_ := ak_ ((by rw [hg]; exact (bz_ bl_) : w.heap.size ≤ gb477)); have n7_ := n6_; have n8_ := ak_ ((by rw [hg]; exact Nat.ne_of_lt (blk_lt (pk BK467.out)) : gb467 ≠ gb477)); have n9_ := ak_ n8_.out.symm; have n10_ := ak_ ((by rw [hg]; exact Nat.ne_of_lt (blk_lt (pk BK468.out)) : gb468 ≠ gb477)); have n11_ := ak_ n10_.out.symm; clear HO471; clear HO475; clear BK467; clear BK468; clear HB; have HO471 := n0_; have HO475 := n1_; have BK467 := n2_; have BK468 := n3_; have HB := n4_; have BK477 := n5_; have GW477 := n6_; have GE477 := n7_; have NB467_477 := n8_; have NB477_467 := n9_; have NB468_477 := n10_; have NB477_468 := n11_; clear n0_ n1_ n2_ n3_ n4_ n5_ n6_ n7_ n8_ n9_ n10_ n11_; clear hb hbox hg; obtain ⟨Ao13, co13, eo13⟩ := Kd.R_slice HO475.out; subst eo13; have hnb14 := NB477_467.out; have hnc14 := NB467_477.out; have hnb15 := NB477_468.out; have hnc15 := NB468_477.out; have hcz16_0 : w12.cell? ⟨gb477, 0, none⟩ = some (.slice none 0 0) := (blk_cell BK477.out 0).trans rfl; have hcz16_1 : w12.cell? ⟨gb477, 1, none⟩ = some (.bool false) := (blk_cell BK477.out 1).trans rfl; have hfz16_0 := blk_frozen BK477.out 0; have hfz16_1 := blk_frozen BK477.out 1; have hcz17_0 : w12.cell? ⟨gb468, 0, none⟩ = some (.slice none 0 0) := (blk_cell BK468.out 0).trans rfl; have hcz17_1 : w12.cell? ⟨gb468, 1, none⟩ = some (.bool false) := (blk_cell BK468.out 1).trans rfl; have hfz17_0 := blk_frozen BK468.out 0; have hfz17_1 := blk_frozen BK468.out 1))
 refine bodyPost_ret (results_cell_row rfl _ _ gb468 90 #[.slice Ao13 t473.length co13, .bool t476] (0, 0) _ rfl (by (with_reducible repeat (first | refine kN_ ?_ _ | refine k1_ ?_ | refine ka_ ?_ _)); refine blk_put (cs := #[.slice Ao13 t473.length co13, .bool false]) ?_ 1 _ rfl; (with_reducible repeat (first | refine kN_ ?_ _ | refine k1_ ?_ | refine ka_ ?_ _)); refine blk_put (cs := #[.slice none 0 0, .bool false]) ?_ 0 _ rfl; (with_reducible repeat (first | refine kN_ ?_ _ | refine k1_ ?_ | refine ka_ ?_ _)); refine blk_far ?_ NB468_477.out _; (with_reducible repeat (first | refine kN_ ?_ _ | refine k1_ ?_ | refine ka_ ?_ _)); refine blk_far ?_ NB468_477.out _; exact pk BK468.out) Try.underlying90 rfl (by kernel_rfl)) rfl ?_
 exact ⟨_, rx_, by (with_reducible repeat (first | apply Kd.R_alloc | apply Kd.R_drewN | apply Kd.R_drew)); exact Kd.R_mono (Kd.R_far (p := ⟨gb468, 1, none⟩) (Kd.R_far (p := ⟨gb468, 0, none⟩) (Kd.R_far (p := ⟨gb477, 1, none⟩) (Kd.R_far (p := ⟨gb477, 0, none⟩) (Kd.R_types (Kd.R_types HO475.out BK477.out (by decide)) BK468.out (by decide)) (fun _ hk => hk.1.2) (.slice Ao13 t473.length co13)) (fun _ hk => hk.1.2) (.bool t476)) (fun _ hk => hk.2) (.slice Ao13 t473.length co13)) (fun _ hk => hk.2) (.bool t476)) (fun _ hk => trivial), by repeat (first | exact HB.out | apply ba_ | apply bN_ | apply b1_ | refine below_set ?_ (Aside0.out (by assumption)))⟩
def impl_Keep_dangers.l0 : Nat → List (List Int) → List (List Int) → Int → Int → List Bool → Bool → Option ((List (List Int)))
 | 0, _, _, _, _, _, _ => none
 | k + 1, x5, x10, x11, x12, x480000, x480001 => if x12 < x11 then (if 0 ≤ x12 then (if x12 < (x10.length : Int) then (if 0 < ((rd_L1 x10 x12).length : Int) then (if 0 ≤ (rd (rd_L1 x10 x12) 0) then (if (rd (rd_L1 x10 x12) 0) < (x480000.length : Int) then (if ((rdOf false x480000 (rd (rd_L1 x10 x12) 0)) != x480001) = true then (if 1 < ((rd_L1 x10 x12).length : Int) then (if 0 ≤ (rd (rd_L1 x10 x12) 1) then (if (rd (rd_L1 x10 x12) 1) < (x480000.length : Int) then (if ((rdOf false x480000 (rd (rd_L1 x10 x12) 1)) != x480001) = true then ((slices_Clone_int_int.f (rd_L1 x10 x12)).bind fun t488 => (if x5.length < 5864062014805 then (impl_Keep_dangers.l0 k (x5 ++ [t488]) x10 x11 (wrap64 (x12 + 1)) x480000 x480001) else (none))) else (impl_Keep_dangers.l0 k x5 x10 x11 (wrap64 (x12 + 1)) x480000 x480001)) else (none)) else (none)) else (none)) else (impl_Keep_dangers.l0 k x5 x10 x11 (wrap64 (x12 + 1)) x480000 x480001)) else (none)) else (none)) else (none)) else (none)) else (none)) else (some x5)
def impl_Keep_dangers.f (k : Nat) (a0_0 : Int) (l0_1 : List (List Int)) (a0_2 : Int) (l1_0 : List Bool) (a1_1 : Bool) : Option ((List (List Int))) := impl_Keep_dangers.l0 k (([] : List (List Int))) l0_1 (l0_1.length : Int) 0 l1_0 a1_1
theorem impl_Keep_dangers.mono_l : ∀ k, (∀ y0 y1 y2 y3 y4 y5, LeO (impl_Keep_dangers.l0 k y0 y1 y2 y3 y4 y5) (impl_Keep_dangers.l0 (k + 1) y0 y1 y2 y3 y4 y5))
 | 0 => fun _ _ _ _ _ _ r h => by simp [impl_Keep_dangers.l0] at h
 | k + 1 => by
  have ih0 := impl_Keep_dangers.mono_l k
  ·intro y0 y1 y2 y3 y4 y5
   unfold impl_Keep_dangers.l0
   repeat' first
   | (with_reducible first | exact ih0 _ _ _ _ _ _ | exact LeO.refl _ | exact LeO.none _ | refine LeO.ite ?_ ?_ | refine LeO.bind ?_ (fun _ => ?_))
   | exact ih0 _ _ _ _ _ _
   | exact LeO.none _
   | refine LeO.ite ?_ ?_
   | refine LeO.bind ?_ (fun _ => ?_)
theorem impl_Keep_dangers.mono : ∀ a0 a1 a2 a3 a4 k, LeO (impl_Keep_dangers.f k a0 a1 a2 a3 a4) (impl_Keep_dangers.f (k + 1) a0 a1 a2 a3 a4) := by
 intro a0 a1 a2 a3 a4 k
 have ih0 := impl_Keep_dangers.mono_l k
 unfold impl_Keep_dangers.f
 repeat' first
  | (with_reducible first | exact ih0 _ _ _ _ _ _ | exact LeO.refl _ | exact LeO.none _ | refine LeO.ite ?_ ?_ | refine LeO.bind ?_ (fun _ => ?_))
  | exact ih0 _ _ _ _ _ _
  | exact LeO.none _
  | refine LeO.ite ?_ ?_
  | refine LeO.bind ?_ (fun _ => ?_)
theorem impl_Keep_dangers.calls (k : Nat) (a0_0 : Int) (A0_1 : Option Addr) (c0_1 : Nat) (l0_1 : List (List Int)) (a0_2 : Int) (A1_0 : Option Addr) (c1_0 : Nat) (l1_0 : List Bool) (a1_1 : Bool) (r : List (List Int)) (w : World) (hr0_1 : Kd.C (Kd.slice 3 (Kd.int .i64)) w A0_1 l0_1.length l0_1) (hc0_1 : l0_1.length ≤ c0_1) (hr1_0 : Kd.C Kd.bool w A1_0 l1_0.length l1_0) (hc1_0 : l1_0.length ≤ c1_0) (h : impl_Keep_dangers.f k a0_0 l0_1 a0_2 l1_0 a1_1 = some r) :
  Calls Try.prog 168 #[.agg #[.int .i64 a0_0, .slice A0_1 l0_1.length c0_1, .int .i64 a0_2], .agg #[.slice A1_0 l1_0.length c1_0, .bool a1_1]] w fun e w' => ∃ v0_ : Value, e = .returned (v0_) ∧ Kd.S (Kd.slice 3 (Kd.int .i64)) 29 w' w.heap.size (fun _ => True) v0_ r ∧ Below w.heap.size w w' := by
 have hu52 := Try.underlying52
 have hu90 := Try.underlying90
 have HR0_1 := ak_ hr0_1
 have HC0_1 := ak_ hc0_1
 clear hr0_1 hc0_1
 have HR1_0 := ak_ hr1_0
 have HC1_0 := ak_ hc1_0
 clear hr1_0 hc1_0
 have HB := ak_ (Below.refl w.heap.size w)
 have H : (impl_Keep_dangers.l0 k (([] : List (List Int))) l0_1 (l0_1.length : Int) 0 l1_0 a1_1) = some r := h
 clear h
 obtain ⟨y480, hy480⟩ : ∃ y_ : List (List Int), y_ = (([] : List (List Int))) := ⟨_, rfl⟩
 replace H : (impl_Keep_dangers.l0 k y480 l0_1 (l0_1.length : Int) 0 l1_0 a1_1) = some r := by first | (rw [hy480]; exact H) | exact H
 have Ny480 := ak_ hy480
 clear hy480
 have H' := ak_ H
 clear H
 go_enter Try.func168, Try.ntmps168
 go_wp2_with (first | ((with_reducible refine gate_dst (N := 2) rfl ?_); refine bx_ 2 #[.int .i64 a0_0, .slice A0_1 l0_1.length c0_1, .int .i64 a0_2] 52 ?_; intro gb478 hg w3 hbox hb; have n0_ := ak_ (bs_ (bb_ HB.out) hb); have n1_ := ak_ (hbox); have n2_ := ak_ ((by rw [hg]; exact (bz_ (bb_ HB.out)) : w.heap.size ≤ gb478)); have n3_ := n2_; clear HB; have HB := n0_; have BK478 := n1_; have GW478 := n2_; have GE478 := n3_; clear n0_ n1_ n2_ n3_; clear hb hbox hg) | ((with_reducible refine gate_dst (N := 3) rfl ?_); refine bx_ 3 #[.slice A1_0 l1_0.length c1_0, .bool a1_1] 90 ?_; intro gb479 hg w4 hbox hb; have n0_ := ak_ (blk_below (pk BK478.out) hb); have n1_ := ak_ (bs_ bl_ hb); have n2_ := ak_ (hbox); have n3_ := ak_ ((by rw [hg]; exact (bz_ bl_) : w.heap.size ≤ gb479)); have n4_ := n3_; have n5_ := ak_ ((by rw [hg]; exact Nat.ne_of_lt (blk_lt (pk BK478.out)) : gb478 ≠ gb479)); have n6_ := ak_ n5_.out.symm; clear BK478; clear HB; have BK478 := n0_; have HB := n1_; have BK479 := n2_; have GW479 := n3_; have GE479 := n4_; have NB478_479 := n5_; have NB479_478 := n6_; clear n0_ n1_ n2_ n3_ n4_ n5_ n6_; clear hb hbox hg) | ((with_reducible refine gate_dst (N := 8) rfl ?_); refine Kd.S_lit (Kd.slice 3 (Kd.int .i64)) _ 29 ?hg (N := 8) ?hd (xs := ([] : List (List Int))) (inner := []) (ok := fun _ => True) (okp := fun _ => True) ?hr ?hp (fun _ hk => hk) trivial (Below.refl _ _) (Nat.le_refl _) (by simp) ?_; (case hd => rfl); (case hg => rfl); (case hr => go_simp <;> rfl); (case hp => exact (Reps.none _ _)); intro v481 w5 ho6 hb hg_ hnew_; clear hg_ hnew_; (first | rw [← Ny480.out] at ho6 | (simp only [Int.reduceToNat] at ho6; rw [← Ny480.out] at ho6)); have n0_ := ak_ (Kd.S_lower ho6 (bz_ bl_)); have n1_ := ak_ (blk_below (pk BK478.out) hb); have n2_ := ak_ (blk_below (pk BK479.out) hb); have n3_ := ak_ (bs_ bl_ hb); clear BK478; clear BK479; clear HB; have HO482 := n0_; have BK478 := n1_; have BK479 := n2_; have HB := n3_; clear n0_ n1_ n2_ n3_; clear hb ho6; have hnb7 := NB478_479.out; have hnc7 := NB479_478.out; have hcz8_0 : w5.cell? ⟨gb478, 0, none⟩ = some (.int .i64 a0_0) := (blk_cell BK478.out 0).trans rfl; have hcz8_1 : w5.cell? ⟨gb478, 1, none⟩ = some (.slice A0_1 l0_1.length c0_1) := (blk_cell BK478.out 1).trans rfl; have hcz8_2 : w5.cell? ⟨gb478, 2, none⟩ = some (.int .i64 a0_2) := (blk_cell BK478.out 2).trans rfl; have hfz8_0 := blk_frozen BK478.out 0; have hfz8_1 := blk_frozen BK478.out 1; have hfz8_2 := blk_frozen BK478.out 2))
 repeat (go_quiet (first | ((with_reducible refine gate_dst (N := 2) rfl ?_); refine bx_ 2 #[.int .i64 a0_0, .slice A0_1 l0_1.length c0_1, .int .i64 a0_2] 52 ?_; intro gb478 hg w3 hbox hb; have n0_ := ak_ (bs_ (bb_ HB.out) hb); have n1_ := ak_ (hbox); have n2_ := ak_ ((by rw [hg]; exact (bz_ (bb_ HB.out)) : w.heap.size ≤ gb478)); have n3_ := n2_; clear HB; have HB := n0_; have BK478 := n1_; have GW478 := n2_; have GE478 := n3_; clear n0_ n1_ n2_ n3_; clear hb hbox hg) | ((with_reducible refine gate_dst (N := 3) rfl ?_); refine bx_ 3 #[.slice A1_0 l1_0.length c1_0, .bool a1_1] 90 ?_; intro gb479 hg w4 hbox hb; have n0_ := ak_ (blk_below (pk BK478.out) hb); have n1_ := ak_ (bs_ bl_ hb); have n2_ := ak_ (hbox); have n3_ := ak_ ((by rw [hg]; exact (bz_ bl_) : w.heap.size ≤ gb479)); have n4_ := n3_; have n5_ := ak_ ((by rw [hg]; exact Nat.ne_of_lt (blk_lt (pk BK478.out)) : gb478 ≠ gb479)); have n6_ := ak_ n5_.out.symm; clear BK478; clear HB; have BK478 := n0_; have HB := n1_; have BK479 := n2_; have GW479 := n3_; have GE479 := n4_; have NB478_479 := n5_; have NB479_478 := n6_; clear n0_ n1_ n2_ n3_ n4_ n5_ n6_; clear hb hbox hg) | ((with_reducible refine gate_dst (N := 8) rfl ?_); refine Kd.S_lit (Kd.slice 3 (Kd.int .i64)) _ 29 ?hg (N := 8) ?hd (xs := ([] : List (List Int))) (inner := []) (ok := fun _ => True) (okp := fun _ => True) ?hr ?hp (fun _ hk => hk) trivial (Below.refl _ _) (Nat.le_refl _) (by simp) ?_; (case hd => rfl); (case hg => rfl); (case hr => go_simp <;> rfl); (case hp => exact (Reps.none _ _)); intro v481 w5 ho6 hb hg_ hnew_; clear hg_ hnew_; (first | rw [← Ny480.out] at ho6 | (simp only [Int.reduceToNat] at ho6; rw [← Ny480.out] at ho6)); have n0_ := ak_ (Kd.S_lower ho6 (bz_ bl_)); have n1_ := ak_ (blk_below (pk BK478.out) hb); have n2_ := ak_ (blk_below (pk BK479.out) hb); have n3_ := ak_ (bs_ bl_ hb); clear BK478; clear BK479; clear HB; have HO482 := n0_; have BK478 := n1_; have BK479 := n2_; have HB := n3_; clear n0_ n1_ n2_ n3_; clear hb ho6; have hnb7 := NB478_479.out; have hnc7 := NB479_478.out; have hcz8_0 : w5.cell? ⟨gb478, 0, none⟩ = some (.int .i64 a0_0) := (blk_cell BK478.out 0).trans rfl; have hcz8_1 : w5.cell? ⟨gb478, 1, none⟩ = some (.slice A0_1 l0_1.length c0_1) := (blk_cell BK478.out 1).trans rfl; have hcz8_2 : w5.cell? ⟨gb478, 2, none⟩ = some (.int .i64 a0_2) := (blk_cell BK478.out 2).trans rfl; have hfz8_0 := blk_frozen BK478.out 0; have hfz8_1 := blk_frozen BK478.out 1; have hfz8_2 := blk_frozen BK478.out 2)); try go_wp2_with (first | ((with_reducible refine gate_dst (N := 2) rfl ?_); refine bx_ 2 #[.int .i64 a0_0, .slice A0_1 l0_1.length c0_1, .int .i64 a0_2] 52 ?_; intro gb478 hg w3 hbox hb; have n0_ := ak_ (bs_ (bb_ HB.out) hb); have n1_ := ak_ (hbox); have n2_ := ak_ ((by rw [hg]; exact (bz_ (bb_ HB.out)) : w.heap.size ≤ gb478)); have n3_ := n2_; clear HB; have HB := n0_; have BK478 := n1_; have GW478 := n2_; have GE478 := n3_; clear n0_ n1_ n2_ n3_; clear hb hbox hg) | ((with_reducible refine gate_dst (N := 3) rfl ?_); refine bx_ 3 #[.slice A1_0 l1_0.length c1_0, .bool a1_1] 90 ?_; intro gb479 hg w4 hbox hb; have n0_ := ak_ (blk_below (pk BK478.out) hb); have n1_ := ak_ (bs_ bl_ hb); have n2_ := ak_ (hbox); have n3_ := ak_ ((by rw [hg]; exact (bz_ bl_) : w.heap.size ≤ gb479)); have n4_ := n3_; have n5_ := ak_ ((by rw [hg]; exact Nat.ne_of_lt (blk_lt (pk BK478.out)) : gb478 ≠ gb479)); have n6_ := ak_ n5_.out.symm; clear BK478; clear HB; have BK478 := n0_; have HB := n1_; have BK479 := n2_; have GW479 := n3_; have GE479 := n4_; have NB478_479 := n5_; have NB479_478 := n6_; clear n0_ n1_ n2_ n3_ n4_ n5_ n6_; clear hb hbox hg) | ((with_reducible refine gate_dst (N := 8) rfl ?_); refine Kd.S_lit (Kd.slice 3 (Kd.int .i64)) _ 29 ?hg (N := 8) ?hd (xs := ([] : List (List Int))) (inner := []) (ok := fun _ => True) (okp := fun _ => True) ?hr ?hp (fun _ hk => hk) trivial (Below.refl _ _) (Nat.le_refl _) (by simp) ?_; (case hd => rfl); (case hg => rfl); (case hr => go_simp <;> rfl); (case hp => exact (Reps.none _ _)); intro v481 w5 ho6 hb hg_ hnew_; clear hg_ hnew_; (first | rw [← Ny480.out] at ho6 | (simp only [Int.reduceToNat] at ho6; rw [← Ny480.out] at ho6)); have n0_ := ak_ (Kd.S_lower ho6 (bz_ bl_)); have n1_ := ak_ (blk_below (pk BK478.out) hb); have n2_ := ak_ (blk_below (pk BK479.out) hb); have n3_ := ak_ (bs_ bl_ hb); clear BK478; clear BK479; clear HB; have HO482 := n0_; have BK478 := n1_; have BK479 := n2_; have HB := n3_; clear n0_ n1_ n2_ n3_; clear hb ho6; have hnb7 := NB478_479.out; have hnc7 := NB479_478.out; have hcz8_0 : w5.cell? ⟨gb478, 0, none⟩ = some (.int .i64 a0_0) := (blk_cell BK478.out 0).trans rfl; have hcz8_1 : w5.cell? ⟨gb478, 1, none⟩ = some (.slice A0_1 l0_1.length c0_1) := (blk_cell BK478.out 1).trans rfl; have hcz8_2 : w5.cell? ⟨gb478, 2, none⟩ = some (.int .i64 a0_2) := (blk_cell BK478.out 2).trans rfl; have hfz8_0 := blk_frozen BK478.out 0; have hfz8_1 := blk_frozen BK478.out 1; have hfz8_2 := blk_frozen BK478.out 2)))
 go_loopg [5, 12] k (fun kq v5 v12 w' => ∃ (x5_1 : List (List Int)) (x12_1 : Int), v12 = .int .i64 x12_1 ∧ Aside0 (impl_Keep_dangers.l0 kq x5_1 l0_1 (l0_1.length : Int) x12_1 l1_0 a1_1 = some r) ∧ Aside0 (kq ≤ k) ∧ Aside0 (Kd.S (Kd.slice 3 (Kd.int .i64)) 29 w' w.heap.size (fun _ => True) v5 x5_1) ∧ Aside0 (w'.heap[gb478]? = some (.cells #[.int .i64 a0_0, (.slice A0_1 l0_1.length c0_1), .int .i64 a0_2] 52 (0, 0))) ∧ Aside0 (w'.heap[gb479]? = some (.cells #[(.slice A1_0 l1_0.length c1_0), .bool a1_1] 90 (0, 0))) ∧ Aside0 (Below w.heap.size w w'))
 case atStart => exact ⟨(y480), (0), (ry_), H', ⟨Nat.le_refl _⟩, ⟨Kd.pS HO482.out⟩, ⟨pk BK478.out⟩, ⟨pk BK479.out⟩, ⟨by repeat (first | exact HB.out | apply ba_ | apply bN_ | apply b1_ | refine below_set ?_ (Aside0.out (by assumption)))⟩⟩
 case round =>
  clear H'
  try clear c1
  try clear p2
  try clear c7
  try clear hcz8_0
  try clear hcz8_1
  try clear hcz8_2
  try clear hfz8_0
  try clear hfz8_1
  try clear hfz8_2
  obtain ⟨x5_1, x12_1, rfl, HA, HK1, HO_5, BK478, BK479, HB⟩ := hrel
  cases gk with
  | zero => exact absurd HA.out (by simp [impl_Keep_dangers.l0])
  | succ k1 =>
   have H := HA.out
   clear HA
   simp only [impl_Keep_dangers.l0] at H
   by_cases c9 : x12_1 < (l0_1.length : Int)
   ·
    rw [if_pos c9] at H
    have c9b0 : decide (x12_1 < (l0_1.length : Int)) = true := decide_eq_true c9
    clear c9
    by_cases c10 : 0 ≤ x12_1
    ·
     rw [if_pos c10] at H
     have c10b0 : decide (0 ≤ x12_1) = true := decide_eq_true c10
     clear c10
     by_cases c11 : x12_1 < (l0_1.length : Int)
     ·
      rw [if_pos c11] at H
      have c11b0 : decide (x12_1 < (l0_1.length : Int)) = true := decide_eq_true c11
      clear c11
      by_cases c12 : 0 < ((rd_L1 l0_1 x12_1).length : Int)
      ·
       rw [if_pos c12] at H
       have c12b0 : decide (0 < ((rd_L1 l0_1 x12_1).length : Int)) = true := decide_eq_true c12
       have c12b1 : decide (0 < (rd_L1 l0_1 x12_1).length) = true := decide_eq_true (by omega)
       clear c12
       by_cases c13 : 0 ≤ (rd (rd_L1 l0_1 x12_1) 0)
       ·
        rw [if_pos c13] at H
        have c13b0 : decide (0 ≤ (rd (rd_L1 l0_1 x12_1) 0)) = true := decide_eq_true c13
        clear c13
        by_cases c14 : (rd (rd_L1 l0_1 x12_1) 0) < (l1_0.length : Int)
        ·
         rw [if_pos c14] at H
         have c14b0 : decide ((rd (rd_L1 l0_1 x12_1) 0) < (l1_0.length : Int)) = true := decide_eq_true c14
         clear c14
         by_cases c15 : ((rdOf false l1_0 (rd (rd_L1 l0_1 x12_1) 0)) != a1_1) = true
         ·
          rw [if_pos c15] at H
          have c15b0 : ((rdOf false l1_0 (rd (rd_L1 l0_1 x12_1) 0)) != a1_1) = true := c15
          (try (have c15b1 : decide ((rdOf false l1_0 (rd (rd_L1 l0_1 x12_1) 0)) = a1_1) = false := by simpa using c15))
          (try (have c15b2 : ((rdOf false l1_0 (rd (rd_L1 l0_1 x12_1) 0)) == a1_1) = false := by simpa using c15))
          (try (have c15b3 : ¬ ((rdOf false l1_0 (rd (rd_L1 l0_1 x12_1) 0)) = a1_1) := by simpa using c15))
          clear c15
          by_cases c16 : 1 < ((rd_L1 l0_1 x12_1).length : Int)
          ·
           rw [if_pos c16] at H
           have c16b0 : decide (1 < ((rd_L1 l0_1 x12_1).length : Int)) = true := decide_eq_true c16
           have c16b1 : decide (1 < (rd_L1 l0_1 x12_1).length) = true := decide_eq_true (by omega)
           clear c16
           by_cases c17 : 0 ≤ (rd (rd_L1 l0_1 x12_1) 1)
           ·
            rw [if_pos c17] at H
            have c17b0 : decide (0 ≤ (rd (rd_L1 l0_1 x12_1) 1)) = true := decide_eq_true c17
            clear c17
            by_cases c18 : (rd (rd_L1 l0_1 x12_1) 1) < (l1_0.length : Int)
            ·
             rw [if_pos c18] at H
             have c18b0 : decide ((rd (rd_L1 l0_1 x12_1) 1) < (l1_0.length : Int)) = true := decide_eq_true c18
             clear c18
             by_cases c19 : ((rdOf false l1_0 (rd (rd_L1 l0_1 x12_1) 1)) != a1_1) = true
             ·
              rw [if_pos c19] at H
              have c19b0 : ((rdOf false l1_0 (rd (rd_L1 l0_1 x12_1) 1)) != a1_1) = true := c19
              (try (have c19b1 : decide ((rdOf false l1_0 (rd (rd_L1 l0_1 x12_1) 1)) = a1_1) = false := by simpa using c19))
              (try (have c19b2 : ((rdOf false l1_0 (rd (rd_L1 l0_1 x12_1) 1)) == a1_1) = false := by simpa using c19))
              (try (have c19b3 : ¬ ((rdOf false l1_0 (rd (rd_L1 l0_1 x12_1) 1)) = a1_1) := by simpa using c19))
              clear c19
              replace H := Option.bind_eq_some_iff.mp H
              obtain ⟨t488, A200, H⟩ := H
              replace H : (if x5_1.length < 5864062014805 then (impl_Keep_dangers.l0 k1 (x5_1 ++ [t488]) l0_1 (l0_1.length : Int) (wrap64 (x12_1 + 1)) l1_0 a1_1) else (none)) = some r := H
              have A20 := ak_ A200
              clear A200
              by_cases c21 : x5_1.length < 5864062014805
              ·
               rw [if_pos c21] at H
               have LMc21 := ak_ c21
               clear c21
               obtain ⟨y491, hy491⟩ : ∃ y_ : List (List Int), y_ = (x5_1 ++ [t488]) := ⟨_, rfl⟩
               replace H : (impl_Keep_dangers.l0 k1 y491 l0_1 (l0_1.length : Int) (wrap64 (x12_1 + 1)) l1_0 a1_1) = some r := by first | (rw [hy491]; exact H) | exact H
               have Ny491 := ak_ hy491
               clear hy491
               have H' := ak_ H
               clear H
               have p483 : 0 ≤ (x12_1 : Int) := odt_ (by assumption)
               have q483 : x12_1 < (l0_1.length : Int) := odt_ (by assumption)
               obtain ⟨ad483, A483_0, c483_0, e483, hx483_0, hl483_0, hi483_0⟩ := at_L1 HR0_1.out x12_1 p483 q483
               cases e483
               try replace hx483_0 := (HB.out.cell (World.block_lt_of_cell? w _ hx483_0)).trans hx483_0
               have HR483_0 := ak_ hi483_0
               have HC483_0 := ak_ hl483_0
               clear hi483_0 hl483_0
               replace p483 := eq_true p483
               replace q483 := eq_true q483
               have hnb22 := NB479_478.out
               have hnc22 := NB478_479.out
               have hcz23_0 : wr.cell? ⟨gb479, 0, none⟩ = some (.slice A1_0 l1_0.length c1_0) := (blk_cell BK479.out 0).trans rfl
               have hcz23_1 : wr.cell? ⟨gb479, 1, none⟩ = some (.bool a1_1) := (blk_cell BK479.out 1).trans rfl
               have hfz23_0 := blk_frozen BK479.out 0
               have hfz23_1 := blk_frozen BK479.out 1
               have p484 : 0 ≤ (0 : Int) := (by omega)
               have q484 : 0 < ((rd_L1 l0_1 x12_1).length : Int) := odt_ (by assumption)
               obtain ⟨ad484, e484, hx484_0⟩ := Kd.at_int HR483_0.out 0 p484 q484
               cases e484
               have qi484 : (0 < (rd_L1 l0_1 x12_1).length) = True := eq_true (by omega)
               (try rw [show ((0 : Int)).toNat = 0 from rfl] at hx484_0)
               (try rw [Addr.add_zero'] at hx484_0)
               try replace hx484_0 := (HB.out.cell (World.block_lt_of_cell? w _ hx484_0)).trans hx484_0
               replace p484 := eq_true p484
               replace q484 := eq_true q484
               have p485 : 0 ≤ ((rd (rd_L1 l0_1 x12_1) 0) : Int) := odt_ (by assumption)
               have q485 : (rd (rd_L1 l0_1 x12_1) 0) < (l1_0.length : Int) := odt_ (by assumption)
               obtain ⟨ad485, e485, hx485_0⟩ := Kd.at_bool HR1_0.out (rd (rd_L1 l0_1 x12_1) 0) p485 q485
               cases e485
               try replace hx485_0 := (HB.out.cell (World.block_lt_of_cell? w _ hx485_0)).trans hx485_0
               replace p485 := eq_true p485
               replace q485 := eq_true q485
               have p486 : 0 ≤ (1 : Int) := (by omega)
               have q486 : 1 < ((rd_L1 l0_1 x12_1).length : Int) := odt_ (by assumption)
               obtain ⟨ad486, e486, hx486_0⟩ := Kd.at_int HR483_0.out 1 p486 q486
               obtain rfl : ad484 = ad486 := (by injection e486)
               (try simp only [show (1 : Int).toNat = 1 from rfl, Nat.reduceMul, Nat.reduceEqDiff, Go.Addr.add, ↓reduceIte] at hx486_0)
               have qi486 : (1 < (rd_L1 l0_1 x12_1).length) = True := eq_true (by omega)
               (try rw [show ((1 : Int)).toNat = 1 from rfl] at hx486_0)
               try replace hx486_0 := (HB.out.cell (World.block_lt_of_cell? w _ hx486_0)).trans hx486_0
               replace p486 := eq_true p486
               replace q486 := eq_true q486
               have p487 : 0 ≤ ((rd (rd_L1 l0_1 x12_1) 1) : Int) := odt_ (by assumption)
               have q487 : (rd (rd_L1 l0_1 x12_1) 1) < (l1_0.length : Int) := odt_ (by assumption)
               obtain ⟨ad487, e487, hx487_0⟩ := Kd.at_bool HR1_0.out (rd (rd_L1 l0_1 x12_1) 1) p487 q487
               obtain rfl : ad485 = ad487 := (by injection e487)
               try replace hx487_0 := (HB.out.cell (World.block_lt_of_cell? w _ hx487_0)).trans hx487_0
               replace p487 := eq_true p487
               replace q487 := eq_true q487
               go_wp2_with (first | (go_at_call 149; (with_reducible refine (slices_Clone_int_int.calls _ _ (rd_L1 l0_1 x12_1) t488 _ ?side1 ?side2 A20.out).mono ?_); (case side1 => repeat (first | exact (Kd.C_below HR483_0.out HB.out) | (with_reducible refine Kd.C_alloc ?_ _) | (with_reducible refine Kd.C_drewN ?_ _) | (with_reducible refine Kd.C_drew ?_))); (case side2 => exact HC483_0.out); rintro e w24 ⟨v489, rfl, ho0, hb⟩; have n0_ := ak_ (Kd.S_elder' (Kd.pS HO_5.out) (Kd.R_base ho0) hb); have n1_ := ak_ (Kd.R_lower ho0 (bz_ bl_)); have n2_ := ak_ (blk_below (pk BK478.out) hb); have n3_ := ak_ (blk_below (pk BK479.out) hb); have n4_ := ak_ (bs_ bl_ hb); clear HO_5; clear BK478; clear BK479; clear HB; have HO_5 := n0_; have HO490 := n1_; have BK478 := n2_; have BK479 := n3_; have HB := n4_; clear n0_ n1_ n2_ n3_ n4_; (try clear hb); (try clear hb2); (try clear hk); (try clear hi); (try clear ho0); obtain ⟨Ao26, co26, eo26⟩ := Kd.R_slice HO490.out; subst eo26) | ((with_reducible refine gate_builtin (b := .append) (xs := #[.tmp 38, .tmp 41]) rfl ?_); at_builtin; refine Kd.S_append (Kd.slice 3 (Kd.int .i64)) (w0 := w) w.heap.size rfl (.tmp 38) (.tmp 41) 47 29 (.slice none 0 0) 24 rfl Try.underlying47 info29 rfl (by decide) (by omega) u5 x5_1 t488 [.slice Ao26 t488.length co26] (fun _ => True) (fun k_ => some k_ = (.slice Ao26 t488.length co26 : Value).ownBlock) rfl rfl ?aP (fun k_ hk_ => ((Kd.R_mono (ok' := fun k_ => ((fun _ => True)) k_ ∧ some k_ ≠ (u5 : Value).ownBlock) (Kd.R_apart' (HO490.out) (Kd.S_typed HO_5.out) (by decide)) (fun k_ hk => ⟨trivial, hk.2⟩))).1 k_ hk_.symm) ?aF ?aO ?aB ?aS ?aL ?_; (case aP => exact Kd.M_row (Kd.R_mono (Kd.R_tight rfl (Kd.R_mono (ok' := fun k_ => ((fun _ => True)) k_ ∧ some k_ ≠ (u5 : Value).ownBlock) (Kd.R_apart' (HO490.out) (Kd.S_typed HO_5.out) (by decide)) (fun k_ hk => ⟨trivial, hk.2⟩))) (fun _ h_ => h_))); (case aB => exact bl_); (case aF => exact (fun _ _ => trivial)); (case aO => exact (by (with_reducible repeat (first | apply Kd.S_alloc | apply Kd.S_drewN | apply Kd.S_drew)); exact Kd.S_mono HO_5.out (fun k_ hk => ⟨trivial, fun e_ => hk.2 e_⟩))); (case aS => exact (bz_ bl_)); (case aL => have := LMc21.out; omega); intro v492 w25 ho hb hg hat; rw [← Ny491.out] at ho; have n0_ := ak_ (blk_grown (pk BK478.out) hg (Kd.S_ne HO_5.out BK478.out (by decide))); have n1_ := ak_ (blk_grown (pk BK479.out) hg (Kd.S_ne HO_5.out BK479.out (by decide))); have n2_ := ak_ (hb); have n3_ := ak_ (ho); clear BK478; clear BK479; clear HB; clear HO_5; clear HO490; have BK478 := n0_; have BK479 := n1_; have HB := n2_; have HO493 := n3_; clear n0_ n1_ n2_ n3_; clear ho hb hg hat))
               repeat (go_quiet (first | (go_at_call 149; (with_reducible refine (slices_Clone_int_int.calls _ _ (rd_L1 l0_1 x12_1) t488 _ ?side1 ?side2 A20.out).mono ?_); (case side1 => repeat (first | exact (Kd.C_below HR483_0.out HB.out) | (with_reducible refine Kd.C_alloc ?_ _) | (with_reducible refine Kd.C_drewN ?_ _) | (with_reducible refine Kd.C_drew ?_))); (case side2 => exact HC483_0.out); rintro e w24 ⟨v489, rfl, ho0, hb⟩; have n0_ := ak_ (Kd.S_elder' (Kd.pS HO_5.out) (Kd.R_base ho0) hb); have n1_ := ak_ (Kd.R_lower ho0 (bz_ bl_)); have n2_ := ak_ (blk_below (pk BK478.out) hb); have n3_ := ak_ (blk_below (pk BK479.out) hb); have n4_ := ak_ (bs_ bl_ hb); clear HO_5; clear BK478; clear BK479; clear HB; have HO_5 := n0_; have HO490 := n1_; have BK478 := n2_; have BK479 := n3_; have HB := n4_; clear n0_ n1_ n2_ n3_ n4_; (try clear hb); (try clear hb2); (try clear hk); (try clear hi); (try clear ho0); obtain ⟨Ao26, co26, eo26⟩ := Kd.R_slice HO490.out; subst eo26) | ((with_reducible refine gate_builtin (b := .append) (xs := #[.tmp 38, .tmp 41]) rfl ?_); at_builtin; refine Kd.S_append (Kd.slice 3 (Kd.int .i64)) (w0 := w) w.heap.size rfl (.tmp 38) (.tmp 41) 47 29 (.slice none 0 0) 24 rfl Try.underlying47 info29 rfl (by decide) (by omega) u5 x5_1 t488 [.slice Ao26 t488.length co26] (fun _ => True) (fun k_ => some k_ = (.slice Ao26 t488.length co26 : Value).ownBlock) rfl rfl ?aP (fun k_ hk_ => ((Kd.R_mono (ok' := fun k_ => ((fun _ => True)) k_ ∧ some k_ ≠ (u5 : Value).ownBlock) (Kd.R_apart' (HO490.out) (Kd.S_typed HO_5.out) (by decide)) (fun k_ hk => ⟨trivial, hk.2⟩))).1 k_ hk_.symm) ?aF ?aO ?aB ?aS ?aL ?_; (case aP => exact Kd.M_row (Kd.R_mono (Kd.R_tight rfl (Kd.R_mono (ok' := fun k_ => ((fun _ => True)) k_ ∧ some k_ ≠ (u5 : Value).ownBlock) (Kd.R_apart' (HO490.out) (Kd.S_typed HO_5.out) (by decide)) (fun k_ hk => ⟨trivial, hk.2⟩))) (fun _ h_ => h_))); (case aB => exact bl_); (case aF => exact (fun _ _ => trivial)); (case aO => exact (by (with_reducible repeat (first | apply Kd.S_alloc | apply Kd.S_drewN | apply Kd.S_drew)); exact Kd.S_mono HO_5.out (fun k_ hk => ⟨trivial, fun e_ => hk.2 e_⟩))); (case aS => exact (bz_ bl_)); (case aL => have := LMc21.out; omega); intro v492 w25 ho hb hg hat; rw [← Ny491.out] at ho; have n0_ := ak_ (blk_grown (pk BK478.out) hg (Kd.S_ne HO_5.out BK478.out (by decide))); have n1_ := ak_ (blk_grown (pk BK479.out) hg (Kd.S_ne HO_5.out BK479.out (by decide))); have n2_ := ak_ (hb); have n3_ := ak_ (ho); clear BK478; clear BK479; clear HB; clear HO_5; clear HO490; have BK478 := n0_; have BK479 := n1_; have HB := n2_; have HO493 := n3_; clear n0_ n1_ n2_ n3_; clear ho hb hg hat)); try go_wp2_with (first | (go_at_call 149; (with_reducible refine (slices_Clone_int_int.calls _ _ (rd_L1 l0_1 x12_1) t488 _ ?side1 ?side2 A20.out).mono ?_); (case side1 => repeat (first | exact (Kd.C_below HR483_0.out HB.out) | (with_reducible refine Kd.C_alloc ?_ _) | (with_reducible refine Kd.C_drewN ?_ _) | (with_reducible refine Kd.C_drew ?_))); (case side2 => exact HC483_0.out); rintro e w24 ⟨v489, rfl, ho0, hb⟩; have n0_ := ak_ (Kd.S_elder' (Kd.pS HO_5.out) (Kd.R_base ho0) hb); have n1_ := ak_ (Kd.R_lower ho0 (bz_ bl_)); have n2_ := ak_ (blk_below (pk BK478.out) hb); have n3_ := ak_ (blk_below (pk BK479.out) hb); have n4_ := ak_ (bs_ bl_ hb); clear HO_5; clear BK478; clear BK479; clear HB; have HO_5 := n0_; have HO490 := n1_; have BK478 := n2_; have BK479 := n3_; have HB := n4_; clear n0_ n1_ n2_ n3_ n4_; (try clear hb); (try clear hb2); (try clear hk); (try clear hi); (try clear ho0); obtain ⟨Ao26, co26, eo26⟩ := Kd.R_slice HO490.out; subst eo26) | ((with_reducible refine gate_builtin (b := .append) (xs := #[.tmp 38, .tmp 41]) rfl ?_); at_builtin; refine Kd.S_append (Kd.slice 3 (Kd.int .i64)) (w0 := w) w.heap.size rfl (.tmp 38) (.tmp 41) 47 29 (.slice none 0 0) 24 rfl Try.underlying47 info29 rfl (by decide) (by omega) u5 x5_1 t488 [.slice Ao26 t488.length co26] (fun _ => True) (fun k_ => some k_ = (.slice Ao26 t488.length co26 : Value).ownBlock) rfl rfl ?aP (fun k_ hk_ => ((Kd.R_mono (ok' := fun k_ => ((fun _ => True)) k_ ∧ some k_ ≠ (u5 : Value).ownBlock) (Kd.R_apart' (HO490.out) (Kd.S_typed HO_5.out) (by decide)) (fun k_ hk => ⟨trivial, hk.2⟩))).1 k_ hk_.symm) ?aF ?aO ?aB ?aS ?aL ?_; (case aP => exact Kd.M_row (Kd.R_mono (Kd.R_tight rfl (Kd.R_mono (ok' := fun k_ => ((fun _ => True)) k_ ∧ some k_ ≠ (u5 : Value).ownBlock) (Kd.R_apart' (HO490.out) (Kd.S_typed HO_5.out) (by decide)) (fun k_ hk => ⟨trivial, hk.2⟩))) (fun _ h_ => h_))); (case aB => exact bl_); (case aF => exact (fun _ _ => trivial)); (case aO => exact (by (with_reducible repeat (first | apply Kd.S_alloc | apply Kd.S_drewN | apply Kd.S_drew)); exact Kd.S_mono HO_5.out (fun k_ hk => ⟨trivial, fun e_ => hk.2 e_⟩))); (case aS => exact (bz_ bl_)); (case aL => have := LMc21.out; omega); intro v492 w25 ho hb hg hat; rw [← Ny491.out] at ho; have n0_ := ak_ (blk_grown (pk BK478.out) hg (Kd.S_ne HO_5.out BK478.out (by decide))); have n1_ := ak_ (blk_grown (pk BK479.out) hg (Kd.S_ne HO_5.out BK479.out (by decide))); have n2_ := ak_ (hb); have n3_ := ak_ (ho); clear BK478; clear BK479; clear HB; clear HO_5; clear HO490; have BK478 := n0_; have BK479 := n1_; have HB := n2_; have HO493 := n3_; clear n0_ n1_ n2_ n3_; clear ho hb hg hat)))
               go_roundg k1
               case measure => have := HK1.out; omega
               case rel => exact ⟨(y491), (wrap64 (x12_1 + 1)), (ry_), H', ⟨by have := HK1.out; omega⟩, ⟨Kd.pS HO493.out⟩, ⟨pk BK478.out⟩, ⟨pk BK479.out⟩, ⟨by repeat (first | exact HB.out | apply ba_ | apply bN_ | apply b1_ | refine below_set ?_ (Aside0.out (by assumption)))⟩⟩
              ·
               rw [if_neg c21] at H
               exact absurd H (by simp)
             ·
              rw [if_neg c19] at H
              have c19b0 : ((rdOf false l1_0 (rd (rd_L1 l0_1 x12_1) 1)) != a1_1) = false := by simpa using c19
              (try (have c19b1 : decide ((rdOf false l1_0 (rd (rd_L1 l0_1 x12_1) 1)) = a1_1) = true := by simpa using c19))
              (try (have c19b2 : ((rdOf false l1_0 (rd (rd_L1 l0_1 x12_1) 1)) == a1_1) = true := by simpa using c19))
              clear c19
              have H' := ak_ H
              clear H
              have p483 : 0 ≤ (x12_1 : Int) := odt_ (by assumption)
              have q483 : x12_1 < (l0_1.length : Int) := odt_ (by assumption)
              obtain ⟨ad483, A483_0, c483_0, e483, hx483_0, hl483_0, hi483_0⟩ := at_L1 HR0_1.out x12_1 p483 q483
              cases e483
              try replace hx483_0 := (HB.out.cell (World.block_lt_of_cell? w _ hx483_0)).trans hx483_0
              have HR483_0 := ak_ hi483_0
              have HC483_0 := ak_ hl483_0
              clear hi483_0 hl483_0
              replace p483 := eq_true p483
              replace q483 := eq_true q483
              have hnb27 := NB479_478.out
              have hnc27 := NB478_479.out
              have hcz28_0 : wr.cell? ⟨gb479, 0, none⟩ = some (.slice A1_0 l1_0.length c1_0) := (blk_cell BK479.out 0).trans rfl
              have hcz28_1 : wr.cell? ⟨gb479, 1, none⟩ = some (.bool a1_1) := (blk_cell BK479.out 1).trans rfl
              have hfz28_0 := blk_frozen BK479.out 0
              have hfz28_1 := blk_frozen BK479.out 1
              have p484 : 0 ≤ (0 : Int) := (by omega)
              have q484 : 0 < ((rd_L1 l0_1 x12_1).length : Int) := odt_ (by assumption)
              obtain ⟨ad484, e484, hx484_0⟩ := Kd.at_int HR483_0.out 0 p484 q484
              cases e484
              have qi484 : (0 < (rd_L1 l0_1 x12_1).length) = True := eq_true (by omega)
              (try rw [show ((0 : Int)).toNat = 0 from rfl] at hx484_0)
              (try rw [Addr.add_zero'] at hx484_0)
              try replace hx484_0 := (HB.out.cell (World.block_lt_of_cell? w _ hx484_0)).trans hx484_0
              replace p484 := eq_true p484
              replace q484 := eq_true q484
              have p485 : 0 ≤ ((rd (rd_L1 l0_1 x12_1) 0) : Int) := odt_ (by assumption)
              have q485 : (rd (rd_L1 l0_1 x12_1) 0) < (l1_0.length : Int) := odt_ (by assumption)
              obtain ⟨ad485, e485, hx485_0⟩ := Kd.at_bool HR1_0.out (rd (rd_L1 l0_1 x12_1) 0) p485 q485
              cases e485
              try replace hx485_0 := (HB.out.cell (World.block_lt_of_cell? w _ hx485_0)).trans hx485_0
              replace p485 := eq_true p485
              replace q485 := eq_true q485
              have p486 : 0 ≤ (1 : Int) := (by omega)
              have q486 : 1 < ((rd_L1 l0_1 x12_1).length : Int) := odt_ (by assumption)
              obtain ⟨ad486, e486, hx486_0⟩ := Kd.at_int HR483_0.out 1 p486 q486
              obtain rfl : ad484 = ad486 := (by injection e486)
              (try simp only [show (1 : Int).toNat = 1 from rfl, Nat.reduceMul, Nat.reduceEqDiff, Go.Addr.add, ↓reduceIte] at hx486_0)
              have qi486 : (1 < (rd_L1 l0_1 x12_1).length) = True := eq_true (by omega)
              (try rw [show ((1 : Int)).toNat = 1 from rfl] at hx486_0)
              try replace hx486_0 := (HB.out.cell (World.block_lt_of_cell? w _ hx486_0)).trans hx486_0
              replace p486 := eq_true p486
              replace q486 := eq_true q486
              have p487 : 0 ≤ ((rd (rd_L1 l0_1 x12_1) 1) : Int) := odt_ (by assumption)
              have q487 : (rd (rd_L1 l0_1 x12_1) 1) < (l1_0.length : Int) := odt_ (by assumption)
              obtain ⟨ad487, e487, hx487_0⟩ := Kd.at_bool HR1_0.out (rd (rd_L1 l0_1 x12_1) 1) p487 q487
              obtain rfl : ad485 = ad487 := (by injection e487)
              try replace hx487_0 := (HB.out.cell (World.block_lt_of_cell? w _ hx487_0)).trans hx487_0
              replace p487 := eq_true p487
              replace q487 := eq_true q487
              go_wp2
              repeat (go_quiet (fail); try go_wp2)
              go_roundg k1
              case measure => have := HK1.out; omega
              case rel => exact ⟨(x5_1), (wrap64 (x12_1 + 1)), (ry_), H', ⟨by have := HK1.out; omega⟩, ⟨Kd.pS HO_5.out⟩, ⟨pk BK478.out⟩, ⟨pk BK479.out⟩, ⟨by repeat (first | exact HB.out | apply ba_ | apply bN_ | apply b1_ | refine below_set ?_ (Aside0.out (by assumption)))⟩⟩
            ·
             rw [if_neg c18] at H
             exact absurd H (by simp)
           ·
            rw [if_neg c17] at H
            exact absurd H (by simp)
          ·
           rw [if_neg c16] at H
           exact absurd H (by simp)
         ·
          rw [if_neg c15] at H
          have c15b0 : ((rdOf false l1_0 (rd (rd_L1 l0_1 x12_1) 0)) != a1_1) = false := by simpa using c15
          (try (have c15b1 : decide ((rdOf false l1_0 (rd (rd_L1 l0_1 x12_1) 0)) = a1_1) = true := by simpa using c15))
          (try (have c15b2 : ((rdOf false l1_0 (rd (rd_L1 l0_1 x12_1) 0)) == a1_1) = true := by simpa using c15))
          clear c15
          have H' := ak_ H
          clear H
          have p483 : 0 ≤ (x12_1 : Int) := odt_ (by assumption)
          have q483 : x12_1 < (l0_1.length : Int) := odt_ (by assumption)
          obtain ⟨ad483, A483_0, c483_0, e483, hx483_0, hl483_0, hi483_0⟩ := at_L1 HR0_1.out x12_1 p483 q483
          cases e483
          try replace hx483_0 := (HB.out.cell (World.block_lt_of_cell? w _ hx483_0)).trans hx483_0
          have HR483_0 := ak_ hi483_0
          have HC483_0 := ak_ hl483_0
          clear hi483_0 hl483_0
          replace p483 := eq_true p483
          replace q483 := eq_true q483
          have hnb29 := NB479_478.out
          have hnc29 := NB478_479.out
          have hcz30_0 : wr.cell? ⟨gb479, 0, none⟩ = some (.slice A1_0 l1_0.length c1_0) := (blk_cell BK479.out 0).trans rfl
          have hcz30_1 : wr.cell? ⟨gb479, 1, none⟩ = some (.bool a1_1) := (blk_cell BK479.out 1).trans rfl
          have hfz30_0 := blk_frozen BK479.out 0
          have hfz30_1 := blk_frozen BK479.out 1
          have p484 : 0 ≤ (0 : Int) := (by omega)
          have q484 : 0 < ((rd_L1 l0_1 x12_1).length : Int) := odt_ (by assumption)
          obtain ⟨ad484, e484, hx484_0⟩ := Kd.at_int HR483_0.out 0 p484 q484
          cases e484
          have qi484 : (0 < (rd_L1 l0_1 x12_1).length) = True := eq_true (by omega)
          (try rw [show ((0 : Int)).toNat = 0 from rfl] at hx484_0)
          (try rw [Addr.add_zero'] at hx484_0)
          try replace hx484_0 := (HB.out.cell (World.block_lt_of_cell? w _ hx484_0)).trans hx484_0
          replace p484 := eq_true p484
          replace q484 := eq_true q484
          have p485 : 0 ≤ ((rd (rd_L1 l0_1 x12_1) 0) : Int) := odt_ (by assumption)
          have q485 : (rd (rd_L1 l0_1 x12_1) 0) < (l1_0.length : Int) := odt_ (by assumption)
          obtain ⟨ad485, e485, hx485_0⟩ := Kd.at_bool HR1_0.out (rd (rd_L1 l0_1 x12_1) 0) p485 q485
          cases e485
          try replace hx485_0 := (HB.out.cell (World.block_lt_of_cell? w _ hx485_0)).trans hx485_0
          replace p485 := eq_true p485
          replace q485 := eq_true q485
          go_wp2
          repeat (go_quiet (fail); try go_wp2)
          go_roundg k1
          case measure => have := HK1.out; omega
          case rel => exact ⟨(x5_1), (wrap64 (x12_1 + 1)), (ry_), H', ⟨by have := HK1.out; omega⟩, ⟨Kd.pS HO_5.out⟩, ⟨pk BK478.out⟩, ⟨pk BK479.out⟩, ⟨by repeat (first | exact HB.out | apply ba_ | apply bN_ | apply b1_ | refine below_set ?_ (Aside0.out (by assumption)))⟩⟩
        ·
         rw [if_neg c14] at H
         exact absurd H (by simp)
       ·
        rw [if_neg c13] at H
        exact absurd H (by simp)
      ·
       rw [if_neg c12] at H
       exact absurd H (by simp)
     ·
      rw [if_neg c11] at H
      exact absurd H (by simp)
    ·
     rw [if_neg c10] at H
     exact absurd H (by simp)
   ·
    rw [if_neg c9] at H
    have c9b0 : decide (x12_1 < (l0_1.length : Int)) = false := decide_eq_false c9
    clear c9
    obtain rfl := Option.some.inj H
    go_wp2
    repeat (go_quiet (fail); try go_wp2)
    go_ret
    exact ⟨_, rx_, by (with_reducible repeat (first | apply Kd.S_alloc | apply Kd.S_drewN | apply Kd.S_drew)); exact HO_5.out, by repeat (first | exact HB.out | apply ba_ | apply bN_ | apply b1_ | refine below_set ?_ (Aside0.out (by assumption)))⟩
end Go.Proofs.Ythkchdfkeieabaa.QGr
