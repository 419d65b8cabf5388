/- Contracts of functions of the given program, walked: each call returns what its Lean function says. Conditions: those that stand at each theorem. (Written by a program of this session.) -/
import Derived.Test.YthkchdfkeieabaaQGrx0
import Derived.Test.YthkchdfkeieabaaQGrx11
import Derived.Test.YthkchdfkeieabaaQGrx12
import Derived.Test.YthkchdfkeieabaaQGrx15
namespace Go.Proofs.Ythkchdfkeieabaa.QGr
open Go.RowKit Go.Proofs.YthkchdfkeieabaaW.PrintWords Go.Proofs.YthkchdfkeieabaaW.PrintLast Go.Proofs.YthkchdfkeieabaaW.PrintMore
open List (setIfInBounds_toArray set_cons_zero set_cons_succ map_toArray map_cons map_nil)
attribute [local go_sem] max2_int min2_int max_two min_two max_three min_three max_four min_four
set_option linter.unusedVariables false
set_option maxHeartbeats 8000000
set_option maxRecDepth 100000
set_option linter.unusedSimpArgs false
def impl_State_moved.l0 : Nat → List Int → Int → Int → List Bool → Bool → Option (List Bool × Bool)
 | 0, _, _, _, _, _ => none
 | k + 1, x15, x16, x17, x432000, x432001 => if x17 < x16 then (if 0 ≤ x17 then (if x17 < (x15.length : Int) then (if 0 ≤ (rd x15 x17) then (if (rd x15 x17) < (x432000.length : Int) then (impl_State_moved.l0 k x15 x16 (wrap64 (x17 + 1)) (x432000.set ((rd x15 x17) : Int).toNat x432001) x432001) else (none)) else (none)) else (none)) else (none)) else (some (x432000, x432001))
def impl_State_moved.f (k : Nat) (l0_0 : List Bool) (a0_1 : Bool) (l1 : List Int) : Option (List Bool × Bool) := (slices_Clone_bool_bool.f l0_0).bind fun t428 => (impl_State_moved.l0 k l1 (l1.length : Int) 0 t428 (!a0_1))
def impl_State_moved.T1 : Bool × List (List Nat × List Nat) := (true, [([], []), ([0], [0]), ([1], [1]), ([], []), ([3], [3]), ([4], [4]), ([2, 5], [2, 5]), ([], []), ([7, 6, 2, 0, 1, 2, 3, 4, 5, 6, 7], [6, 7])])
def impl_State_moved.B1 : List Nat := [0, 1, 3, 0, 8, 24, 63, 0, 255]
theorem impl_State_moved.tab1 : rtab .any (opsOf Try.f125 1) = impl_State_moved.T1 := by kernel_rfl
theorem impl_State_moved.bits1 : waitsOk impl_State_moved.T1.2 impl_State_moved.B1 = true := by kernel_rfl
theorem impl_State_moved.calls (k : Nat) (A0_0 : Option Addr) (c0_0 : Nat) (l0_0 : List Bool) (a0_1 : Bool) (A1 : Option Addr) (c1 : Nat) (l1 : List Int) (r1 : List Bool) (r2 : Bool) (w : World) (hr0_0 : Kd.C Kd.bool w A0_0 l0_0.length l0_0) (hc0_0 : l0_0.length ≤ c0_0) (hr1 : Kd.C (Kd.int .i64) w A1 l1.length l1) (hc1 : l1.length ≤ c1) (h : impl_State_moved.f k l0_0 a0_1 l1 = some (r1, r2)) :
  Calls Try.prog 125 #[.agg #[.slice A0_0 l0_0.length c0_0, .bool a0_1], .slice A1 l1.length c1] w fun e w' => ∃ v0_ : Value, e = .returned (.agg #[v0_, .bool r2]) ∧ Kd.R Kd.bool 4 w' w.heap.size (fun _ => True) v0_ r1 ∧ Below w.heap.size w w' := by
 have hu115 := Try.underlying115
 have HR0_0 := ak_ hr0_0
 have HC0_0 := ak_ hc0_0
 clear hr0_0 hc0_0
 have HR1 := ak_ hr1
 have HC1 := ak_ hc1
 clear hr1 hc1
 have HB := ak_ (Below.refl w.heap.size w)
 have H : ((slices_Clone_bool_bool.f l0_0).bind fun t428 => (impl_State_moved.l0 k l1 (l1.length : Int) 0 t428 (!a0_1))) = some (r1, r2) := h
 clear h
 replace H := Option.bind_eq_some_iff.mp H
 obtain ⟨t428, A30, H⟩ := H
 replace H : (impl_State_moved.l0 k l1 (l1.length : Int) 0 t428 (!a0_1)) = some (r1, r2) := H
 have A3 := ak_ A30
 clear A30
 have H' := ak_ H
 clear H
 go_enter Try.func125, Try.ntmps125
 try go_wp2_with (first | ((with_reducible refine gate_dst (N := 2) rfl ?_); refine bx_ 2 #[.slice A0_0 l0_0.length c0_0, .bool a0_1] 115 ?_; intro gb426 hg w4 hbox hb; have n0_ := ak_ (bs_ (bb_ HB.out) hb); have n1_ := ak_ (hbox); have n2_ := ak_ ((by rw [hg]; exact (bz_ (bb_ HB.out)) : w.heap.size ≤ gb426)); have n3_ := n2_; clear HB; have HB := n0_; have BK426 := n1_; have GW426 := n2_; have GE426 := n3_; clear n0_ n1_ n2_ n3_; clear hb hbox hg) | ((with_reducible refine gate_dst (N := 4) rfl ?_); refine bx_ 4 #[.slice none 0 0, .bool false] 115 ?_; intro gb427 hg w5 hbox hb; have n0_ := ak_ (blk_below (pk BK426.out) hb); have n1_ := ak_ (bs_ bl_ hb); have n2_ := ak_ (hbox); have n3_ := ak_ ((by rw [hg]; exact (bz_ bl_) : w.heap.size ≤ gb427)); have n4_ := n3_; have n5_ := ak_ ((by rw [hg]; exact Nat.ne_of_lt (blk_lt (pk BK426.out)) : gb426 ≠ gb427)); have n6_ := ak_ n5_.out.symm; clear BK426; clear HB; have BK426 := n0_; have HB := n1_; have BK427 := n2_; have GW427 := n3_; have GE427 := n4_; have NB426_427 := n5_; have NB427_426 := n6_; clear n0_ n1_ n2_ n3_ n4_ n5_ n6_; clear hb hbox hg))
 have n0_ := ak_ (k1_ BK426.out)
 have n1_ := ak_ (k1_ BK427.out)
 have n2_ := ak_ (b1_ HB.out)
 clear BK426 BK427 HB
 have BK426 := n0_; have BK427 := n1_; have HB := n2_
 clear n0_ n1_ n2_
 refine start_ (n := 9) (S := fun w' => w'.cell? ⟨gb426, 0, none⟩ = some (.slice A0_0 l0_0.length c0_0) ∧ w'.cell? ⟨gb426, 1, none⟩ = some (.bool a0_1)) (ds := []) (mb_ 9 0) (by kernel_rfl) rfl rfl ⟨(blk_cell BK426.out 0).trans rfl, (blk_cell BK426.out 1).trans rfl⟩ (fun hHeld => ?_); refine with_tabW impl_State_moved.tab1 impl_State_moved.bits1 (fun HT_ HW_ => ?_)
 generalize w5.drew = w6 at BK426 BK427 HB hHeld ⊢
 refine pu_ 0 8 9 1 ?_
 refine pu_ 3 11 9 9 ?_
 refine tk_ 1 9 9 11 ?_ (hy := by rintro w' ⟨s0, s1⟩; go_simp; with_reducible rfl)
 refine tk_ 4 12 9 27 ?_ (hy := by rintro w' ⟨s0, s1⟩; go_simp; with_reducible rfl)
 refine pu_ 5 13 9 59 ?_
 refine join_ (σ := Value × Nat) 1 (mb_ 9 255) (fun s_ => [(10, s_.1), (5, .pointer (some ⟨s_.2, 0, none⟩)), (14, .agg #[s_.1, .bool (!a0_1)])]) (fun s_ w' => (w'.cell? ⟨gb426, 0, none⟩ = some (.slice A0_0 l0_0.length c0_0) ∧ w'.cell? ⟨gb426, 1, none⟩ = some (.bool a0_1)) ∧ (Kd.R Kd.bool 4 w' w.heap.size (fun _ => True) s_.1 t428) ∧ (w'.heap[gb426]? = some (.cells #[.slice A0_0 l0_0.length c0_0, .bool a0_1] 115 (0, 0))) ∧ (w'.heap[gb427]? = some (.cells #[.slice none 0 0, .bool false] 115 (0, 0))) ∧ (w'.heap[s_.2]? = some (.cells #[.slice none 0 0, .bool false] 115 (0, 0))) ∧ (w.heap.size ≤ s_.2) ∧ (w.heap.size ≤ s_.2) ∧ (gb426 ≠ s_.2) ∧ (s_.2 ≠ gb426) ∧ (gb427 ≠ s_.2) ∧ (s_.2 ≠ gb427) ∧ (Below w.heap.size w w')) ?_ ?_
 rotate_left
 ·
  intro hCont
  refine two_ (i := 2) (j := 7) (Ni := some 10) (Nj := some 5) (mb_ 9 63) (mb_ 9 187) rfl rfl rfl rfl (two_of HT_.out (by kernel_rfl)) (by decide) (by decide) (fun K hK => ?_) (fun K hK => ?_)
  ·
   skip
   refine goes_ Try.func159 (by kernel_rfl) rfl #[.slice A0_0 l0_0.length c0_0] (by rfl) rfl rfl (by first | rfl | (simp only [map_toArray, map_cons, map_nil]; try rfl)) ?_
   with_reducible refine (slices_Clone_bool_bool.calls _ _ l0_0 t428 _ ?side1 ?side2 A3.out).mono ?_
   (case side1 => repeat (first | exact (Kd.C_below HR0_0.out HB.out) | (with_reducible refine Kd.C_alloc ?_ _) | (with_reducible refine Kd.C_drewN ?_ _) | (with_reducible refine Kd.C_drew ?_)))
   (case side2 => exact HC0_0.out)
   rintro e w7 ⟨v429, rfl, ho0, hb⟩
   refine ⟨_, rfl, ?_⟩
   have n0_ := ak_ (Kd.R_lower ho0 (bz_ bl_))
   have n1_ := ak_ (blk_below (pk BK426.out) hb)
   have n2_ := ak_ (blk_below (pk BK427.out) hb)
   have n3_ := ak_ (bs_ bl_ hb)
   clear BK426 BK427 HB
   have HO430 := n0_; have BK426 := n1_; have BK427 := n2_; have HB := n3_
   clear n0_ n1_ n2_ n3_
   (try clear hb)
   (try clear hb2)
   (try clear hk)
   (try clear hi)
   (try clear ho0)
   obtain ⟨Ao8, co8, eo8⟩ := Kd.R_slice HO430.out
   (first | subst eo8 | (injection eo8 with f1_ f2_ f3_; have f4_ := f1_.symm; have f5_ := f3_.symm; clear f1_ f2_ f3_; subst f4_; subst f5_))
   refine hK.out _ _ ⟨(blk_cell BK426.out 0).trans rfl, (blk_cell BK426.out 1).trans rfl⟩ (fun hHeld => ?_)
   clear hK K
   refine nm_ ?_
   refine pu_ 6 14 9 127 ?_
   refine on_ 7 5 9 255 (fun K hK => ?_)
   refine box_step ?hg (N := 5) ?hd (cs := #[.slice none 0 0, .bool false]) (t := 115) ?hr ?_; (case hd => rfl); (case hg => rfl); (case hr => go_simp <;> rfl)
   intro gb431 hg w9 hbox hb
   have n0_ := ak_ (Kd.R_below (Kd.pR HO430.out) hb)
   have n1_ := ak_ (blk_below (pk BK426.out) hb)
   have n2_ := ak_ (blk_below (pk BK427.out) hb)
   have n3_ := ak_ (bs_ bl_ hb)
   have n4_ := ak_ (hbox)
   have n5_ := ak_ ((by rw [hg]; exact (bz_ bl_) : w.heap.size ≤ gb431))
   have n6_ := n5_
   have n7_ := ak_ ((by rw [hg]; exact Nat.ne_of_lt (blk_lt (pk BK426.out)) : gb426 ≠ gb431))
   have n8_ := ak_ n7_.out.symm
   have n9_ := ak_ ((by rw [hg]; exact Nat.ne_of_lt (blk_lt (pk BK427.out)) : gb427 ≠ gb431))
   have n10_ := ak_ n9_.out.symm
   clear HO430 BK426 BK427 HB
   have HO430 := n0_; have BK426 := n1_; have BK427 := n2_; have HB := n3_; have BK431 := n4_; have GW431 := n5_; have GE431 := n6_; have NB426_431 := n7_; have NB431_426 := n8_; have NB427_431 := n9_; have NB431_427 := n10_
   clear n0_ n1_ n2_ n3_ n4_ n5_ n6_ n7_ n8_ n9_ n10_ hb hbox hg
   refine hK.out _ _ ⟨(blk_cell BK426.out 0).trans rfl, (blk_cell BK426.out 1).trans rfl⟩ (fun hHeld => ?_)
   clear hK K
   refine nm_ ?_
   exact norm_ (by simp only [putAll, Act.put, setIfInBounds_toArray, set_cons_zero, set_cons_succ]) (hCont (.slice Ao8 t428.length co8, gb431) _ ⟨hHeld, (Kd.pR HO430.out), (pk BK426.out), (pk BK427.out), (pk BK431.out), GW431.out, GE431.out, NB426_431.out, NB431_426.out, NB427_431.out, NB431_427.out, bl_⟩)
  ·
   skip
   refine box_step ?hg (N := 5) ?hd (cs := #[.slice none 0 0, .bool false]) (t := 115) ?hr ?_; (case hd => rfl); (case hg => rfl); (case hr => go_simp <;> rfl)
   intro gb431 hg w7 hbox hb
   have n0_ := ak_ (blk_below (pk BK426.out) hb)
   have n1_ := ak_ (blk_below (pk BK427.out) hb)
   have n2_ := ak_ (bs_ bl_ hb)
   have n3_ := ak_ (hbox)
   have n4_ := ak_ ((by rw [hg]; exact (bz_ bl_) : w.heap.size ≤ gb431))
   have n5_ := n4_
   have n6_ := ak_ ((by rw [hg]; exact Nat.ne_of_lt (blk_lt (pk BK426.out)) : gb426 ≠ gb431))
   have n7_ := ak_ n6_.out.symm
   have n8_ := ak_ ((by rw [hg]; exact Nat.ne_of_lt (blk_lt (pk BK427.out)) : gb427 ≠ gb431))
   have n9_ := ak_ n8_.out.symm
   clear BK426 BK427 HB
   have BK426 := n0_; have BK427 := n1_; have HB := n2_; have BK431 := n3_; have GW431 := n4_; have GE431 := n5_; have NB426_431 := n6_; have NB431_426 := n7_; have NB427_431 := n8_; have NB431_427 := n9_
   clear n0_ n1_ n2_ n3_ n4_ n5_ n6_ n7_ n8_ n9_ hb hbox hg
   refine hK.out _ _ ⟨(blk_cell BK426.out 0).trans rfl, (blk_cell BK426.out 1).trans rfl⟩ (fun hHeld => ?_)
   clear hK K
   refine nm_ ?_
   refine on_ 2 10 9 191 (fun K hK => ?_)
   refine goes_ Try.func159 (by kernel_rfl) rfl #[.slice A0_0 l0_0.length c0_0] (by rfl) rfl rfl (by first | rfl | (simp only [map_toArray, map_cons, map_nil]; try rfl)) ?_
   with_reducible refine (slices_Clone_bool_bool.calls _ _ l0_0 t428 _ ?side1 ?side2 A3.out).mono ?_
   (case side1 => repeat (first | exact (Kd.C_below HR0_0.out HB.out) | (with_reducible refine Kd.C_alloc ?_ _) | (with_reducible refine Kd.C_drewN ?_ _) | (with_reducible refine Kd.C_drew ?_)))
   (case side2 => exact HC0_0.out)
   rintro e w8 ⟨v429, rfl, ho0, hb⟩
   refine ⟨_, rfl, ?_⟩
   have n0_ := ak_ (Kd.R_lower ho0 (bz_ bl_))
   have n1_ := ak_ (blk_below (pk BK426.out) hb)
   have n2_ := ak_ (blk_below (pk BK427.out) hb)
   have n3_ := ak_ (blk_below (pk BK431.out) hb)
   have n4_ := ak_ (bs_ bl_ hb)
   clear BK426 BK427 BK431 HB
   have HO430 := n0_; have BK426 := n1_; have BK427 := n2_; have BK431 := n3_; have HB := n4_
   clear n0_ n1_ n2_ n3_ n4_
   (try clear hb)
   (try clear hb2)
   (try clear hk)
   (try clear hi)
   (try clear ho0)
   obtain ⟨Ao9, co9, eo9⟩ := Kd.R_slice HO430.out
   (first | subst eo9 | (injection eo9 with f1_ f2_ f3_; have f4_ := f1_.symm; have f5_ := f3_.symm; clear f1_ f2_ f3_; subst f4_; subst f5_))
   refine hK.out _ _ ⟨(blk_cell BK426.out 0).trans rfl, (blk_cell BK426.out 1).trans rfl⟩ (fun hHeld => ?_)
   clear hK K
   refine nm_ ?_
   refine pu_ 6 14 9 255 ?_
   exact norm_ (by simp only [putAll, Act.put, setIfInBounds_toArray, set_cons_zero, set_cons_succ]) (hCont (.slice Ao9 t428.length co9, gb431) _ ⟨hHeld, (Kd.pR HO430.out), (pk BK426.out), (pk BK427.out), (pk BK431.out), GW431.out, GE431.out, NB426_431.out, NB431_426.out, NB427_431.out, NB431_427.out, bl_⟩)
 rintro ⟨v429, gb431⟩ w10 ⟨hS_, h0_, h1_, h2_, h3_, h4_, h5_, h6_, h7_, h8_, h9_, h10_⟩
 have n0_ : Aside0 (Kd.R Kd.bool 4 w10 w.heap.size (fun _ => True) v429 t428) := ⟨h0_⟩
 have n1_ : Aside0 (w10.heap[gb426]? = some (.cells #[.slice A0_0 l0_0.length c0_0, .bool a0_1] 115 (0, 0))) := ⟨h1_⟩
 have n2_ : Aside0 (w10.heap[gb427]? = some (.cells #[.slice none 0 0, .bool false] 115 (0, 0))) := ⟨h2_⟩
 have n3_ : Aside0 (w10.heap[gb431]? = some (.cells #[.slice none 0 0, .bool false] 115 (0, 0))) := ⟨h3_⟩
 have n4_ : Aside0 (w.heap.size ≤ gb431) := ⟨h4_⟩
 have n5_ : Aside0 (w.heap.size ≤ gb431) := ⟨h5_⟩
 have n6_ : Aside0 (gb426 ≠ gb431) := ⟨h6_⟩
 have n7_ : Aside0 (gb431 ≠ gb426) := ⟨h7_⟩
 have n8_ : Aside0 (gb427 ≠ gb431) := ⟨h8_⟩
 have n9_ : Aside0 (gb431 ≠ gb427) := ⟨h9_⟩
 have n10_ : Aside0 (Below w.heap.size w w10) := ⟨h10_⟩
 clear BK426 BK427 HB h0_ h1_ h2_ h3_ h4_ h5_ h6_ h7_ h8_ h9_ h10_
 have HO430 := n0_; have BK426 := n1_; have BK427 := n2_; have BK431 := n3_; have GW431 := n4_; have GE431 := n5_; have NB426_431 := n6_; have NB431_426 := n7_; have NB427_431 := n8_; have NB431_427 := n9_; have HB := n10_
 clear n0_ n1_ n2_ n3_ n4_ n5_ n6_ n7_ n8_ n9_ n10_
 have hHeld : w10.cell? ⟨gb426, 0, none⟩ = some (.slice A0_0 l0_0.length c0_0) ∧ w10.cell? ⟨gb426, 1, none⟩ = some (.bool a0_1) := hS_
 obtain ⟨Ao11, co11, eo11⟩ := Kd.R_slice HO430.out
 (first | subst eo11 | (injection eo11 with f1_ f2_ f3_; have f4_ := f1_.symm; have f5_ := f3_.symm; clear f1_ f2_ f3_; subst f4_; subst f5_))
 refine norm_ (a' := ?_) ?_ ?_
 rotate_left
 ·
  simp only [putAll, Act.put, setIfInBounds_toArray, set_cons_zero, set_cons_succ]
  rfl
 refine one_ (i := 8) (N := none) (mb_ 9 511) rfl rfl (one_of HT_.out (by kernel_rfl)) (by decide) (fun K hK => ?_)
 have hs12 : w10.cell? ⟨gb431, 0, none⟩ = some (.slice none 0 0) := (blk_cell BK431.out 0).trans rfl
 have hfs12 := blk_frozen BK431.out 0
 have hns12_0 := NB426_431.out
 have hns12_1 := NB427_431.out
 have hms12_0 := NB431_426.out
 have hms12_1 := NB431_427.out
 have hs13 : w10.cell? ⟨gb431, 1, none⟩ = some (.bool false) := (blk_cell BK431.out 1).trans rfl
 have hfs13 := blk_frozen BK431.out 1
 have hns13_0 := NB426_431.out
 have hns13_1 := NB427_431.out
 have hms13_0 := NB431_426.out
 have hms13_1 := NB431_427.out
 refine skip_ (w1 := ?_) (by rfl) rfl ?_ ?_
 rotate_left
 ·
  go_simp
  rfl
 refine hK.out _ _ ⟨((cell_far (p := ⟨gb431, _, none⟩) NB426_431.out _).trans (((cell_far (p := ⟨gb431, _, none⟩) NB426_431.out _).trans (hHeld.1)))), ((cell_far (p := ⟨gb431, _, none⟩) NB426_431.out _).trans (((cell_far (p := ⟨gb431, _, none⟩) NB426_431.out _).trans (hHeld.2))))⟩ (fun hHeld => ?_)
 clear hK K
 refine done_ (done_of HT_.out (by kernel_rfl)) ?_
 try go_wp2
 go_loopg [17] k (fun kq v17 w' => ∃ (x17_1 : Int) (x432000_1 : List Bool) (u432000 : Value), v17 = .int .i64 x17_1 ∧ Aside0 (impl_State_moved.l0 kq l1 (l1.length : Int) x17_1 x432000_1 (!a0_1) = some (r1, r2)) ∧ Aside0 (kq ≤ k) ∧ Aside0 (Kd.R Kd.bool 4 w' w.heap.size (fun _ => True) u432000 x432000_1) ∧ Aside0 (w'.heap[gb426]? = some (.cells #[(.slice A0_0 l0_0.length c0_0), .bool a0_1] 115 (0, 0))) ∧ Aside0 (w'.heap[gb427]? = some (.cells #[(.slice none 0 0), .bool false] 115 (0, 0))) ∧ Aside0 (w'.heap[gb431]? = some (.cells #[u432000, .bool (!a0_1)] 115 (0, 0))) ∧ Aside0 (Below w.heap.size w w'))
 case atStart => exact ⟨(0), (t428), (.slice Ao11 t428.length co11), (ry_), H', ⟨Nat.le_refl _⟩, ⟨by (with_reducible repeat (first | apply Kd.R_alloc | apply Kd.R_drewN | apply Kd.R_drew)); exact Kd.R_mono (Kd.R_far (p := ⟨gb431, 1, none⟩) (Kd.R_far (p := ⟨gb431, 0, none⟩) (Kd.R_types HO430.out BK431.out (by decide)) (fun _ hk => hk.2) (.slice Ao11 t428.length co11)) (fun _ hk => hk.2) (.bool (!a0_1))) (fun _ hk => trivial)⟩, ⟨by (with_reducible repeat (first | refine kN_ ?_ _ | refine k1_ ?_ | refine ka_ ?_ _)); refine blk_far ?_ NB426_431.out _; (with_reducible repeat (first | refine kN_ ?_ _ | refine k1_ ?_ | refine ka_ ?_ _)); refine blk_far ?_ NB426_431.out _; exact pk BK426.out⟩, ⟨by (with_reducible repeat (first | refine kN_ ?_ _ | refine k1_ ?_ | refine ka_ ?_ _)); refine blk_far ?_ NB427_431.out _; (with_reducible repeat (first | refine kN_ ?_ _ | refine k1_ ?_ | refine ka_ ?_ _)); refine blk_far ?_ NB427_431.out _; exact pk BK427.out⟩, ⟨by (with_reducible repeat (first | refine kN_ ?_ _ | refine k1_ ?_ | refine ka_ ?_ _)); refine blk_put (cs := #[.slice Ao11 t428.length co11, .bool false]) ?_ 1 _ rfl; (with_reducible repeat (first | refine kN_ ?_ _ | refine k1_ ?_ | refine ka_ ?_ _)); refine blk_put (cs := #[.slice none 0 0, .bool false]) ?_ 0 _ rfl; exact pk BK431.out⟩, ⟨by repeat (first | exact HB.out | apply ba_ | apply bN_ | apply b1_ | refine below_set ?_ (Aside0.out (by assumption)))⟩⟩
 case round =>
  clear H'
  try clear c1
  try clear p2
  try clear c12
  obtain ⟨x17_1, x432000_1, u432000, rfl, HA, HK1, HO_432000, BK426, BK427, BK431, HB⟩ := hrel
  cases gk with
  | zero => exact absurd HA.out (by simp [impl_State_moved.l0])
  | succ k1 =>
   have H := HA.out
   clear HA
   simp only [impl_State_moved.l0] at H
   by_cases c14 : x17_1 < (l1.length : Int)
   ·
    rw [if_pos c14] at H
    have c14b0 : decide (x17_1 < (l1.length : Int)) = true := decide_eq_true c14
    clear c14
    by_cases c15 : 0 ≤ x17_1
    ·
     rw [if_pos c15] at H
     have c15b0 : decide (0 ≤ x17_1) = true := decide_eq_true c15
     clear c15
     by_cases c16 : x17_1 < (l1.length : Int)
     ·
      rw [if_pos c16] at H
      have c16b0 : decide (x17_1 < (l1.length : Int)) = true := decide_eq_true c16
      clear c16
      by_cases c17 : 0 ≤ (rd l1 x17_1)
      ·
       rw [if_pos c17] at H
       have c17b0 : decide (0 ≤ (rd l1 x17_1)) = true := decide_eq_true c17
       clear c17
       by_cases c18 : (rd l1 x17_1) < (x432000_1.length : Int)
       ·
        rw [if_pos c18] at H
        have c18b0 : decide ((rd l1 x17_1) < (x432000_1.length : Int)) = true := decide_eq_true c18
        clear c18
        obtain ⟨y433, hy433⟩ : ∃ y_ : List Bool, y_ = (x432000_1.set ((rd l1 x17_1) : Int).toNat (!a0_1)) := ⟨_, rfl⟩
        replace H : (impl_State_moved.l0 k1 l1 (l1.length : Int) (wrap64 (x17_1 + 1)) y433 (!a0_1)) = some (r1, r2) := by first | (rw [hy433]; exact H) | exact H
        have Ny433 := ak_ hy433
        clear hy433
        have H' := ak_ H
        clear H
        have p432 : 0 ≤ (x17_1 : Int) := odt_ (by assumption)
        have q432 : x17_1 < (l1.length : Int) := odt_ (by assumption)
        obtain ⟨ad432, e432, hx432_0⟩ := Kd.at_int HR1.out x17_1 p432 q432
        cases e432
        try replace hx432_0 := (HB.out.cell (World.block_lt_of_cell? w _ hx432_0)).trans hx432_0
        replace p432 := eq_true p432
        replace q432 := eq_true q432
        have hnb20 := NB431_426.out
        have hnc20 := NB426_431.out
        have hnb21 := NB431_427.out
        have hnc21 := NB427_431.out
        have hcz22_0 : wr.cell? ⟨gb431, 0, none⟩ = some (u432000) := (blk_cell BK431.out 0).trans rfl
        have hcz22_1 : wr.cell? ⟨gb431, 1, none⟩ = some (.bool (!a0_1)) := (blk_cell BK431.out 1).trans rfl
        have hfz22_0 := blk_frozen BK431.out 0
        have hfz22_1 := blk_frozen BK431.out 1
        have p19 : 0 ≤ ((rd l1 x17_1) : Int) := odt_ (by assumption)
        have q19 : ((rd l1 x17_1) : Int) < ((x432000_1.length : Int) : Int) := odt_ (by assumption)
        obtain ⟨go19, co19, eo19, gb19, gl19, cl19, HG19⟩ := Kd.R_form HO_432000.out (by omega)
        (first | cases eo19 | (injection eo19 with ea_ en_ ec_; (first | subst ea_ | (injection ea_ with ea_; subst ea_)); subst ec_; clear en_))
        have GB19 := ak_ gb19
        have GG19 := ak_ HG19
        clear gb19 gl19 HG19
        obtain ⟨hx19_0, hf19_0⟩ := Kd.R_celln false HO_432000.out ((rd l1 x17_1) : Int) p19 q19
        replace p19 := eq_true p19
        replace q19 := eq_true q19
        have HP23 := Kd.R_putg HO_432000.out ((rd l1 x17_1) : Int) (!a0_1)
        go_wp2_with (first | ((with_reducible refine gate_store (t := 4) (p := 26) rfl ?_); refine store_event (t := 4) (p := 26) (v := ?vo_w24) (w1 := (wr.setCell ⟨go19, ((rd l1 x17_1) : Int).toNat, none⟩ (.bool (!a0_1)))) ?hg ?ho ?hn ?hr ?_; (case ho => rfl); (case hg => rfl); (case hn => rfl); (case hr => go_simp <;> rfl); intro w24 hw; have hg : wr.grownBy w24 (some go19) := (by rw [hw]; exact HP23.2); have hp_ : Kd.R Kd.bool 4 w24 w.heap.size (fun _ => True) (.slice (some ⟨go19, 0, none⟩) x432000_1.length co19) y433 := (by rw [hw, Ny433.out]; exact HP23.1); clear HP23; have n0_ := ak_ (hp_); have n1_ := ak_ (blk_grown (pk BK426.out) hg (Kd.R_ne HO_432000.out BK426.out (by decide))); have n2_ := ak_ (blk_grown (pk BK427.out) hg (Kd.R_ne HO_432000.out BK427.out (by decide))); have n3_ := ak_ (blk_grown (pk BK431.out) hg (Kd.R_ne HO_432000.out BK431.out (by decide))); have n4_ := ak_ ((by rw [hw]; exact below_set (HB.out) GB19.out : Below w.heap.size w w24)); clear HO_432000; clear BK426; clear BK427; clear BK431; clear HB; have HO_432000 := n0_; have BK426 := n1_; have BK427 := n2_; have BK431 := n3_; have HB := n4_; clear n0_ n1_ n2_ n3_ n4_; clear hg hw hp_))
        go_roundg k1
        case measure => have := HK1.out; omega
        case rel => exact ⟨(wrap64 (x17_1 + 1)), (y433), (.slice (some ⟨go19, 0, none⟩) x432000_1.length co19), (ry_), H', ⟨by have := HK1.out; omega⟩, ⟨Kd.pR HO_432000.out⟩, ⟨pk BK426.out⟩, ⟨pk BK427.out⟩, ⟨pk BK431.out⟩, ⟨by repeat (first | exact HB.out | apply ba_ | apply bN_ | apply b1_ | refine below_set ?_ (Aside0.out (by assumption)))⟩⟩
       ·
        rw [if_neg c18] at H
        exact absurd H (by simp)
      ·
       rw [if_neg c17] at H
       exact absurd H (by simp)
     ·
      rw [if_neg c16] at H
      exact absurd H (by simp)
    ·
     rw [if_neg c15] at H
     exact absurd H (by simp)
   ·
    rw [if_neg c14] at H
    have c14b0 : decide (x17_1 < (l1.length : Int)) = false := decide_eq_false c14
    clear c14
    simp only [Option.some.injEq, Prod.mk.injEq] at H
    obtain ⟨rfl, rfl⟩ := H
    have hnb25 := NB431_426.out
    have hnc25 := NB426_431.out
    have hnb26 := NB431_427.out
    have hnc26 := NB427_431.out
    have hcz27_0 : wr.cell? ⟨gb431, 0, none⟩ = some (u432000) := (blk_cell BK431.out 0).trans rfl
    have hcz27_1 : wr.cell? ⟨gb431, 1, none⟩ = some (.bool (!a0_1)) := (blk_cell BK431.out 1).trans rfl
    have hfz27_0 := blk_frozen BK431.out 0
    have hfz27_1 := blk_frozen BK431.out 1
    obtain ⟨Ao28, co28, eo28⟩ := Kd.R_slice HO_432000.out
    subst eo28
    have hnb29 := NB427_426.out
    have hnc29 := NB426_427.out
    have hcz30_0 : wr.cell? ⟨gb427, 0, none⟩ = some (.slice none 0 0) := (blk_cell BK427.out 0).trans rfl
    have hcz30_1 : wr.cell? ⟨gb427, 1, none⟩ = some (.bool false) := (blk_cell BK427.out 1).trans rfl
    have hfz30_0 := blk_frozen BK427.out 0
    have hfz30_1 := blk_frozen BK427.out 1
    go_wp2
    refine bodyPost_ret (results_cell_row rfl _ _ gb427 115 #[.slice Ao28 x432000_1.length co28, .bool (!a0_1)] (0, 0) _ rfl (by (with_reducible repeat (first | refine kN_ ?_ _ | refine k1_ ?_ | refine ka_ ?_ _)); refine blk_put (cs := #[.slice Ao28 x432000_1.length co28, .bool false]) ?_ 1 _ rfl; (with_reducible repeat (first | refine kN_ ?_ _ | refine k1_ ?_ | refine ka_ ?_ _)); refine blk_put (cs := #[.slice none 0 0, .bool false]) ?_ 0 _ rfl; exact pk BK427.out) Try.underlying115 rfl (by kernel_rfl)) rfl ?_
    exact ⟨_, rx_, by (with_reducible repeat (first | apply Kd.R_alloc | apply Kd.R_drewN | apply Kd.R_drew)); exact Kd.R_mono (Kd.R_far (p := ⟨gb427, 1, none⟩) (Kd.R_far (p := ⟨gb427, 0, none⟩) (Kd.R_types HO_432000.out BK427.out (by decide)) (fun _ hk => hk.2) (.slice Ao28 x432000_1.length co28)) (fun _ hk => hk.2) (.bool (!a0_1))) (fun _ hk => trivial), by repeat (first | exact HB.out | apply ba_ | apply bN_ | apply b1_ | refine below_set ?_ (Aside0.out (by assumption)))⟩
def impl_bit.f (a0 : Bool) : Option (Int) := if a0 = true then (some 1) else (some 0)
theorem impl_bit.calls (a0 : Bool) (r : Int) (w : World) (h : impl_bit.f a0 = some r) :
  Calls Try.prog 160 #[.bool a0] w fun e w' => e = .returned (.int .i64 r) ∧ Drawn0 w w' := by
 have H : (if a0 = true then (some 1) else (some 0)) = some r := h
 clear h
 by_cases c2 : a0 = true
 ·subst c2
  have H1 : (some 1) = some r := by rw [if_pos rfl] at H; exact H
  clear H
  have H := H1
  clear H1
  obtain rfl := Option.some.inj H
  go_enter Try.func160, Try.ntmps160
  go_wp2
  go_ret
  exact ⟨ry_, by repeat (first | exact Drawn0.refl _ | apply Drawn0.step)⟩
 ·replace c2 := Bool.eq_false_iff.mpr c2
  subst c2
  have H1 : (some 0) = some r := by rw [if_neg (show ¬ (false = true) by decide)] at H; exact H
  clear H
  have H := H1
  clear H1
  obtain rfl := Option.some.inj H
  go_enter Try.func160, Try.ntmps160
  go_wp2
  go_ret
  exact ⟨ry_, by repeat (first | exact Drawn0.refl _ | apply Drawn0.step)⟩
def impl_State_code.l0 : Nat → Int → List Bool → Int → Int → Option (Int)
 | 0, _, _, _, _ => none
 | k + 1, x3, x14, x15, x16 => if x16 < x15 then (if 0 ≤ x16 then (if x16 < (x14.length : Int) then ((impl_bit.f (rdOf false x14 x16)).bind fun t437 => (impl_State_code.l0 k (Go.bits .or .i64 x3 (shl .i64 t437 x16)) x14 x15 (wrap64 (x16 + 1)))) else (none)) else (none)) else (some x3)
def impl_State_code.f (k : Nat) (l0_0 : List Bool) (a0_1 : Bool) : Option (Int) := (impl_bit.f a0_1).bind fun t435 => (impl_State_code.l0 k (shl .i64 t435 (l0_0.length : Int)) l0_0 (l0_0.length : Int) 0)
theorem impl_State_code.mono_l : ∀ k, (∀ y0 y1 y2 y3, LeO (impl_State_code.l0 k y0 y1 y2 y3) (impl_State_code.l0 (k + 1) y0 y1 y2 y3))
 | 0 => fun _ _ _ _ r h => by simp [impl_State_code.l0] at h
 | k + 1 => by
  have ih0 := impl_State_code.mono_l k
  ·intro y0 y1 y2 y3
   unfold impl_State_code.l0
   repeat' first
   | (with_reducible first | exact ih0 _ _ _ _ | exact LeO.refl _ | exact LeO.none _ | refine LeO.ite ?_ ?_ | refine LeO.bind ?_ (fun _ => ?_))
   | exact ih0 _ _ _ _
   | exact LeO.none _
   | refine LeO.ite ?_ ?_
   | refine LeO.bind ?_ (fun _ => ?_)
theorem impl_State_code.mono : ∀ a0 a1 k, LeO (impl_State_code.f k a0 a1) (impl_State_code.f (k + 1) a0 a1) := by
 intro a0 a1 k
 have ih0 := impl_State_code.mono_l k
 unfold impl_State_code.f
 repeat' first
  | (with_reducible first | exact ih0 _ _ _ _ | exact LeO.refl _ | exact LeO.none _ | refine LeO.ite ?_ ?_ | refine LeO.bind ?_ (fun _ => ?_))
  | exact ih0 _ _ _ _
  | exact LeO.none _
  | refine LeO.ite ?_ ?_
  | refine LeO.bind ?_ (fun _ => ?_)
theorem impl_State_code.calls (k : Nat) (A0_0 : Option Addr) (c0_0 : Nat) (l0_0 : List Bool) (a0_1 : Bool) (r : Int) (w : World) (hr0_0 : Kd.C Kd.bool w A0_0 l0_0.length l0_0) (hc0_0 : l0_0.length ≤ c0_0) (h : impl_State_code.f k l0_0 a0_1 = some r) :
  Calls Try.prog 126 #[.agg #[.slice A0_0 l0_0.length c0_0, .bool a0_1]] w fun e w' => e = .returned (.int .i64 r) ∧ Below w.heap.size w w' := by
 have hu115 := Try.underlying115
 have HR0_0 := ak_ hr0_0
 have HC0_0 := ak_ hc0_0
 clear hr0_0 hc0_0
 have HB := ak_ (Below.refl w.heap.size w)
 have H : ((impl_bit.f a0_1).bind fun t435 => (impl_State_code.l0 k (shl .i64 t435 (l0_0.length : Int)) l0_0 (l0_0.length : Int) 0)) = some r := h
 clear h
 replace H := Option.bind_eq_some_iff.mp H
 obtain ⟨t435, A20, H⟩ := H
 replace H : (impl_State_code.l0 k (shl .i64 t435 (l0_0.length : Int)) l0_0 (l0_0.length : Int) 0) = some r := H
 have A2 := ak_ A20
 clear A20
 obtain ⟨ji3, hji3⟩ : ∃ j_ : Int, (shl .i64 t435 (l0_0.length : Int)) = j_ := ⟨_, rfl⟩
 replace H : (impl_State_code.l0 k ji3 l0_0 (l0_0.length : Int) 0) = some r := by first | (rw [hji3] at H; exact H) | (simp only [hji3] at H ⊢; exact H)
 (try rw [hji3] at A2)
 have hji3_ : (IntKind.i64.wrap (t435 * 2 ^ min (l0_0.length : Int).toNat 64)) = ji3 := hji3
 have hji3z : (l0_0.length : Int) ≤ 64 → (IntKind.i64.wrap (t435 * 2 ^ (l0_0.length : Int).toNat)) = ji3 := shl_small hji3
 have hji3p : (IntKind.i64.wrap (t435 * 2 ^ min l0_0.length 64)) = ji3 := hji3_
 have hji3q : (l0_0.length : Int) ≤ 64 → (IntKind.i64.wrap (t435 * 2 ^ l0_0.length)) = ji3 := hji3z
 have hji3y : (wrap64 (t435 * 2 ^ min (l0_0.length : Int).toNat 64)) = ji3 := (i64_w _).symm.trans hji3_
 have hji3x : (l0_0.length : Int) ≤ 64 → (wrap64 (t435 * 2 ^ (l0_0.length : Int).toNat)) = ji3 := fun h_ => (i64_w _).symm.trans (hji3z h_)
 have H' := ak_ H
 clear H
 go_enter Try.func126, Try.ntmps126
 go_wp2_with (first | ((with_reducible refine gate_dst (N := 1) rfl ?_); refine bx_ 1 #[.slice A0_0 l0_0.length c0_0, .bool a0_1] 115 ?_; intro gb434 hg w4 hbox hb; have n0_ := ak_ (bs_ (bb_ HB.out) hb); have n1_ := ak_ (hbox); have n2_ := ak_ ((by rw [hg]; exact (bz_ (bb_ HB.out)) : w.heap.size ≤ gb434)); have n3_ := n2_; clear HB; have HB := n0_; have BK434 := n1_; have GW434 := n2_; have GE434 := n3_; clear n0_ n1_ n2_ n3_; clear hb hbox hg; have hcz5_0 : w4.cell? ⟨gb434, 0, none⟩ = some (.slice A0_0 l0_0.length c0_0) := (blk_cell BK434.out 0).trans rfl; have hcz5_1 : w4.cell? ⟨gb434, 1, none⟩ = some (.bool a0_1) := (blk_cell BK434.out 1).trans rfl; have hfz5_0 := blk_frozen BK434.out 0; have hfz5_1 := blk_frozen BK434.out 1) | (go_at_call 160; (with_reducible refine (impl_bit.calls a0_1 t435 _ A2.out).mono ?_); rintro e w' ⟨rfl, ⟨nd, rfl⟩⟩; (try first | exact ⟨rfl, _, World.drewN_drewN _ _ _⟩ | exact ⟨rfl, _, Eq.trans (World.drewN_drewN _ _ _) (congrArg (World.drewN _) (Nat.add_assoc _ _ _))⟩)))
 repeat (go_quiet (first | ((with_reducible refine gate_dst (N := 1) rfl ?_); refine bx_ 1 #[.slice A0_0 l0_0.length c0_0, .bool a0_1] 115 ?_; intro gb434 hg w4 hbox hb; have n0_ := ak_ (bs_ (bb_ HB.out) hb); have n1_ := ak_ (hbox); have n2_ := ak_ ((by rw [hg]; exact (bz_ (bb_ HB.out)) : w.heap.size ≤ gb434)); have n3_ := n2_; clear HB; have HB := n0_; have BK434 := n1_; have GW434 := n2_; have GE434 := n3_; clear n0_ n1_ n2_ n3_; clear hb hbox hg; have hcz5_0 : w4.cell? ⟨gb434, 0, none⟩ = some (.slice A0_0 l0_0.length c0_0) := (blk_cell BK434.out 0).trans rfl; have hcz5_1 : w4.cell? ⟨gb434, 1, none⟩ = some (.bool a0_1) := (blk_cell BK434.out 1).trans rfl; have hfz5_0 := blk_frozen BK434.out 0; have hfz5_1 := blk_frozen BK434.out 1) | (go_at_call 160; (with_reducible refine (impl_bit.calls a0_1 t435 _ A2.out).mono ?_); rintro e w' ⟨rfl, ⟨nd, rfl⟩⟩; (try first | exact ⟨rfl, _, World.drewN_drewN _ _ _⟩ | exact ⟨rfl, _, Eq.trans (World.drewN_drewN _ _ _) (congrArg (World.drewN _) (Nat.add_assoc _ _ _))⟩))); try go_wp2_with (first | ((with_reducible refine gate_dst (N := 1) rfl ?_); refine bx_ 1 #[.slice A0_0 l0_0.length c0_0, .bool a0_1] 115 ?_; intro gb434 hg w4 hbox hb; have n0_ := ak_ (bs_ (bb_ HB.out) hb); have n1_ := ak_ (hbox); have n2_ := ak_ ((by rw [hg]; exact (bz_ (bb_ HB.out)) : w.heap.size ≤ gb434)); have n3_ := n2_; clear HB; have HB := n0_; have BK434 := n1_; have GW434 := n2_; have GE434 := n3_; clear n0_ n1_ n2_ n3_; clear hb hbox hg; have hcz5_0 : w4.cell? ⟨gb434, 0, none⟩ = some (.slice A0_0 l0_0.length c0_0) := (blk_cell BK434.out 0).trans rfl; have hcz5_1 : w4.cell? ⟨gb434, 1, none⟩ = some (.bool a0_1) := (blk_cell BK434.out 1).trans rfl; have hfz5_0 := blk_frozen BK434.out 0; have hfz5_1 := blk_frozen BK434.out 1) | (go_at_call 160; (with_reducible refine (impl_bit.calls a0_1 t435 _ A2.out).mono ?_); rintro e w' ⟨rfl, ⟨nd, rfl⟩⟩; (try first | exact ⟨rfl, _, World.drewN_drewN _ _ _⟩ | exact ⟨rfl, _, Eq.trans (World.drewN_drewN _ _ _) (congrArg (World.drewN _) (Nat.add_assoc _ _ _))⟩))))
 go_loopg [3, 16] k (fun kq v3 v16 w' => ∃ (x3_1 : Int) (x16_1 : Int), v3 = .int .i64 x3_1 ∧ v16 = .int .i64 x16_1 ∧ Aside0 (impl_State_code.l0 kq x3_1 l0_0 (l0_0.length : Int) x16_1 = some r) ∧ Aside0 (kq ≤ k) ∧ Aside0 (w'.heap[gb434]? = some (.cells #[(.slice A0_0 l0_0.length c0_0), .bool a0_1] 115 (0, 0))) ∧ Aside0 (Below w.heap.size w w'))
 case atStart => exact ⟨(ji3), (0), (by first | rfl | (simp; done) | (simp only [← hji3] <;> (first | rfl | simp)) | (simp [*]; done)), (ry_), H', ⟨Nat.le_refl _⟩, ⟨pk BK434.out⟩, ⟨by repeat (first | exact HB.out | apply ba_ | apply bN_ | apply b1_ | refine below_set ?_ GE434.out)⟩⟩
 case round =>
  clear H'
  try clear c1
  try clear p2
  try clear hcz5_0
  try clear hcz5_1
  try clear hfz5_0
  try clear hfz5_1
  obtain ⟨x3_1, x16_1, rfl, rfl, HA, HK1, BK434, HB⟩ := hrel
  cases gk with
  | zero => exact absurd HA.out (by simp [impl_State_code.l0])
  | succ k1 =>
   have H := HA.out
   clear HA
   simp only [impl_State_code.l0] at H
   by_cases c6 : x16_1 < (l0_0.length : Int)
   ·
    rw [if_pos c6] at H
    have c6b0 : decide (x16_1 < (l0_0.length : Int)) = true := decide_eq_true c6
    clear c6
    by_cases c7 : 0 ≤ x16_1
    ·
     rw [if_pos c7] at H
     have c7b0 : decide (0 ≤ x16_1) = true := decide_eq_true c7
     clear c7
     by_cases c8 : x16_1 < (l0_0.length : Int)
     ·
      rw [if_pos c8] at H
      have c8b0 : decide (x16_1 < (l0_0.length : Int)) = true := decide_eq_true c8
      clear c8
      replace H := Option.bind_eq_some_iff.mp H
      obtain ⟨t437, A90, H⟩ := H
      replace H : (impl_State_code.l0 k1 (Go.bits .or .i64 x3_1 (shl .i64 t437 x16_1)) l0_0 (l0_0.length : Int) (wrap64 (x16_1 + 1))) = some r := H
      have A9 := ak_ A90
      clear A90
      have c10b0 := eq_true (odt_ (by assumption) : 0 ≤ x16_1)
      obtain ⟨ji11, hji11⟩ : ∃ j_ : Int, (shl .i64 t437 x16_1) = j_ := ⟨_, rfl⟩
      replace H : (impl_State_code.l0 k1 (Go.bits .or .i64 x3_1 (ji11)) l0_0 (l0_0.length : Int) (wrap64 (x16_1 + 1))) = some r := by first | (rw [hji11] at H; exact H) | (simp only [hji11] at H ⊢; exact H)
      (try rw [hji11] at A9)
      have hji11_ : (IntKind.i64.wrap (t437 * 2 ^ min x16_1.toNat 64)) = ji11 := hji11
      have hji11z : x16_1 ≤ 64 → (IntKind.i64.wrap (t437 * 2 ^ x16_1.toNat)) = ji11 := shl_small hji11
      have hji11y : (wrap64 (t437 * 2 ^ min x16_1.toNat 64)) = ji11 := (i64_w _).symm.trans hji11_
      have hji11x : x16_1 ≤ 64 → (wrap64 (t437 * 2 ^ x16_1.toNat)) = ji11 := fun h_ => (i64_w _).symm.trans (hji11z h_)
      have H' := ak_ H
      clear H
      have p436 : 0 ≤ (x16_1 : Int) := odt_ (by assumption)
      have q436 : x16_1 < (l0_0.length : Int) := odt_ (by assumption)
      obtain ⟨ad436, e436, hx436_0⟩ := Kd.at_bool HR0_0.out x16_1 p436 q436
      cases e436
      try replace hx436_0 := (HB.out.cell (World.block_lt_of_cell? w _ hx436_0)).trans hx436_0
      replace p436 := eq_true p436
      replace q436 := eq_true q436
      go_wp2_with (first | (go_at_call 160; (with_reducible refine (impl_bit.calls (rdOf false l0_0 x16_1) t437 _ A9.out).mono ?_); rintro e w' ⟨rfl, ⟨nd, rfl⟩⟩; (try first | exact ⟨rfl, _, World.drewN_drewN _ _ _⟩ | exact ⟨rfl, _, Eq.trans (World.drewN_drewN _ _ _) (congrArg (World.drewN _) (Nat.add_assoc _ _ _))⟩)))
      repeat (go_quiet (first | (go_at_call 160; (with_reducible refine (impl_bit.calls (rdOf false l0_0 x16_1) t437 _ A9.out).mono ?_); rintro e w' ⟨rfl, ⟨nd, rfl⟩⟩; (try first | exact ⟨rfl, _, World.drewN_drewN _ _ _⟩ | exact ⟨rfl, _, Eq.trans (World.drewN_drewN _ _ _) (congrArg (World.drewN _) (Nat.add_assoc _ _ _))⟩))); try go_wp2_with (first | (go_at_call 160; (with_reducible refine (impl_bit.calls (rdOf false l0_0 x16_1) t437 _ A9.out).mono ?_); rintro e w' ⟨rfl, ⟨nd, rfl⟩⟩; (try first | exact ⟨rfl, _, World.drewN_drewN _ _ _⟩ | exact ⟨rfl, _, Eq.trans (World.drewN_drewN _ _ _) (congrArg (World.drewN _) (Nat.add_assoc _ _ _))⟩))))
      go_roundg k1
      case measure => have := HK1.out; omega
      case rel => exact ⟨(Go.bits .or .i64 x3_1 (ji11)), (wrap64 (x16_1 + 1)), (by first | rfl | (simp; done) | (simp only [← hji11] <;> (first | rfl | simp)) | (simp [*]; done)), (ry_), H', ⟨by have := HK1.out; omega⟩, ⟨pk BK434.out⟩, ⟨by repeat (first | exact HB.out | apply ba_ | apply bN_ | apply b1_ | refine below_set ?_ GE434.out)⟩⟩
     ·
      rw [if_neg c8] at H
      exact absurd H (by simp)
    ·
     rw [if_neg c7] at H
     exact absurd H (by simp)
   ·
    rw [if_neg c6] at H
    have c6b0 : decide (x16_1 < (l0_0.length : Int)) = false := decide_eq_false c6
    clear c6
    obtain rfl := Option.some.inj H
    go_wp2
    repeat (go_quiet (fail); try go_wp2)
    go_ret
    exact ⟨by first | rfl | (simp [errW_none, errW_some] <;> rfl) | (simp only [← hji3]; first | rfl | (simp [errW_none, errW_some] <;> rfl)) | (simp [*, errW_none, errW_some] <;> rfl), by repeat (first | exact HB.out | apply ba_ | apply bN_ | apply b1_ | refine below_set ?_ GE434.out)⟩
def impl_Crew_carries.f (k : Nat) (ws : List Int) (rs : List Bool) (most : Int) (l : List Int) : Option Bool :=
 (impl_Crew_load.f k ws rs most l).bind fun t => if t ≤ most then anyO (fun x => if 0 ≤ x then (if x < (rs.length : Int) then some (rdOf false rs x) else none) else none) l else some false
theorem impl_Crew_carries.calls_1 (B : Nat) (Ar : Option Addr) (cr : Nat) (rs : List Bool) (x : Int) (r : Bool) (W : World) (h1 : W.cell? ⟨B, 1, none⟩ = some (.slice Ar rs.length cr)) (hr : Kd.bool.C W Ar rs.length rs) (h : (if 0 ≤ x then (if x < (rs.length : Int) then some (rdOf false rs x) else none) else none) = some r) :
  Calls Try.prog 187 #[.int .i64 x, .pointer (some ⟨B, 0, none⟩)] W fun e w' => e = .returned (.bool r) ∧ Below W.heap.size W w' := by
 have hu := Try.underlying43
 by_cases h0 : 0 ≤ x
 rotate_left
 ·rw [if_neg h0] at h; exact absurd h (by simp)
 by_cases hl : x < (rs.length : Int)
 rotate_left
 ·rw [if_pos h0, if_neg hl] at h; exact absurd h (by simp)
 rw [if_pos h0, if_pos hl] at h
 obtain rfl := Option.some.inj h
 obtain ⟨ad, rfl, hx⟩ := Kd.at_bool hr x h0 hl
 have p0 := eq_true h0
 have p1 := eq_true hl
 clear h h0 hl hr
 go_enter Try.func187, Try.ntmps187
 go_wp2
 first | go_ret | go_ret2
 exact ⟨rfl, be_⟩
def impl_Crew_carries.T1 : Bool × List (List Nat × List Nat) := (true, [([], []), ([], []), ([0, 1], [0, 1]), ([], []), ([3], [3]), ([2, 4], [2, 4]), ([5, 2], [5]), ([6], [6]), ([6], [6]), ([7, 8, 6, 6], [6, 7, 8]), ([6, 9], [6, 9]), ([10, 9, 0, 1, 2, 3, 4, 5, 6, 7, 8, 9, 10], [10])])
def impl_Crew_carries.B1 : List Nat := [0, 0, 3, 0, 8, 31, 63, 127, 127, 511, 1023, 2047]
theorem impl_Crew_carries.T1_ : rtab .any (opsOf Try.f165 1) = impl_Crew_carries.T1 := by kernel_rfl
theorem impl_Crew_carries.B1_ : waitsOk impl_Crew_carries.T1.2 impl_Crew_carries.B1 = true := by kernel_rfl
theorem impl_Crew_carries.calls (k : Nat) (Aw : Option Addr) (cw : Nat) (ws : List Int) (Ar : Option Addr) (cr : Nat) (rs : List Bool) (most : Int) (A : Option Addr) (c : Nat) (l : List Int) (r : Bool) (w : World)
  (hw : Kd.C (Kd.int .i64) w Aw ws.length ws) (hcw : ws.length ≤ cw) (hr : Kd.C Kd.bool w Ar rs.length rs) (hcr : rs.length ≤ cr) (hl : Kd.C (Kd.int .i64) w A l.length l) (hcl : l.length ≤ c) (h : impl_Crew_carries.f k ws rs most l = some r) :
  Calls Try.prog 165 #[.agg #[.slice Aw ws.length cw, .slice Ar rs.length cr, .int .i64 most], .slice A l.length c] w fun e w' => e = .returned (.bool r) ∧ Below w.heap.size w w' := by
 have hu := Try.underlying43
 unfold impl_Crew_carries.f at h
 obtain ⟨t, h1, h⟩ := Option.bind_eq_some_iff.mp h
 have A1 := ak_ fun (W : World) (hb : Below w.heap.size w W) => impl_Crew_load.calls k Aw cw ws Ar cr rs most A c l t W (Kd.C_below hw hb) hcw (Kd.C_below hr hb) hcr (Kd.C_below hl hb) hcl h1
 have HB := ak_ (Below.refl w.heap.size w)
 by_cases ht : t ≤ most
 ·rw [if_pos ht] at h
  have A2 := ak_ fun (g : Nat) (W : World) (hb : Below w.heap.size w W) (hg : ∀ W', Below W.heap.size W W' → W'.cell? ⟨g, 1, none⟩ = some (.slice Ar rs.length cr)) =>
   slices_ContainsFunc_int_int.calls_fn 187 #[.pointer (some ⟨g, 0, none⟩)] (enters_of Try.func187 (by kernel_rfl) rfl) (fun x => if 0 ≤ x then (if x < (rs.length : Int) then some (rdOf false rs x) else none) else none) A c l W (Kd.C_below hl hb) (fun W' x r' hb' hx => impl_Crew_carries.calls_1 g Ar cr rs x r' W' (hg W' hb') (Kd.C_below hr (bs_ hb hb')) hx) r h
  have v1 : decide (t ≤ most) = true := decide_eq_true ht
  clear h h1 ht hw hcw hr hcr hl hcl
  go_enter Try.func165, Try.ntmps165
  go_upto_region 1 with (first | ((with_reducible refine gate_dst (N := 2) rfl ?_); refine bx_ 2 #[.slice Aw ws.length cw, .slice Ar rs.length cr, .int .i64 most] 43 ?_; intro gb2 hg w2 hbox hb; have nb_ := ak_ (bs_ (bb_ HB.out) hb); have nc_ := ak_ hbox; have nd_ := ak_ ((by rw [hg]; exact (bz_ (bb_ HB.out)) : w.heap.size ≤ gb2)); clear HB hb hbox hg; have HB := nb_; have BK2 := nc_; have GE2 := nd_; clear nb_ nc_ nd_; have hz2_0 := (blk_cell BK2.out 0); have hf2_0 := (blk_frozen BK2.out 0); simp at hz2_0; have hz2_1 := (blk_cell BK2.out 1); have hf2_1 := (blk_frozen BK2.out 1); simp at hz2_1; have hz2_2 := (blk_cell BK2.out 2); have hf2_2 := (blk_frozen BK2.out 2); simp at hz2_2; skip))
  have n0_ := ak_ (k1_ BK2.out); have n1_ := ak_ (b1_ HB.out); clear BK2 HB; have BK2 := n0_; have HB := n1_; clear n0_ n1_
  refine start_ (n := 12) (S := fun w' => w'.cell? ⟨gb2, 0, none⟩ = some (.slice Aw ws.length cw) ∧ w'.cell? ⟨gb2, 1, none⟩ = some (.slice Ar rs.length cr) ∧ w'.cell? ⟨gb2, 2, none⟩ = some (.int .i64 most)) (ds := []) (mb_ 12 0) (by kernel_rfl) rfl rfl ⟨(blk_cell BK2.out 0).trans rfl, (blk_cell BK2.out 1).trans rfl, (blk_cell BK2.out 2).trans rfl⟩ (fun hHeld => ?_); refine with_tabW impl_Crew_carries.T1_ impl_Crew_carries.B1_ (fun HT_ HW_ => ?_)
  generalize w2.drew = w9 at BK2 HB hHeld ⊢
  refine tk_ 0 5 12 1 ?_ (hy := by rintro w' ⟨s0, s1, s2⟩; go_simp; with_reducible rfl)
  refine pu_ 1 6 12 3 ?_
  refine pu_ 3 8 12 11 ?_
  refine tk_ 4 9 12 27 ?_ (hy := by rintro w' ⟨s0, s1, s2⟩; go_simp; with_reducible rfl)
  refine on_ 2 7 12 31 (fun K hK => ?_)
  refine goes_ Try.func117 (by kernel_rfl) rfl #[.agg #[.slice Aw ws.length cw, .slice Ar rs.length cr, .int .i64 most], .slice A l.length c] (by rfl) rfl rfl (by first | rfl | (simp only [map_toArray, map_cons, map_nil]; try rfl)) ?_
  refine (A1.out _ HB.out).mono ?_
  rintro e_ w10 ⟨rfl, hb⟩
  refine ⟨_, rfl, ?_⟩
  have n0_ := ak_ (blk_below BK2.out hb); have n1_ := ak_ (bs_ HB.out hb); clear BK2 HB hb; have BK2 := n0_; have HB := n1_; clear n0_ n1_
  refine hK.out _ _ ⟨(blk_cell BK2.out 0).trans rfl, (blk_cell BK2.out 1).trans rfl, (blk_cell BK2.out 2).trans rfl⟩ (fun hHeld => ?_)
  clear hK K
  refine nm_ ?_
  refine pu_ 5 10 12 63 ?_
  refine pu_ 6 11 12 127 ?_
  refine pu_ 7 12 12 255 ?_
  refine pu_ 8 13 12 511 ?_
  refine on_ 9 14 12 1023 (fun K hK => ?_)
  refine goes_ Try.func131 (by kernel_rfl) rfl #[.slice A l.length c, .func (.func 187) #[] #[.pointer (some ⟨gb2, 0, none⟩)]] (by rfl) rfl rfl (by first | rfl | (simp only [map_toArray, map_cons, map_nil]; try rfl)) ?_
  refine (A2.out gb2 _ HB.out (fun W' hb' => (blk_cell (blk_below BK2.out hb') 1).trans rfl)).mono ?_
  rintro e_ w11 ⟨rfl, hb⟩
  refine ⟨_, rfl, ?_⟩
  have n0_ := ak_ (blk_below BK2.out hb); have n1_ := ak_ (bs_ HB.out hb); clear BK2 HB hb; have BK2 := n0_; have HB := n1_; clear n0_ n1_
  refine hK.out _ _ ⟨(blk_cell BK2.out 0).trans rfl, (blk_cell BK2.out 1).trans rfl, (blk_cell BK2.out 2).trans rfl⟩ (fun hHeld => ?_)
  clear hK K
  refine nm_ ?_
  refine pu_ 10 15 12 2047 ?_
  refine pu_ 11 4 12 4095 ?_
  refine done_ (done_of HT_.out (by kernel_rfl)) ?_
  try go_wp2
  first | go_ret | go_ret2
  exact ⟨rfl, (bb_ HB.out)⟩
 ·rw [if_neg ht] at h
  obtain rfl := Option.some.inj h
  have v1 : decide (t ≤ most) = false := decide_eq_false ht
  clear h h1 ht hw hcw hr hcr hl hcl
  go_enter Try.func165, Try.ntmps165
  go_upto_region 1 with (first | ((with_reducible refine gate_dst (N := 2) rfl ?_); refine bx_ 2 #[.slice Aw ws.length cw, .slice Ar rs.length cr, .int .i64 most] 43 ?_; intro gb2 hg w2 hbox hb; have nb_ := ak_ (bs_ (bb_ HB.out) hb); have nc_ := ak_ hbox; have nd_ := ak_ ((by rw [hg]; exact (bz_ (bb_ HB.out)) : w.heap.size ≤ gb2)); clear HB hb hbox hg; have HB := nb_; have BK2 := nc_; have GE2 := nd_; clear nb_ nc_ nd_; have hz2_0 := (blk_cell BK2.out 0); have hf2_0 := (blk_frozen BK2.out 0); simp at hz2_0; have hz2_1 := (blk_cell BK2.out 1); have hf2_1 := (blk_frozen BK2.out 1); simp at hz2_1; have hz2_2 := (blk_cell BK2.out 2); have hf2_2 := (blk_frozen BK2.out 2); simp at hz2_2; skip))
  have n0_ := ak_ (k1_ BK2.out); have n1_ := ak_ (b1_ HB.out); clear BK2 HB; have BK2 := n0_; have HB := n1_; clear n0_ n1_
  refine start_ (n := 12) (S := fun w' => w'.cell? ⟨gb2, 0, none⟩ = some (.slice Aw ws.length cw) ∧ w'.cell? ⟨gb2, 1, none⟩ = some (.slice Ar rs.length cr) ∧ w'.cell? ⟨gb2, 2, none⟩ = some (.int .i64 most)) (ds := []) (mb_ 12 0) (by kernel_rfl) rfl rfl ⟨(blk_cell BK2.out 0).trans rfl, (blk_cell BK2.out 1).trans rfl, (blk_cell BK2.out 2).trans rfl⟩ (fun hHeld => ?_); refine with_tabW impl_Crew_carries.T1_ impl_Crew_carries.B1_ (fun HT_ HW_ => ?_)
  generalize w2.drew = w9 at BK2 HB hHeld ⊢
  refine tk_ 0 5 12 1 ?_ (hy := by rintro w' ⟨s0, s1, s2⟩; go_simp; with_reducible rfl)
  refine pu_ 1 6 12 3 ?_
  refine pu_ 3 8 12 11 ?_
  refine tk_ 4 9 12 27 ?_ (hy := by rintro w' ⟨s0, s1, s2⟩; go_simp; with_reducible rfl)
  refine on_ 2 7 12 31 (fun K hK => ?_)
  refine goes_ Try.func117 (by kernel_rfl) rfl #[.agg #[.slice Aw ws.length cw, .slice Ar rs.length cr, .int .i64 most], .slice A l.length c] (by rfl) rfl rfl (by first | rfl | (simp only [map_toArray, map_cons, map_nil]; try rfl)) ?_
  refine (A1.out _ HB.out).mono ?_
  rintro e_ w10 ⟨rfl, hb⟩
  refine ⟨_, rfl, ?_⟩
  have n0_ := ak_ (blk_below BK2.out hb); have n1_ := ak_ (bs_ HB.out hb); clear BK2 HB hb; have BK2 := n0_; have HB := n1_; clear n0_ n1_
  refine hK.out _ _ ⟨(blk_cell BK2.out 0).trans rfl, (blk_cell BK2.out 1).trans rfl, (blk_cell BK2.out 2).trans rfl⟩ (fun hHeld => ?_)
  clear hK K
  refine nm_ ?_
  refine pu_ 5 10 12 63 ?_
  refine pu_ 6 11 12 127 ?_
  refine pure_ (i := 7) (N := some 12) (v := undef) (a' := ?_) (mb_ 12 255) rfl rfl (any_of HT_.out (by kernel_rfl)) (fun _ _ _ h => h) (Or.inr ⟨by rfl, rfl⟩) ?_ ?_
  rotate_left
  ·simp only [Act.put, setIfInBounds_toArray, set_cons_zero, set_cons_succ, i64_w, i32_w]
   rfl
  refine pure_ (i := 8) (N := some 13) (v := undef) (a' := ?_) (mb_ 12 511) rfl rfl (any_of HT_.out (by kernel_rfl)) (fun _ _ _ h => h) (Or.inr ⟨by rfl, rfl⟩) ?_ ?_
  rotate_left
  ·simp only [Act.put, setIfInBounds_toArray, set_cons_zero, set_cons_succ, i64_w, i32_w]
   rfl
  refine pure_ (i := 9) (N := some 14) (v := undef) (a' := ?_) (mb_ 12 1023) rfl rfl (any_of HT_.out (by kernel_rfl)) (fun _ _ _ h => h) (Or.inr ⟨by rfl, rfl⟩) ?_ ?_
  rotate_left
  ·simp only [Act.put, setIfInBounds_toArray, set_cons_zero, set_cons_succ, i64_w, i32_w]
   rfl
  refine pu_ 10 15 12 2047 ?_
  refine pu_ 11 4 12 4095 ?_
  refine done_ (done_of HT_.out (by kernel_rfl)) ?_
  try go_wp2
  first | go_ret | go_ret2
  exact ⟨rfl, (bb_ HB.out)⟩
end Go.Proofs.Ythkchdfkeieabaa.QGr
