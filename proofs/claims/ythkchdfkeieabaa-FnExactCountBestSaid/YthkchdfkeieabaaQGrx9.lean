/- Contracts of functions of the given program, walked: each call returns what its Lean function says. Conditions: those that stand at each theorem. (Written by a program of this session.) -/
import Derived.Test.YthkchdfkeieabaaQGrx0
import Derived.Test.YthkchdfkeieabaaQGrx1
import Derived.Test.YthkchdfkeieabaaQGrx2
import Derived.Test.YthkchdfkeieabaaQGrx3
import Derived.Test.YthkchdfkeieabaaQGrx6
import Derived.Test.YthkchdfkeieabaaQGrx7
import Derived.Test.YthkchdfkeieabaaQGrx8
namespace Go.Proofs.Ythkchdfkeieabaa.QGr
open Go.RowKit Go.Proofs.YthkchdfkeieabaaW.PrintWords Go.Proofs.YthkchdfkeieabaaW.PrintLast Go.Proofs.YthkchdfkeieabaaW.PrintMore
open List (setIfInBounds_toArray set_cons_zero set_cons_succ map_toArray map_cons map_nil)
attribute [local go_sem] max2_int min2_int max_two min_two max_three min_three max_four min_four
set_option linter.unusedVariables false
set_option maxHeartbeats 8000000
set_option maxRecDepth 100000
set_option linter.unusedSimpArgs false
mutual
def spec_seCount.l0 : Nat → List Int → List Int → List Int → List Int → Int → Int → List Int → Int → Option (Int × Int)
 | 0, _, _, _, _, _, _, _, _ => none
 | k + 1, x4, x5, x6, x25, x26, x27, x405000, x405001 => if x27 < x26 then (if 0 ≤ x27 then (if x27 < (x25.length : Int) then (if 0 ≤ (rd x25 x27) then (if (rd x25 x27) < (x4.length : Int) then (if (rd x4 (rd x25 x27)) = 0 then (if (rd x25 x27) < (x5.length : Int) then (spec_seCount.l0 k x4 (x5.set ((rd x25 x27) : Int).toNat 1) x6 x25 x26 (wrap64 (x27 + 1)) x405000 x405001) else (none)) else ((spec_seState.f k (rd x25 x27) (x405000.length : Int)).bind fun bt431 => ((spec_seNext.f k x405000 x405001 x4 bt431.1 bt431.2).bind fun t436 => (spec_seCount.l1 k x4 x5 x6 (rd x25 x27) x25 x26 x27 t436 (t436.length : Int) 0 x405000 x405001 bt431.1 bt431.2)))) else (none)) else (none)) else (none)) else (none)) else ((spec_paFirst.f x405000 x405001).bind fun bt421 => ((spec_seIndex.f k bt421.1 bt421.2).bind fun t425 => (if 0 ≤ t425 then (if t425 < (x5.length : Int) then (if t425 < (x6.length : Int) then (some (rd x5 t425, rd x6 t425)) else (none)) else (none)) else (none))))
def spec_seCount.l1 : Nat → List Int → List Int → List Int → Int → List Int → Int → Int → List (List Int) → Int → Int → List Int → Int → List Bool → Bool → Option (Int × Int)
 | 0, _, _, _, _, _, _, _, _, _, _, _, _, _, _ => none
 | k + 1, x4, x5, x6, x8, x25, x26, x27, x47, x48, x49, x405000, x405001, x436000, x436001 => if x49 < x48 then (if 0 ≤ x49 then (if x49 < (x47.length : Int) then ((spec_paCross.f k x436000 x436001 (rd_L2 x47 x49)).bind fun bt440 => ((spec_seIndex.f k bt440.1 bt440.2).bind fun t444 => (if 0 ≤ x8 then (if x8 < (x5.length : Int) then (if 0 ≤ t444 then (if t444 < (x5.length : Int) then ((some (x5.set (x8 : Int).toNat (wrap64 ((rd x5 x8) + (rd x5 t444))) : List Int)).bind fun y447 => (if x8 < (x6.length : Int) then (if (rd x6 x8) = 0 then (if t444 < (x6.length : Int) then (spec_seCount.l1 k x4 y447 (x6.set (x8 : Int).toNat (wrap64 ((rd x6 t444) + 1))) x8 x25 x26 x27 x47 x48 (wrap64 (x49 + 1)) x405000 x405001 x436000 x436001) else (none)) else (if t444 < (x6.length : Int) then (if (wrap64 ((rd x6 t444) + 1)) < (rd x6 x8) then (spec_seCount.l1 k x4 y447 (x6.set (x8 : Int).toNat (wrap64 ((rd x6 t444) + 1))) x8 x25 x26 x27 x47 x48 (wrap64 (x49 + 1)) x405000 x405001 x436000 x436001) else (spec_seCount.l1 k x4 y447 x6 x8 x25 x26 x27 x47 x48 (wrap64 (x49 + 1)) x405000 x405001 x436000 x436001)) else (none))) else (none))) else (none)) else (none)) else (none)) else (none)))) else (none)) else (none)) else (spec_seCount.l0 k x4 x5 x6 x25 x26 (wrap64 (x27 + 1)) x405000 x405001)
end
def spec_seCount.f (k : Nat) (l0_0 : List Int) (a0_1 : Int) : Option (Int × Int) := (spec_paLast.f k l0_0 a0_1).bind fun bt405 => ((spec_seFar.f k l0_0 a0_1 bt405.1 bt405.2).bind fun t409 => (if 0 ≤ (t409.length : Int) then (if ((t409.length : Int) : Int).toNat ≤ 35184372088832 then ((spec_seOrder.f k t409).bind fun t418 => (spec_seCount.l0 k t409 (List.replicate ((t409.length : Int) : Int).toNat 0) (List.replicate ((t409.length : Int) : Int).toNat 0) t418 (t418.length : Int) 0 l0_0 a0_1)) else (none)) else (none)))
theorem spec_seCount.mono_l : ∀ k, (∀ y0 y1 y2 y3 y4 y5 y6 y7, LeO (spec_seCount.l0 k y0 y1 y2 y3 y4 y5 y6 y7) (spec_seCount.l0 (k + 1) y0 y1 y2 y3 y4 y5 y6 y7)) ∧ (∀ y0 y1 y2 y3 y4 y5 y6 y7 y8 y9 y10 y11 y12 y13, LeO (spec_seCount.l1 k y0 y1 y2 y3 y4 y5 y6 y7 y8 y9 y10 y11 y12 y13) (spec_seCount.l1 (k + 1) y0 y1 y2 y3 y4 y5 y6 y7 y8 y9 y10 y11 y12 y13))
 | 0 => ⟨fun _ _ _ _ _ _ _ _ r h => by simp [spec_seCount.l0] at h, fun _ _ _ _ _ _ _ _ _ _ _ _ _ _ r h => by simp [spec_seCount.l1] at h⟩
 | k + 1 => by
  obtain ⟨ih0, ih1⟩ := spec_seCount.mono_l k
  refine ⟨?_, ?_⟩
  ·intro y0 y1 y2 y3 y4 y5 y6 y7
   unfold spec_seCount.l0
   repeat' first
   | (with_reducible first | exact ih0 _ _ _ _ _ _ _ _ | exact ih1 _ _ _ _ _ _ _ _ _ _ _ _ _ _ | exact spec_paCross.mono _ _ _ _ | exact spec_paLast.mono _ _ _ | exact spec_seFar.mono _ _ _ _ _ | exact spec_seIndex.mono _ _ _ | exact spec_seNext.mono _ _ _ _ _ _ | exact spec_seOrder.mono _ _ | exact spec_seState.mono _ _ _ | exact LeO.refl _ | exact LeO.none _ | refine LeO.ite ?_ ?_ | refine LeO.bind ?_ (fun _ => ?_))
   | exact ih0 _ _ _ _ _ _ _ _
   | exact ih1 _ _ _ _ _ _ _ _ _ _ _ _ _ _
   | exact spec_paCross.mono _ _ _ _
   | exact spec_paLast.mono _ _ _
   | exact spec_seFar.mono _ _ _ _ _
   | exact spec_seIndex.mono _ _ _
   | exact spec_seNext.mono _ _ _ _ _ _
   | exact spec_seOrder.mono _ _
   | exact spec_seState.mono _ _ _
   | exact LeO.none _
   | refine LeO.ite ?_ ?_
   | refine LeO.bind ?_ (fun _ => ?_)
  ·intro y0 y1 y2 y3 y4 y5 y6 y7 y8 y9 y10 y11 y12 y13
   unfold spec_seCount.l1
   repeat' first
   | (with_reducible first | exact ih0 _ _ _ _ _ _ _ _ | exact ih1 _ _ _ _ _ _ _ _ _ _ _ _ _ _ | exact spec_paCross.mono _ _ _ _ | exact spec_paLast.mono _ _ _ | exact spec_seFar.mono _ _ _ _ _ | exact spec_seIndex.mono _ _ _ | exact spec_seNext.mono _ _ _ _ _ _ | exact spec_seOrder.mono _ _ | exact spec_seState.mono _ _ _ | exact LeO.refl _ | exact LeO.none _ | refine LeO.ite ?_ ?_ | refine LeO.bind ?_ (fun _ => ?_))
   | exact ih0 _ _ _ _ _ _ _ _
   | exact ih1 _ _ _ _ _ _ _ _ _ _ _ _ _ _
   | exact spec_paCross.mono _ _ _ _
   | exact spec_paLast.mono _ _ _
   | exact spec_seFar.mono _ _ _ _ _
   | exact spec_seIndex.mono _ _ _
   | exact spec_seNext.mono _ _ _ _ _ _
   | exact spec_seOrder.mono _ _
   | exact spec_seState.mono _ _ _
   | exact LeO.none _
   | refine LeO.ite ?_ ?_
   | refine LeO.bind ?_ (fun _ => ?_)
theorem spec_seCount.mono : ∀ a0 a1 k, LeO (spec_seCount.f k a0 a1) (spec_seCount.f (k + 1) a0 a1) := by
 intro a0 a1 k
 obtain ⟨ih0, ih1⟩ := spec_seCount.mono_l k
 unfold spec_seCount.f
 repeat' first
  | (with_reducible first | exact ih0 _ _ _ _ _ _ _ _ | exact ih1 _ _ _ _ _ _ _ _ _ _ _ _ _ _ | exact spec_paCross.mono _ _ _ _ | exact spec_paLast.mono _ _ _ | exact spec_seFar.mono _ _ _ _ _ | exact spec_seIndex.mono _ _ _ | exact spec_seNext.mono _ _ _ _ _ _ | exact spec_seOrder.mono _ _ | exact spec_seState.mono _ _ _ | exact LeO.refl _ | exact LeO.none _ | refine LeO.ite ?_ ?_ | refine LeO.bind ?_ (fun _ => ?_))
  | exact ih0 _ _ _ _ _ _ _ _
  | exact ih1 _ _ _ _ _ _ _ _ _ _ _ _ _ _
  | exact spec_paCross.mono _ _ _ _
  | exact spec_paLast.mono _ _ _
  | exact spec_seFar.mono _ _ _ _ _
  | exact spec_seIndex.mono _ _ _
  | exact spec_seNext.mono _ _ _ _ _ _
  | exact spec_seOrder.mono _ _
  | exact spec_seState.mono _ _ _
  | exact LeO.none _
  | refine LeO.ite ?_ ?_
  | refine LeO.bind ?_ (fun _ => ?_)
def spec_seCount.T2 : Bool × List (List Nat × List Nat) := (true, [([], []), ([0], [0]), ([1, 1], [1]), ([], []), ([3], [3]), ([4, 4], [4]), ([2, 0, 1, 2], [2]), ([5, 6, 0, 1, 2, 3, 4, 5, 6], [5])])
def spec_seCount.B2 : List Nat := [0, 1, 3, 0, 8, 24, 7, 127]
theorem spec_seCount.tab2 : rtab .any (opsOf Try.f47 2) = spec_seCount.T2 := by kernel_rfl
theorem spec_seCount.bits2 : waitsOk spec_seCount.T2.2 spec_seCount.B2 = true := by kernel_rfl
def spec_seCount.T13 : Bool × List (List Nat × List Nat) := (true, [([], []), ([], []), ([0, 1], [0, 1]), ([2], [2]), ([], []), ([], []), ([4, 5], [4, 5]), ([6], [6]), ([3, 7], [3, 7]), ([0, 1, 0, 1, 2, 3, 4, 5, 6, 7, 8], [0, 1]), ([9, 8, 0, 1, 2, 3, 4, 5, 6, 7, 8], [8, 9])])
def spec_seCount.B13 : List Nat := [0, 0, 3, 7, 0, 0, 48, 112, 255, 511, 1023]
theorem spec_seCount.tab13 : rtab .any (opsOf Try.f47 13) = spec_seCount.T13 := by kernel_rfl
theorem spec_seCount.bits13 : waitsOk spec_seCount.T13.2 spec_seCount.B13 = true := by kernel_rfl
def spec_seCount.T14 : Bool × List (List Nat × List Nat) := (true, [([], []), ([], []), ([0, 1], [0, 1]), ([2], [2]), ([3], [3]), ([4], [4]), ([5], [5]), ([5], [5]), ([6, 7, 5], [5, 6, 7]), ([8, 5], [5, 8]), ([9, 5], [5, 9]), ([5], [5]), ([5], [5]), ([11, 12, 5], [5, 11, 12]), ([13, 5], [5, 13]), ([10, 14, 5], [5, 10, 14]), ([5, 15], [5, 15])])
def spec_seCount.B14 : List Nat := [0, 0, 3, 7, 15, 31, 63, 63, 255, 511, 1023, 63, 63, 6207, 14399, 32767, 65535]
theorem spec_seCount.tab14 : rtab .any (opsOf Try.f47 14) = spec_seCount.T14 := by kernel_rfl
theorem spec_seCount.bits14 : waitsOk spec_seCount.T14.2 spec_seCount.B14 = true := by kernel_rfl
def spec_seCount.T19 : Bool × List (List Nat × List Nat) := (true, [([], []), ([], []), ([0, 1], [0, 1]), ([2], [2]), ([], []), ([], []), ([4, 5], [4, 5]), ([6], [6]), ([3, 0, 1, 2, 3], [3]), ([7, 8, 0, 1, 2, 3, 4, 5, 6, 7, 8], [7])])
def spec_seCount.B19 : List Nat := [0, 0, 3, 7, 0, 0, 48, 112, 15, 511]
theorem spec_seCount.tab19 : rtab .any (opsOf Try.f47 19) = spec_seCount.T19 := by kernel_rfl
theorem spec_seCount.bits19 : waitsOk spec_seCount.T19.2 spec_seCount.B19 = true := by kernel_rfl
theorem spec_seCount.calls (k : Nat) (A0_0 : Option Addr) (c0_0 : Nat) (l0_0 : List Int) (a0_1 : Int) (r1 : Int) (r2 : Int) (w : World) (hr0_0 : Kd.C (Kd.int .i64) w A0_0 l0_0.length l0_0) (hc0_0 : l0_0.length ≤ c0_0) (h : spec_seCount.f k l0_0 a0_1 = some (r1, r2)) :
  Calls Try.prog 47 #[.agg #[.slice A0_0 l0_0.length c0_0, .int .i64 a0_1]] w fun e w' => e = .returned (.tuple #[.int .i64 r1, .int .i64 r2]) ∧ Below w.heap.size w w' := by
 have hu34 := Try.underlying34
 have hu115 := Try.underlying115
 have HR0_0 := ak_ hr0_0
 have HC0_0 := ak_ hc0_0
 clear hr0_0 hc0_0
 have HB := ak_ (Below.refl w.heap.size w)
 have H : ((spec_paLast.f k l0_0 a0_1).bind fun bt405 => ((spec_seFar.f k l0_0 a0_1 bt405.1 bt405.2).bind fun t409 => (if 0 ≤ (t409.length : Int) then (if ((t409.length : Int) : Int).toNat ≤ 35184372088832 then ((spec_seOrder.f k t409).bind fun t418 => (spec_seCount.l0 k t409 (List.replicate ((t409.length : Int) : Int).toNat 0) (List.replicate ((t409.length : Int) : Int).toNat 0) t418 (t418.length : Int) 0 l0_0 a0_1)) else (none)) else (none)))) = some (r1, r2) := h
 clear h
 replace H := Option.bind_eq_some_iff.mp H
 obtain ⟨⟨t405, t408⟩, A20, H⟩ := H
 replace H : ((spec_seFar.f k l0_0 a0_1 t405 t408).bind fun t409 => (if 0 ≤ (t409.length : Int) then (if ((t409.length : Int) : Int).toNat ≤ 35184372088832 then ((spec_seOrder.f k t409).bind fun t418 => (spec_seCount.l0 k t409 (List.replicate ((t409.length : Int) : Int).toNat 0) (List.replicate ((t409.length : Int) : Int).toNat 0) t418 (t418.length : Int) 0 l0_0 a0_1)) else (none)) else (none))) = some (r1, r2) := H
 have A2 := ak_ A20
 clear A20
 replace H := Option.bind_eq_some_iff.mp H
 obtain ⟨t409, A30, H⟩ := H
 replace H : (if 0 ≤ (t409.length : Int) then (if ((t409.length : Int) : Int).toNat ≤ 35184372088832 then ((spec_seOrder.f k t409).bind fun t418 => (spec_seCount.l0 k t409 (List.replicate ((t409.length : Int) : Int).toNat 0) (List.replicate ((t409.length : Int) : Int).toNat 0) t418 (t418.length : Int) 0 l0_0 a0_1)) else (none)) else (none)) = some (r1, r2) := H
 have A3 := ak_ A30
 clear A30
 by_cases c4 : 0 ≤ (t409.length : Int)
 ·
  rw [if_pos c4] at H
  have c4b0 := eq_true c4
  have c4b1 : decide (0 ≤ (t409.length : Int)) = true := decide_eq_true c4
  clear c4
  by_cases c5 : ((t409.length : Int) : Int).toNat ≤ 35184372088832
  ·
   rw [if_pos c5] at H
   have c5b0 := eq_true c5
   have c5b1 : decide (((t409.length : Int) : Int).toNat ≤ 35184372088832) = true := decide_eq_true c5
   clear c5
   obtain ⟨y412, hy412⟩ : ∃ y_ : List Int, y_ = (List.replicate ((t409.length : Int) : Int).toNat 0) := ⟨_, rfl⟩
   replace H : ((spec_seOrder.f k t409).bind fun t418 => (spec_seCount.l0 k t409 y412 (List.replicate ((t409.length : Int) : Int).toNat 0) t418 (t418.length : Int) 0 l0_0 a0_1)) = some (r1, r2) := by first | (rw [hy412]; exact H) | exact H
   have Ny412 := ak_ hy412
   clear hy412
   obtain ⟨y415, hy415⟩ : ∃ y_ : List Int, y_ = (List.replicate ((t409.length : Int) : Int).toNat 0) := ⟨_, rfl⟩
   replace H : ((spec_seOrder.f k t409).bind fun t418 => (spec_seCount.l0 k t409 y412 y415 t418 (t418.length : Int) 0 l0_0 a0_1)) = some (r1, r2) := by first | (rw [hy415]; exact H) | exact H
   have Ny415 := ak_ hy415
   clear hy415
   replace H := Option.bind_eq_some_iff.mp H
   obtain ⟨t418, A60, H⟩ := H
   replace H : (spec_seCount.l0 k t409 y412 y415 t418 (t418.length : Int) 0 l0_0 a0_1) = some (r1, r2) := H
   have A6 := ak_ A60
   clear A60
   have H' := ak_ H
   clear H
   go_enter Try.func47, Try.ntmps47
   try go_wp2_with (first | ((with_reducible refine gate_dst (N := 1) rfl ?_); refine box_event ?hg (N := 1) ?hd (cs := #[.slice A0_0 l0_0.length c0_0, .int .i64 a0_1]) (t := 34) ?hr ?_; (case hd => rfl); (case hg => rfl); (case hr => go_simp <;> rfl); intro gb404 hg w7 hbox hb; have n0_ := ak_ (bs_ (bb_ HB.out) hb); have n1_ := ak_ (hbox); have n2_ := ak_ ((by rw [hg]; exact (bz_ (bb_ HB.out)) : w.heap.size ≤ gb404)); have n3_ := n2_; clear HB; have HB := n0_; have BK404 := n1_; have GW404 := n2_; have GE404 := n3_; clear n0_ n1_ n2_ n3_; clear hb hbox hg))
   have n0_ := ak_ (k1_ BK404.out)
   have n1_ := ak_ (b1_ HB.out)
   clear BK404 HB
   have BK404 := n0_; have HB := n1_
   clear n0_ n1_
   refine start_ (n := 5) (S := fun w' => w'.cell? ⟨gb404, 0, none⟩ = some (.slice A0_0 l0_0.length c0_0) ∧ w'.cell? ⟨gb404, 1, none⟩ = some (.int .i64 a0_1)) (ds := []) #[false, false, false, false, false] (by kernel_rfl) rfl rfl ⟨(blk_cell BK404.out 0).trans rfl, (blk_cell BK404.out 1).trans rfl⟩ (fun hHeld => ?_)
   generalize w7.drew = w8 at BK404 HB hHeld ⊢
   refine take_ (i := 0) (N := some 14) (v := ?_) (a' := ?_) #[true, false, false, false, false] rfl rfl (by kernel_rfl) (fun _ _ _ h => h) (Or.inl ⟨by rfl, ?_⟩) hHeld ?_ ?_
   rotate_left
   ·
    rintro w' ⟨s0, s1⟩
    go_simp
    with_reducible rfl
   rotate_left
   ·
    simp only [Act.put, setIfInBounds_toArray, set_cons_zero, set_cons_succ, i64_w, i32_w]
    rfl
   refine take_ (i := 1) (N := some 15) (v := ?_) (a' := ?_) #[true, true, false, false, false] rfl rfl (by kernel_rfl) (fun _ _ _ h => h) (Or.inl ⟨by rfl, ?_⟩) hHeld ?_ ?_
   rotate_left
   ·
    rintro w' ⟨s0, s1⟩
    go_simp
    with_reducible rfl
   rotate_left
   ·
    simp only [Act.put, setIfInBounds_toArray, set_cons_zero, set_cons_succ, i64_w, i32_w]
    rfl
   refine one_ (i := 2) (N := some 16) #[true, true, true, false, false] rfl rfl (by kernel_rfl) (by decide) (fun K hK => ?_)
   refine goes_ Try.func92 (by kernel_rfl) rfl #[.agg #[.slice A0_0 l0_0.length c0_0, .int .i64 a0_1]] (by rfl) rfl rfl (by first | rfl | (simp only [map_toArray, map_cons, map_nil]; try rfl)) ?_
   with_reducible refine (spec_paLast.calls k _ _ l0_0 a0_1 t405 t408 _ ?side1 ?side2 A2.out).mono ?_
   (case side1 => repeat (first | exact (Kd.C_below HR0_0.out HB.out) | (with_reducible refine Kd.C_alloc ?_ _) | (with_reducible refine Kd.C_drewN ?_ _) | (with_reducible refine Kd.C_drew ?_)))
   (case side2 => exact HC0_0.out)
   rintro e w9 ⟨v406, rfl, ho0, hb⟩
   refine ⟨_, rfl, ?_⟩
   have n0_ := ak_ (Kd.R_lower ho0 (bz_ (by repeat (first | exact HB.out | apply ba_ | apply bN_ | apply b1_ | refine below_set ?_ GE404.out))))
   have n1_ := ak_ (blk_below (pk BK404.out) hb)
   have n2_ := ak_ (bs_ (by repeat (first | exact HB.out | apply ba_ | apply bN_ | apply b1_ | refine below_set ?_ GE404.out)) hb)
   clear BK404 HB
   have HO407 := n0_; have BK404 := n1_; have HB := n2_
   clear n0_ n1_ n2_
   (try clear hb)
   (try clear hb2)
   (try clear hk)
   (try clear hi)
   (try clear ho0)
   obtain ⟨Ao10, co10, eo10⟩ := Kd.R_slice HO407.out
   (first | subst eo10 | (injection eo10 with f1_ f2_ f3_; have f4_ := f1_.symm; have f5_ := f3_.symm; clear f1_ f2_ f3_; subst f4_; subst f5_))
   refine hK.out _ _ ⟨(blk_cell BK404.out 0).trans rfl, (blk_cell BK404.out 1).trans rfl⟩ (fun hHeld => ?_)
   clear hK K
   refine norm_ (a' := ?_) ?_ ?_
   rotate_left
   ·
    show Act.put _ (some 16) _ = _
    simp only [Act.put, setIfInBounds_toArray, set_cons_zero, set_cons_succ, i64_w, i32_w]
    rfl
   refine one_ (i := 3) (N := some 17) #[true, true, true, true, false] rfl rfl (by kernel_rfl) (by decide) (fun K hK => ?_)
   refine goes_ Try.func89 (by kernel_rfl) rfl #[.agg #[.slice A0_0 l0_0.length c0_0, .int .i64 a0_1], .agg #[.slice Ao10 t405.length co10, .bool t408]] (by rfl) rfl rfl (by first | rfl | (simp only [map_toArray, map_cons, map_nil]; try rfl)) ?_
   with_reducible refine (spec_seFar.calls k _ _ l0_0 a0_1 _ _ t405 t408 t409 _ ?side1 ?side2 ?side3 ?side4 A3.out).mono ?_
   (case side1 => repeat (first | exact (Kd.C_below HR0_0.out HB.out) | (with_reducible refine Kd.C_alloc ?_ _) | (with_reducible refine Kd.C_drewN ?_ _) | (with_reducible refine Kd.C_drew ?_)))
   (case side2 => exact HC0_0.out)
   (case side3 => repeat (first | exact (Kd.R_reads' HO407.out).2.2 | (with_reducible refine Kd.C_alloc ?_ _) | (with_reducible refine Kd.C_drewN ?_ _) | (with_reducible refine Kd.C_drew ?_)))
   (case side4 => exact (Kd.R_reads' HO407.out).2.1)
   rintro e w11 ⟨v410, rfl, ho0, hb⟩
   refine ⟨_, rfl, ?_⟩
   have n0_ := ak_ (Kd.R_below (Kd.pR HO407.out) hb)
   have n1_ := ak_ (Kd.R_lower ho0 (bz_ (by repeat (first | exact HB.out | apply ba_ | apply bN_ | apply b1_ | refine below_set ?_ GE404.out))))
   have n2_ := ak_ (blk_below (pk BK404.out) hb)
   have n3_ := ak_ (bs_ (by repeat (first | exact HB.out | apply ba_ | apply bN_ | apply b1_ | refine below_set ?_ GE404.out)) hb)
   clear HO407 BK404 HB
   have HO407 := n0_; have HO411 := n1_; have BK404 := n2_; have HB := n3_
   clear n0_ n1_ n2_ n3_
   (try clear hb)
   (try clear hb2)
   (try clear hk)
   (try clear hi)
   (try clear ho0)
   refine hK.out _ _ ⟨(blk_cell BK404.out 0).trans rfl, (blk_cell BK404.out 1).trans rfl⟩ (fun hHeld => ?_)
   clear hK K
   refine norm_ (a' := ?_) ?_ ?_
   rotate_left
   ·
    show Act.put _ (some 17) _ = _
    simp only [Act.put, setIfInBounds_toArray, set_cons_zero, set_cons_succ, i64_w, i32_w]
    rfl
   refine pure_ (i := 4) (N := some 4) (v := ?_) (a' := ?_) #[true, true, true, true, true] rfl rfl (by kernel_rfl) (fun _ _ _ h => h) (Or.inl ⟨by rfl, ?_⟩) ?_ ?_
   rotate_left
   ·
    intro w'
    go_simp
    with_reducible rfl
   rotate_left
   ·
    simp only [Act.put, setIfInBounds_toArray, set_cons_zero, set_cons_succ, i64_w, i32_w]
    rfl
   refine done_ (by kernel_rfl) ?_
   try go_wp2
   have n0_ := ak_ (Kd.R_drew HO407.out)
   have n1_ := ak_ (Kd.R_drew HO411.out)
   have n2_ := ak_ (k1_ BK404.out)
   have n3_ := ak_ (b1_ HB.out)
   clear HO407 HO411 BK404 HB
   have HO407 := n0_; have HO411 := n1_; have BK404 := n2_; have HB := n3_
   clear n0_ n1_ n2_ n3_
   obtain ⟨Ao13, co13, eo13⟩ := Kd.R_slice HO411.out
   (first | subst eo13 | (injection eo13 with f1_ f2_ f3_; have f4_ := f1_.symm; have f5_ := f3_.symm; clear f1_ f2_ f3_; subst f4_; subst f5_))
   refine start_ (n := 8) (S := fun w' => True) (ds := []) (mb_ 8 0) (by kernel_rfl) rfl rfl trivial (fun hHeld => ?_); refine with_tabW spec_seCount.tab2 spec_seCount.bits2 (fun HT_ HW_ => ?_)
   generalize w11.drew = w12 at HO407 HO411 BK404 HB hHeld ⊢
   refine pure_ (i := 0) (N := some 18) (v := ?_) (a' := ?_) (mb_ 8 1) rfl rfl (any_of HT_.out (by kernel_rfl)) (fun _ _ _ h => h) (Or.inl ⟨by rfl, ?_⟩) ?_ ?_
   rotate_left
   ·
    intro w'
    go_simp
    with_reducible rfl
   rotate_left
   ·
    simp only [Act.put, setIfInBounds_toArray, set_cons_zero, set_cons_succ, i64_w, i32_w]
    rfl
   refine pure_ (i := 1) (N := some 19) (v := ?_) (a' := ?_) (mb_ 8 3) rfl rfl (any_of HT_.out (by kernel_rfl)) (fun _ _ _ h => h) (Or.inl ⟨by rfl, ?_⟩) ?_ ?_
   rotate_left
   ·
    intro w'
    go_simp
    with_reducible rfl
   rotate_left
   ·
    simp only [Act.put, setIfInBounds_toArray, set_cons_zero, set_cons_succ, i64_w, i32_w]
    rfl
   refine pure_ (i := 3) (N := some 21) (v := ?_) (a' := ?_) (mb_ 8 11) rfl rfl (any_of HT_.out (by kernel_rfl)) (fun _ _ _ h => h) (Or.inl ⟨by rfl, ?_⟩) ?_ ?_
   rotate_left
   ·
    intro w'
    go_simp
    with_reducible rfl
   rotate_left
   ·
    simp only [Act.put, setIfInBounds_toArray, set_cons_zero, set_cons_succ, i64_w, i32_w]
    rfl
   refine pure_ (i := 4) (N := some 22) (v := ?_) (a' := ?_) (mb_ 8 27) rfl rfl (any_of HT_.out (by kernel_rfl)) (fun _ _ _ h => h) (Or.inl ⟨by rfl, ?_⟩) ?_ ?_
   rotate_left
   ·
    intro w'
    go_simp
    with_reducible rfl
   rotate_left
   ·
    simp only [Act.put, setIfInBounds_toArray, set_cons_zero, set_cons_succ, i64_w, i32_w]
    rfl
   refine join_ (σ := Value × Value) 1 (mb_ 8 127) (fun s_ => [(20, s_.1), (23, s_.2), (5, s_.1)]) (fun s_ w' => (Kd.R Kd.bool 4 w' w.heap.size (fun _ => True) (.slice Ao10 t405.length co10) t405) ∧ (Kd.R (Kd.int .i64) 3 w' w.heap.size (fun k_ => some k_ ≠ (s_.1 : Value).ownBlock ∧ some k_ ≠ (s_.2 : Value).ownBlock) (.slice Ao13 t409.length co13) t409) ∧ (Kd.R (Kd.int .i64) 3 w' w.heap.size (fun k_ => some k_ ≠ (.slice Ao13 t409.length co13 : Value).ownBlock ∧ some k_ ≠ (s_.2 : Value).ownBlock) s_.1 y412) ∧ (Kd.R (Kd.int .i64) 3 w' w.heap.size (fun k_ => some k_ ≠ (.slice Ao13 t409.length co13 : Value).ownBlock ∧ some k_ ≠ (s_.1 : Value).ownBlock) s_.2 y415) ∧ (w'.heap[gb404]? = some (.cells #[.slice A0_0 l0_0.length c0_0, .int .i64 a0_1] 34 (0, 0))) ∧ (Below w.heap.size w w')) ?_ ?_
   rotate_left
   ·
    intro hCont
    refine two_ (i := 2) (j := 5) (Ni := some 20) (Nj := some 23) (mb_ 8 31) (mb_ 8 59) rfl rfl rfl rfl (two_of HT_.out (by kernel_rfl)) (by decide) (by decide) (fun K hK => ?_) (fun K hK => ?_)
    ·
     skip
     refine Kd.R_make_step (Kd.int .i64) _ 3 (by rfl) (N := 20) rfl 29 _ _ rfl (t409.length : Int) rfl rfl Try.underlying29 (.int .i64 0) 8 info3 rfl (by decide) (by omega) 0 (ok := fun _ => True) (okp := fun _ => True) rfl (fun _ hk => hk) trivial (odt_ (by assumption)) (Nat.le_trans (Nat.mul_le_mul_right _ (odt_ (by assumption) : (t409.length : Int).toNat ≤ 35184372088832)) (by omega)) (Below.refl _ _) (Nat.le_refl _) ?_
     intro v413 w14 ho15 hb hg_ hnew_
     clear hg_ hnew_
     (first | rw [← Ny412.out] at ho15 | (simp only [Int.reduceToNat] at ho15; rw [← Ny412.out] at ho15))
     have n0_ := ak_ (Kd.R_below (Kd.pR HO407.out) hb)
     have n1_ := ak_ (Kd.R_elder' (Kd.pR HO411.out) (Kd.R_base ho15) hb)
     have n2_ := ak_ (Kd.R_lower (Kd.R_new' ho15 (Kd.R_lt (Kd.pR HO411.out))) (bz_ (by repeat (first | exact HB.out | apply ba_ | apply bN_ | apply b1_ | refine below_set ?_ GE404.out))))
     have n3_ := ak_ (blk_below (pk BK404.out) hb)
     have n4_ := ak_ (bs_ (by repeat (first | exact HB.out | apply ba_ | apply bN_ | apply b1_ | refine below_set ?_ GE404.out)) hb)
     clear HO407 HO411 BK404 HB
     have HO407 := n0_; have HO411 := n1_; have HO414 := n2_; have BK404 := n3_; have HB := n4_
     clear n0_ n1_ n2_ n3_ n4_ hb ho15
     refine hK.out _ _ trivial (fun hHeld => ?_)
     clear hK K
     refine norm_ (a' := ?_) ?_ ?_
     rotate_left
     ·
      show Act.put _ (some 20) _ = _
      simp only [Act.put, setIfInBounds_toArray, set_cons_zero, set_cons_succ, i64_w, i32_w]
      rfl
     refine pure_ (i := 6) (N := some 5) (v := ?_) (a' := ?_) (mb_ 8 95) rfl rfl (any_of HT_.out (by kernel_rfl)) (fun _ _ _ h => h) (Or.inl ⟨by rfl, ?_⟩) ?_ ?_
     rotate_left
     ·
      intro w'
      go_simp
      with_reducible rfl
     rotate_left
     ·
      simp only [Act.put, setIfInBounds_toArray, set_cons_zero, set_cons_succ, i64_w, i32_w]
      rfl
     refine one_ (i := 5) (N := some 23) (mb_ 8 127) rfl rfl (one_of HT_.out (by kernel_rfl)) (by decide) (fun K hK => ?_)
     refine Kd.R_make_step (Kd.int .i64) _ 3 (by rfl) (N := 23) rfl 29 _ _ rfl (t409.length : Int) rfl rfl Try.underlying29 (.int .i64 0) 8 info3 rfl (by decide) (by omega) 0 (ok := fun _ => True) (okp := fun _ => True) rfl (fun _ hk => hk) trivial (odt_ (by assumption)) (Nat.le_trans (Nat.mul_le_mul_right _ (odt_ (by assumption) : (t409.length : Int).toNat ≤ 35184372088832)) (by omega)) (Below.refl _ _) (Nat.le_refl _) ?_
     intro v416 w16 ho17 hb hg_ hnew_
     clear hg_ hnew_
     (first | rw [← Ny415.out] at ho17 | (simp only [Int.reduceToNat] at ho17; rw [← Ny415.out] at ho17))
     have n0_ := ak_ (Kd.R_below (Kd.pR HO407.out) hb)
     have n1_ := ak_ (Kd.R_elder' (Kd.pR HO411.out) (Kd.R_base ho17) hb)
     have n2_ := ak_ (Kd.R_elder' (Kd.pR HO414.out) (Kd.R_base ho17) hb)
     have n3_ := ak_ (Kd.R_lower (Kd.R_new' (Kd.R_new' ho17 (Kd.R_lt (Kd.pR HO411.out))) (Kd.R_lt (Kd.pR HO414.out))) (bz_ (by repeat (first | exact HB.out | apply ba_ | apply bN_ | apply b1_ | refine below_set ?_ GE404.out))))
     have n4_ := ak_ (blk_below (pk BK404.out) hb)
     have n5_ := ak_ (bs_ (by repeat (first | exact HB.out | apply ba_ | apply bN_ | apply b1_ | refine below_set ?_ GE404.out)) hb)
     clear HO407 HO411 HO414 BK404 HB
     have HO407 := n0_; have HO411 := n1_; have HO414 := n2_; have HO417 := n3_; have BK404 := n4_; have HB := n5_
     clear n0_ n1_ n2_ n3_ n4_ n5_ hb ho17
     refine hK.out _ _ trivial (fun hHeld => ?_)
     clear hK K
     refine norm_ (a' := ?_) ?_ ?_
     rotate_left
     ·
      show Act.put _ (some 23) _ = _
      simp only [Act.put, setIfInBounds_toArray, set_cons_zero, set_cons_succ, i64_w, i32_w]
      rfl
     exact norm_ (by simp only [putAll, Act.put, setIfInBounds_toArray, set_cons_zero, set_cons_succ]) (hCont (v413, v416) _ ⟨(Kd.pR HO407.out), (by (with_reducible repeat (first | apply Kd.R_alloc | apply Kd.R_drewN | apply Kd.R_drew)); exact Kd.R_mono HO411.out (fun _ hk => ⟨hk.1.2, hk.2⟩)), (by (with_reducible repeat (first | apply Kd.R_alloc | apply Kd.R_drewN | apply Kd.R_drew)); exact Kd.R_mono HO414.out (fun _ hk => ⟨hk.1.2, hk.2⟩)), (by (with_reducible repeat (first | apply Kd.R_alloc | apply Kd.R_drewN | apply Kd.R_drew)); exact Kd.R_mono HO417.out (fun _ hk => ⟨hk.1.2, hk.2⟩)), (pk BK404.out), (by repeat (first | exact HB.out | apply ba_ | apply bN_ | apply b1_ | refine below_set ?_ GE404.out))⟩)
    ·
     skip
     refine Kd.R_make_step (Kd.int .i64) _ 3 (by rfl) (N := 23) rfl 29 _ _ rfl (t409.length : Int) rfl rfl Try.underlying29 (.int .i64 0) 8 info3 rfl (by decide) (by omega) 0 (ok := fun _ => True) (okp := fun _ => True) rfl (fun _ hk => hk) trivial (odt_ (by assumption)) (Nat.le_trans (Nat.mul_le_mul_right _ (odt_ (by assumption) : (t409.length : Int).toNat ≤ 35184372088832)) (by omega)) (Below.refl _ _) (Nat.le_refl _) ?_
     intro v416 w14 ho15 hb hg_ hnew_
     clear hg_ hnew_
     (first | rw [← Ny415.out] at ho15 | (simp only [Int.reduceToNat] at ho15; rw [← Ny415.out] at ho15))
     have n0_ := ak_ (Kd.R_below (Kd.pR HO407.out) hb)
     have n1_ := ak_ (Kd.R_elder' (Kd.pR HO411.out) (Kd.R_base ho15) hb)
     have n2_ := ak_ (Kd.R_lower (Kd.R_new' ho15 (Kd.R_lt (Kd.pR HO411.out))) (bz_ (by repeat (first | exact HB.out | apply ba_ | apply bN_ | apply b1_ | refine below_set ?_ GE404.out))))
     have n3_ := ak_ (blk_below (pk BK404.out) hb)
     have n4_ := ak_ (bs_ (by repeat (first | exact HB.out | apply ba_ | apply bN_ | apply b1_ | refine below_set ?_ GE404.out)) hb)
     clear HO407 HO411 BK404 HB
     have HO407 := n0_; have HO411 := n1_; have HO417 := n2_; have BK404 := n3_; have HB := n4_
     clear n0_ n1_ n2_ n3_ n4_ hb ho15
     refine hK.out _ _ trivial (fun hHeld => ?_)
     clear hK K
     refine norm_ (a' := ?_) ?_ ?_
     rotate_left
     ·
      show Act.put _ (some 23) _ = _
      simp only [Act.put, setIfInBounds_toArray, set_cons_zero, set_cons_succ, i64_w, i32_w]
      rfl
     refine one_ (i := 2) (N := some 20) (mb_ 8 63) rfl rfl (one_of HT_.out (by kernel_rfl)) (by decide) (fun K hK => ?_)
     refine Kd.R_make_step (Kd.int .i64) _ 3 (by rfl) (N := 20) rfl 29 _ _ rfl (t409.length : Int) rfl rfl Try.underlying29 (.int .i64 0) 8 info3 rfl (by decide) (by omega) 0 (ok := fun _ => True) (okp := fun _ => True) rfl (fun _ hk => hk) trivial (odt_ (by assumption)) (Nat.le_trans (Nat.mul_le_mul_right _ (odt_ (by assumption) : (t409.length : Int).toNat ≤ 35184372088832)) (by omega)) (Below.refl _ _) (Nat.le_refl _) ?_
     intro v413 w16 ho17 hb hg_ hnew_
     clear hg_ hnew_
     (first | rw [← Ny412.out] at ho17 | (simp only [Int.reduceToNat] at ho17; rw [← Ny412.out] at ho17))
     have n0_ := ak_ (Kd.R_below (Kd.pR HO407.out) hb)
     have n1_ := ak_ (Kd.R_elder' (Kd.pR HO411.out) (Kd.R_base ho17) hb)
     have n2_ := ak_ (Kd.R_elder' (Kd.pR HO417.out) (Kd.R_base ho17) hb)
     have n3_ := ak_ (Kd.R_lower (Kd.R_new' (Kd.R_new' ho17 (Kd.R_lt (Kd.pR HO411.out))) (Kd.R_lt (Kd.pR HO417.out))) (bz_ (by repeat (first | exact HB.out | apply ba_ | apply bN_ | apply b1_ | refine below_set ?_ GE404.out))))
     have n4_ := ak_ (blk_below (pk BK404.out) hb)
     have n5_ := ak_ (bs_ (by repeat (first | exact HB.out | apply ba_ | apply bN_ | apply b1_ | refine below_set ?_ GE404.out)) hb)
     clear HO407 HO411 HO417 BK404 HB
     have HO407 := n0_; have HO411 := n1_; have HO417 := n2_; have HO414 := n3_; have BK404 := n4_; have HB := n5_
     clear n0_ n1_ n2_ n3_ n4_ n5_ hb ho17
     refine hK.out _ _ trivial (fun hHeld => ?_)
     clear hK K
     refine norm_ (a' := ?_) ?_ ?_
     rotate_left
     ·
      show Act.put _ (some 20) _ = _
      simp only [Act.put, setIfInBounds_toArray, set_cons_zero, set_cons_succ, i64_w, i32_w]
      rfl
     refine pure_ (i := 6) (N := some 5) (v := ?_) (a' := ?_) (mb_ 8 127) rfl rfl (any_of HT_.out (by kernel_rfl)) (fun _ _ _ h => h) (Or.inl ⟨by rfl, ?_⟩) ?_ ?_
     rotate_left
     ·
      intro w'
      go_simp
      with_reducible rfl
     rotate_left
     ·
      simp only [Act.put, setIfInBounds_toArray, set_cons_zero, set_cons_succ, i64_w, i32_w]
      rfl
     exact norm_ (by simp only [putAll, Act.put, setIfInBounds_toArray, set_cons_zero, set_cons_succ]) (hCont (v413, v416) _ ⟨(Kd.pR HO407.out), (by (with_reducible repeat (first | apply Kd.R_alloc | apply Kd.R_drewN | apply Kd.R_drew)); exact Kd.R_mono HO411.out (fun _ hk => ⟨hk.2, hk.1.2⟩)), (by (with_reducible repeat (first | apply Kd.R_alloc | apply Kd.R_drewN | apply Kd.R_drew)); exact Kd.R_mono HO414.out (fun _ hk => ⟨hk.1.2, hk.2⟩)), (by (with_reducible repeat (first | apply Kd.R_alloc | apply Kd.R_drewN | apply Kd.R_drew)); exact Kd.R_mono HO417.out (fun _ hk => ⟨hk.1.2, hk.2⟩)), (pk BK404.out), (by repeat (first | exact HB.out | apply ba_ | apply bN_ | apply b1_ | refine below_set ?_ GE404.out))⟩)
   rintro ⟨v413, v416⟩ w18 ⟨h0_, h1_, h2_, h3_, h4_, h5_⟩
   have n0_ : Aside0 (Kd.R Kd.bool 4 w18 w.heap.size (fun _ => True) (.slice Ao10 t405.length co10) t405) := ⟨h0_⟩
   have n1_ : Aside0 (Kd.R (Kd.int .i64) 3 w18 w.heap.size (fun k_ => some k_ ≠ (v413 : Value).ownBlock ∧ some k_ ≠ (v416 : Value).ownBlock) (.slice Ao13 t409.length co13) t409) := ⟨h1_⟩
   have n2_ : Aside0 (Kd.R (Kd.int .i64) 3 w18 w.heap.size (fun k_ => some k_ ≠ (.slice Ao13 t409.length co13 : Value).ownBlock ∧ some k_ ≠ (v416 : Value).ownBlock) v413 y412) := ⟨h2_⟩
   have n3_ : Aside0 (Kd.R (Kd.int .i64) 3 w18 w.heap.size (fun k_ => some k_ ≠ (.slice Ao13 t409.length co13 : Value).ownBlock ∧ some k_ ≠ (v413 : Value).ownBlock) v416 y415) := ⟨h3_⟩
   have n4_ : Aside0 (w18.heap[gb404]? = some (.cells #[.slice A0_0 l0_0.length c0_0, .int .i64 a0_1] 34 (0, 0))) := ⟨h4_⟩
   have n5_ : Aside0 (Below w.heap.size w w18) := ⟨h5_⟩
   clear HO407 HO411 BK404 HB h0_ h1_ h2_ h3_ h4_ h5_
   have HO407 := n0_; have HO411 := n1_; have HO414 := n2_; have HO417 := n3_; have BK404 := n4_; have HB := n5_
   clear n0_ n1_ n2_ n3_ n4_ n5_
   have hHeld := trivial
   refine norm_ (a' := ?_) ?_ ?_
   rotate_left
   ·
    simp only [putAll, Act.put, setIfInBounds_toArray, set_cons_zero, set_cons_succ]
    rfl
   refine pure_ (i := 7) (N := some 6) (v := ?_) (a' := ?_) (mb_ 8 255) rfl rfl (any_of HT_.out (by kernel_rfl)) (fun _ _ _ h => h) (Or.inl ⟨by rfl, ?_⟩) ?_ ?_
   rotate_left
   ·
    intro w'
    go_simp
    with_reducible rfl
   rotate_left
   ·
    simp only [Act.put, setIfInBounds_toArray, set_cons_zero, set_cons_succ, i64_w, i32_w]
    rfl
   refine done_ (done_of HT_.out (by kernel_rfl)) ?_
   try go_wp2_with (first | ((with_reducible refine gate_callee (f := 93) rfl ?_); refine goesL_ (some 25) rfl rfl Try.func93 (by kernel_rfl) rfl #[.slice Ao13 t409.length co13] rfl (by first | rfl | (simp only [map_toArray, map_cons, map_nil]; try rfl)) ?_; (with_reducible refine (spec_seOrder.calls k _ _ t409 t418 _ ?side1 ?side2 A6.out).mono ?_); (case side1 => repeat (first | exact (Kd.R_reads' HO411.out).2.2 | (with_reducible refine Kd.C_alloc ?_ _) | (with_reducible refine Kd.C_drewN ?_ _) | (with_reducible refine Kd.C_drew ?_))); (case side2 => exact (Kd.R_reads' HO411.out).2.1); rintro e w19 ⟨v419, rfl, ho0, hb⟩; refine ⟨_, rfl, ?_⟩; have n0_ := ak_ (Kd.R_below (Kd.pR HO407.out) hb); have n1_ := ak_ (Kd.R_elder' (Kd.pR HO411.out) (Kd.R_base ho0) hb); have n2_ := ak_ (Kd.R_elder' (Kd.pR HO414.out) (Kd.R_base ho0) hb); have n3_ := ak_ (Kd.R_elder' (Kd.pR HO417.out) (Kd.R_base ho0) hb); have n4_ := ak_ (Kd.R_lower (Kd.R_new' (Kd.R_new' (Kd.R_new' ho0 (Kd.R_lt (Kd.pR HO411.out))) (Kd.R_lt (Kd.pR HO414.out))) (Kd.R_lt (Kd.pR HO417.out))) (bz_ (by repeat (first | exact HB.out | apply ba_ | apply bN_ | apply b1_ | refine below_set ?_ GE404.out)))); have n5_ := ak_ (blk_below (pk BK404.out) hb); have n6_ := ak_ (bs_ (by repeat (first | exact HB.out | apply ba_ | apply bN_ | apply b1_ | refine below_set ?_ GE404.out)) hb); clear HO407; clear HO411; clear HO414; clear HO417; clear BK404; clear HB; have HO407 := n0_; have HO411 := n1_; have HO414 := n2_; have HO417 := n3_; have HO420 := n4_; have BK404 := n5_; have HB := n6_; clear n0_ n1_ n2_ n3_ n4_ n5_ n6_; (try clear hb); (try clear hb2); (try clear hk); (try clear hi); (try clear ho0); obtain ⟨Ao20, co20, eo20⟩ := Kd.R_slice HO420.out; subst eo20))
   go_loopg [27] k (fun kq v27 w' => ∃ (x5_1 : List Int) (x6_1 : List Int) (x27_1 : Int), v27 = .int .i64 x27_1 ∧ Aside0 (spec_seCount.l0 kq t409 x5_1 x6_1 t418 (t418.length : Int) x27_1 l0_0 a0_1 = some (r1, r2)) ∧ Aside0 (kq ≤ k) ∧ Aside0 (Kd.R (Kd.int .i64) 3 w' w.heap.size (fun k_ => some k_ ≠ (v413 : Value).ownBlock ∧ some k_ ≠ (v416 : Value).ownBlock ∧ some k_ ≠ ((.slice Ao20 t418.length co20) : Value).ownBlock) (.slice Ao13 t409.length co13) t409) ∧ Aside0 (Kd.R (Kd.int .i64) 3 w' w.heap.size (fun k_ => some k_ ≠ ((.slice Ao13 t409.length co13) : Value).ownBlock ∧ some k_ ≠ (v416 : Value).ownBlock ∧ some k_ ≠ ((.slice Ao20 t418.length co20) : Value).ownBlock) v413 x5_1) ∧ Aside0 (Kd.R (Kd.int .i64) 3 w' w.heap.size (fun k_ => some k_ ≠ ((.slice Ao13 t409.length co13) : Value).ownBlock ∧ some k_ ≠ (v413 : Value).ownBlock ∧ some k_ ≠ ((.slice Ao20 t418.length co20) : Value).ownBlock) v416 x6_1) ∧ Aside0 (Kd.R (Kd.int .i64) 3 w' w.heap.size (fun k_ => some k_ ≠ ((.slice Ao13 t409.length co13) : Value).ownBlock ∧ some k_ ≠ (v413 : Value).ownBlock ∧ some k_ ≠ (v416 : Value).ownBlock) (.slice Ao20 t418.length co20) t418) ∧ Aside0 (w'.heap[gb404]? = some (.cells #[(.slice A0_0 l0_0.length c0_0), .int .i64 a0_1] 34 (0, 0))) ∧ Aside0 (Below w.heap.size w w'))
   case atStart => exact ⟨(y412), (y415), (0), (by first | rfl | (simp; done) | (simp [*]; done)), H', ⟨Nat.le_refl _⟩, ⟨by (with_reducible repeat (first | apply Kd.R_alloc | apply Kd.R_drewN | apply Kd.R_drew)); exact Kd.R_mono HO411.out (fun _ hk => ⟨hk.1.1, ⟨hk.1.2, hk.2⟩⟩)⟩, ⟨by (with_reducible repeat (first | apply Kd.R_alloc | apply Kd.R_drewN | apply Kd.R_drew)); exact Kd.R_mono HO414.out (fun _ hk => ⟨hk.1.1, ⟨hk.1.2, hk.2⟩⟩)⟩, ⟨by (with_reducible repeat (first | apply Kd.R_alloc | apply Kd.R_drewN | apply Kd.R_drew)); exact Kd.R_mono HO417.out (fun _ hk => ⟨hk.1.1, ⟨hk.1.2, hk.2⟩⟩)⟩, ⟨by (with_reducible repeat (first | apply Kd.R_alloc | apply Kd.R_drewN | apply Kd.R_drew)); exact Kd.R_mono HO420.out (fun _ hk => ⟨hk.1.1.2, ⟨hk.1.2, hk.2⟩⟩)⟩, ⟨pk BK404.out⟩, ⟨by repeat (first | exact HB.out | apply ba_ | apply bN_ | apply b1_ | refine below_set ?_ GE404.out)⟩⟩
   case round =>
    clear H'
    try clear p2
    try clear c4
    try clear c4b0
    try clear c4b1
    try clear c5
    try clear c5b0
    try clear c5b1
    try clear c8
    try clear c9
    obtain ⟨x5_1, x6_1, x27_1, rfl, HA, HK1, HO_4, HO_5, HO_6, HO_25, BK404, HB⟩ := hrel
    cases gk with
    | zero => exact absurd HA.out (by simp [spec_seCount.l0])
    | succ k1 =>
     have H := HA.out
     clear HA
     simp only [spec_seCount.l0] at H
     by_cases c21 : x27_1 < (t418.length : Int)
     ·
      rw [if_pos c21] at H
      have c21b0 : decide (x27_1 < (t418.length : Int)) = true := decide_eq_true c21
      clear c21
      by_cases c22 : 0 ≤ x27_1
      ·
       rw [if_pos c22] at H
       have c22b0 : decide (0 ≤ x27_1) = true := decide_eq_true c22
       clear c22
       by_cases c23 : x27_1 < (t418.length : Int)
       ·
        rw [if_pos c23] at H
        have c23b0 : decide (x27_1 < (t418.length : Int)) = true := decide_eq_true c23
        clear c23
        by_cases c24 : 0 ≤ (rd t418 x27_1)
        ·
         rw [if_pos c24] at H
         have c24b0 : decide (0 ≤ (rd t418 x27_1)) = true := decide_eq_true c24
         clear c24
         by_cases c25 : (rd t418 x27_1) < (t409.length : Int)
         ·
          rw [if_pos c25] at H
          have c25b0 : decide ((rd t418 x27_1) < (t409.length : Int)) = true := decide_eq_true c25
          clear c25
          have HC26 := ak_ H
          clear H
          have p428 : 0 ≤ (x27_1 : Int) := odt_ (by assumption)
          have q428 : x27_1 < (t418.length : Int) := odt_ (by assumption)
          obtain ⟨ad428, e428, hx428_0⟩ := Kd.at_int (Kd.R_reads' HO_25.out).2.2 x27_1 p428 q428
          cases e428
          replace p428 := eq_true p428
          replace q428 := eq_true q428
          have p429 : 0 ≤ ((rd t418 x27_1) : Int) := odt_ (by assumption)
          have q429 : (rd t418 x27_1) < (t409.length : Int) := odt_ (by assumption)
          obtain ⟨ad429, e429, hx429_0⟩ := Kd.at_int (Kd.R_reads' HO_4.out).2.2 (rd t418 x27_1) p429 q429
          cases e429
          replace p429 := eq_true p429
          replace q429 := eq_true q429
          go_upto_if 35 with (fail)
          have H := HC26.out
          clear HC26
          by_cases c27 : (rd t409 (rd t418 x27_1)) = 0
          ·
           rw [if_pos c27] at H
           have c27b0 : ((rd t409 (rd t418 x27_1)) == 0) = true := beq_iff_eq.mpr c27
           have c27b1 : ((rd t409 (rd t418 x27_1)) != 0) = false := bne_eq_false_iff_eq.mpr c27
           clear c27
           (first | rw [c27b0] | (simp only [i64_w, i32_w]; rw [c27b0]) | rw [c27b1] | skip)
           by_cases c28 : (rd t418 x27_1) < (x5_1.length : Int)
           ·
            rw [if_pos c28] at H
            have c28b0 : decide ((rd t418 x27_1) < (x5_1.length : Int)) = true := decide_eq_true c28
            clear c28
            obtain ⟨y430, hy430⟩ : ∃ y_ : List Int, y_ = (x5_1.set ((rd t418 x27_1) : Int).toNat 1) := ⟨_, rfl⟩
            replace H : (spec_seCount.l0 k1 t409 y430 x6_1 t418 (t418.length : Int) (wrap64 (x27_1 + 1)) l0_0 a0_1) = some (r1, r2) := by first | (rw [hy430]; exact H) | exact H
            have Ny430 := ak_ hy430
            clear hy430
            have H' := ak_ H
            clear H
            have p29 : 0 ≤ ((rd t418 x27_1) : Int) := odt_ (by assumption)
            have q29 : ((rd t418 x27_1) : Int) < ((x5_1.length : Int) : Int) := odt_ (by assumption)
            obtain ⟨go29, co29, eo29, gb29, gl29, cl29, HG29⟩ := Kd.R_form HO_5.out (by omega)
            (first | cases eo29 | (injection eo29 with ea_ en_ ec_; (first | subst ea_ | (injection ea_ with ea_; subst ea_)); subst ec_; clear en_))
            have GB29 := ak_ gb29
            have GG29 := ak_ HG29
            clear gb29 gl29 HG29
            obtain ⟨hx29_0, hf29_0⟩ := Kd.R_celln 0 HO_5.out ((rd t418 x27_1) : Int) p29 q29
            replace p29 := eq_true p29
            replace q29 := eq_true q29
            have HP30 := Kd.R_putg HO_5.out ((rd t418 x27_1) : Int) 1
            go_wp2_with (first | ((with_reducible refine gate_store (t := 3) (p := 38) rfl ?_); refine store_event (t := 3) (p := 38) (v := ?vo_w31) (w1 := (wr.setCell ⟨go29, ((rd t418 x27_1) : Int).toNat, none⟩ (.int .i64 1))) ?hg ?ho ?hn ?hr ?_; (case ho => rfl); (case hg => rfl); (case hn => rfl); (case hr => go_simp <;> rfl); intro w31 hw; have hg : wr.grownBy w31 (some go29) := (by rw [hw]; exact HP30.2); have hp_ : Kd.R (Kd.int .i64) 3 w31 w.heap.size (fun k_ => some k_ ≠ (.slice (some ad429) t409.length co13 : Value).ownBlock ∧ some k_ ≠ (v416 : Value).ownBlock ∧ some k_ ≠ (.slice (some ad428) t418.length co20 : Value).ownBlock) (.slice (some ⟨go29, 0, none⟩) x5_1.length co29) y430 := (by rw [hw, Ny430.out]; exact HP30.1); clear HP30; have n0_ := ak_ (Kd.R_after (v := (.slice (some ⟨go29, 0, none⟩) x5_1.length co29)) (v1 := (.slice (some ⟨go29, 0, none⟩) x5_1.length co29)) (ok := (fun k_ => some k_ ≠ (v416 : Value).ownBlock ∧ some k_ ≠ (.slice (some ad428) t418.length co20 : Value).ownBlock)) (by (with_reducible repeat (first | apply Kd.R_alloc | apply Kd.R_drewN | apply Kd.R_drew)); exact Kd.R_mono HO_4.out (fun _ hk => ⟨⟨hk.2.1, hk.2.2⟩, hk.1⟩)) hg (.inl rfl)); have n1_ := ak_ (hp_); have n2_ := ak_ (Kd.R_after (v := (.slice (some ⟨go29, 0, none⟩) x5_1.length co29)) (v1 := (.slice (some ⟨go29, 0, none⟩) x5_1.length co29)) (ok := (fun k_ => some k_ ≠ (.slice (some ad429) t409.length co13 : Value).ownBlock ∧ some k_ ≠ (.slice (some ad428) t418.length co20 : Value).ownBlock)) (by (with_reducible repeat (first | apply Kd.R_alloc | apply Kd.R_drewN | apply Kd.R_drew)); exact Kd.R_mono HO_6.out (fun _ hk => ⟨⟨hk.1, hk.2.2⟩, hk.2.1⟩)) hg (.inl rfl)); have n3_ := ak_ (Kd.R_after (v := (.slice (some ⟨go29, 0, none⟩) x5_1.length co29)) (v1 := (.slice (some ⟨go29, 0, none⟩) x5_1.length co29)) (ok := (fun k_ => some k_ ≠ (.slice (some ad429) t409.length co13 : Value).ownBlock ∧ some k_ ≠ (v416 : Value).ownBlock)) (by (with_reducible repeat (first | apply Kd.R_alloc | apply Kd.R_drewN | apply Kd.R_drew)); exact Kd.R_mono HO_25.out (fun _ hk => ⟨⟨hk.1, hk.2.2⟩, hk.2.1⟩)) hg (.inl rfl)); have n4_ := ak_ (blk_grown (pk BK404.out) hg (Kd.R_ne HO_5.out BK404.out (by decide))); have n5_ := ak_ ((by rw [hw]; exact below_set (HB.out) GB29.out : Below w.heap.size w w31)); clear HO_4; clear HO_5; clear HO_6; clear HO_25; clear BK404; clear HB; have HO_4 := n0_; have HO_5 := n1_; have HO_6 := n2_; have HO_25 := n3_; have BK404 := n4_; have HB := n5_; clear n0_ n1_ n2_ n3_ n4_ n5_; clear hg hw hp_))
            go_roundg k1
            case measure => have := HK1.out; omega
            case rel => exact ⟨(y430), (x6_1), (wrap64 (x27_1 + 1)), (by first | rfl | (simp; done) | (simp [*]; done)), H', ⟨by have := HK1.out; omega⟩, ⟨by (with_reducible repeat (first | apply Kd.R_alloc | apply Kd.R_drewN | apply Kd.R_drew)); exact Kd.R_mono HO_4.out (fun _ hk => ⟨hk.2, ⟨hk.1.1, hk.1.2⟩⟩)⟩, ⟨Kd.pR HO_5.out⟩, ⟨by (with_reducible repeat (first | apply Kd.R_alloc | apply Kd.R_drewN | apply Kd.R_drew)); exact Kd.R_mono HO_6.out (fun _ hk => ⟨hk.1.1, ⟨hk.2, hk.1.2⟩⟩)⟩, ⟨by (with_reducible repeat (first | apply Kd.R_alloc | apply Kd.R_drewN | apply Kd.R_drew)); exact Kd.R_mono HO_25.out (fun _ hk => ⟨hk.1.1, ⟨hk.2, hk.1.2⟩⟩)⟩, ⟨pk BK404.out⟩, ⟨by repeat (first | exact HB.out | apply ba_ | apply bN_ | apply b1_ | refine below_set ?_ GE404.out)⟩⟩
           ·
            rw [if_neg c28] at H
            exact absurd H (by simp)
          ·
           rw [if_neg c27] at H
           have c27b0 : ((rd t409 (rd t418 x27_1)) == 0) = false := beq_eq_false_iff_ne.mpr c27
           have c27b1 : ((rd t409 (rd t418 x27_1)) != 0) = true := bne_iff_ne.mpr c27
           (first | rw [c27b0] | (simp only [i64_w, i32_w]; rw [c27b0]) | rw [c27b1] | skip)
           replace H := Option.bind_eq_some_iff.mp H
           obtain ⟨⟨t431, t434⟩, A320, H⟩ := H
           replace H : ((spec_seNext.f k1 l0_0 a0_1 t409 t431 t434).bind fun t436 => (spec_seCount.l1 k1 t409 x5_1 x6_1 (rd t418 x27_1) t418 (t418.length : Int) x27_1 t436 (t436.length : Int) 0 l0_0 a0_1 t431 t434)) = some (r1, r2) := H
           have A32 := ak_ A320
           clear A320
           replace H := Option.bind_eq_some_iff.mp H
           obtain ⟨t436, A330, H⟩ := H
           replace H : (spec_seCount.l1 k1 t409 x5_1 x6_1 (rd t418 x27_1) t418 (t418.length : Int) x27_1 t436 (t436.length : Int) 0 l0_0 a0_1 t431 t434) = some (r1, r2) := H
           have A33 := ak_ A330
           clear A330
           have H' := ak_ H
           clear H
           have hcz34_0 : wr.cell? ⟨gb404, 0, none⟩ = some (.slice A0_0 l0_0.length c0_0) := (blk_cell BK404.out 0).trans rfl
           have hcz34_1 : wr.cell? ⟨gb404, 1, none⟩ = some (.int .i64 a0_1) := (blk_cell BK404.out 1).trans rfl
           have hfz34_0 := blk_frozen BK404.out 0
           have hfz34_1 := blk_frozen BK404.out 1
           go_wp2_with (first | ((with_reducible refine gate_callee (f := 94) rfl ?_); refine goesL_ (some 43) rfl rfl Try.func94 (by kernel_rfl) rfl #[.int .i64 (rd t418 x27_1), .int .i64 (l0_0.length : Int)] rfl (by first | rfl | (simp only [map_toArray, map_cons, map_nil]; try rfl)) ?_; (with_reducible refine (spec_seState.calls k1 (rd t418 x27_1) (l0_0.length : Int) t431 t434 _ A32.out).mono ?_); rintro e w35 ⟨v432, rfl, ho0, hb⟩; refine ⟨_, rfl, ?_⟩; have n0_ := ak_ (Kd.R_below (Kd.pR HO_4.out) hb); have n1_ := ak_ (Kd.R_below (Kd.pR HO_5.out) hb); have n2_ := ak_ (Kd.R_below (Kd.pR HO_6.out) hb); have n3_ := ak_ (Kd.R_below (Kd.pR HO_25.out) hb); have n4_ := ak_ (Kd.R_lower ho0 (bz_ (by repeat (first | exact HB.out | apply ba_ | apply bN_ | apply b1_ | refine below_set ?_ GE404.out)))); have n5_ := ak_ (blk_below (pk BK404.out) hb); have n6_ := ak_ (bs_ (by repeat (first | exact HB.out | apply ba_ | apply bN_ | apply b1_ | refine below_set ?_ GE404.out)) hb); clear HO_4; clear HO_5; clear HO_6; clear HO_25; clear BK404; clear HB; have HO_4 := n0_; have HO_5 := n1_; have HO_6 := n2_; have HO_25 := n3_; have HO433 := n4_; have BK404 := n5_; have HB := n6_; clear n0_ n1_ n2_ n3_ n4_ n5_ n6_; (try clear hb); (try clear hb2); (try clear hk); (try clear hi); (try clear ho0)) | ((with_reducible refine gate_dst (N := 9) rfl ?_); refine box_event ?hg (N := 9) ?hd (cs := #[.slice none 0 0, .bool false]) (t := 115) ?hr ?_; (case hd => rfl); (case hg => rfl); (case hr => go_simp <;> rfl); intro gb435 hg w36 hbox hb; have n0_ := ak_ (Kd.R_below (Kd.pR HO_4.out) hb); have n1_ := ak_ (Kd.R_below (Kd.pR HO_5.out) hb); have n2_ := ak_ (Kd.R_below (Kd.pR HO_6.out) hb); have n3_ := ak_ (Kd.R_below (Kd.pR HO_25.out) hb); have n4_ := ak_ (Kd.R_below (Kd.pR HO433.out) hb); have n5_ := ak_ (blk_below (pk BK404.out) hb); have n6_ := ak_ (bs_ (by repeat (first | exact HB.out | apply ba_ | apply bN_ | apply b1_ | refine below_set ?_ GE404.out)) hb); have n7_ := ak_ (hbox); have n8_ := ak_ ((by rw [hg]; exact (bz_ (by repeat (first | exact HB.out | apply ba_ | apply bN_ | apply b1_ | refine below_set ?_ GE404.out))) : w.heap.size ≤ gb435)); have n9_ := n8_; have n10_ := ak_ ((by rw [hg]; exact Nat.ne_of_lt (blk_lt (pk BK404.out)) : gb404 ≠ gb435)); have n11_ := ak_ n10_.out.symm; clear HO_4; clear HO_5; clear HO_6; clear HO_25; clear HO433; clear BK404; clear HB; have HO_4 := n0_; have HO_5 := n1_; have HO_6 := n2_; have HO_25 := n3_; have HO433 := n4_; have BK404 := n5_; have HB := n6_; have BK435 := n7_; have GW435 := n8_; have GE435 := n9_; have NB404_435 := n10_; have NB435_404 := n11_; clear n0_ n1_ n2_ n3_ n4_ n5_ n6_ n7_ n8_ n9_ n10_ n11_; clear hb hbox hg; obtain ⟨Ao37, co37, eo37⟩ := Kd.R_slice HO433.out; subst eo37; have hnb38 := NB435_404.out; have hnc38 := NB404_435.out; have hcz39_0 : w36.cell? ⟨gb435, 0, none⟩ = some (.slice none 0 0) := (blk_cell BK435.out 0).trans rfl; have hcz39_1 : w36.cell? ⟨gb435, 1, none⟩ = some (.bool false) := (blk_cell BK435.out 1).trans rfl; have hfz39_0 := blk_frozen BK435.out 0; have hfz39_1 := blk_frozen BK435.out 1; have hcz40_0 : w36.cell? ⟨gb404, 0, none⟩ = some (.slice A0_0 l0_0.length c0_0) := (blk_cell BK404.out 0).trans rfl; have hcz40_1 : w36.cell? ⟨gb404, 1, none⟩ = some (.int .i64 a0_1) := (blk_cell BK404.out 1).trans rfl; have hfz40_0 := blk_frozen BK404.out 0; have hfz40_1 := blk_frozen BK404.out 1) | ((with_reducible refine gate_callee (f := 95) rfl ?_); refine goesL_ (some 47) rfl rfl Try.func95 (by kernel_rfl) rfl #[.agg #[.slice A0_0 l0_0.length c0_0, .int .i64 a0_1], .slice (some ad429) t409.length co13, .agg #[.slice Ao37 t431.length co37, .bool t434]] rfl (by first | rfl | (simp only [map_toArray, map_cons, map_nil]; try rfl)) ?_; (with_reducible refine (spec_seNext.calls k1 _ _ l0_0 a0_1 _ _ t409 _ _ t431 t434 t436 _ ?side1 ?side2 ?side3 ?side4 ?side5 ?side6 A33.out).mono ?_); (case side1 => exact Kd.C_below HR0_0.out (by repeat (first | exact HB.out | apply ba_ | apply bN_ | apply b1_ | refine below_set ?_ (Aside0.out (by assumption))))); (case side2 => exact HC0_0.out); (case side3 => refine (Kd.R_reads' (e := 3) (base := w.heap.size) (ok := fun k_ => (some k_ ≠ (v413 : Value).ownBlock ∧ (some k_ ≠ (v416 : Value).ownBlock ∧ some k_ ≠ (.slice (some ad428) t418.length co20 : Value).ownBlock))) (n := t409.length) (c := co13) ?_).2.2; exact (by (with_reducible repeat (first | apply Kd.R_alloc | apply Kd.R_drewN | apply Kd.R_drew)); exact (Kd.R_mono (Kd.R_far (p := ⟨gb435, 1, none⟩) (Kd.R_far (p := ⟨gb435, 0, none⟩) (Kd.R_types HO_4.out BK435.out (by decide)) (fun _ hk => hk.2) (.slice Ao37 t431.length co37)) (fun _ hk => hk.2) (.bool t434)) (fun _ h_ => h_.1)))); (case side4 => exact (Kd.R_reads' HO_4.out).2.1); (case side5 => refine (Kd.R_reads' (e := 4) (base := w.heap.size) (ok := fun k_ => True) (n := t431.length) (c := co37) ?_).2.2; exact (by (with_reducible repeat (first | apply Kd.R_alloc | apply Kd.R_drewN | apply Kd.R_drew)); exact (Kd.R_mono (Kd.R_far (p := ⟨gb435, 1, none⟩) (Kd.R_far (p := ⟨gb435, 0, none⟩) (Kd.R_types HO433.out BK435.out (by decide)) (fun _ hk => hk.2) (.slice Ao37 t431.length co37)) (fun _ hk => hk.2) (.bool t434)) (fun _ h_ => h_.1)))); (case side6 => exact (Kd.R_reads' HO433.out).2.1); rintro e w41 ⟨v437, rfl, ho0, hb⟩; refine ⟨_, rfl, ?_⟩; have n0_ := ak_ (Kd.R_below (by (with_reducible repeat (first | apply Kd.R_alloc | apply Kd.R_drewN | apply Kd.R_drew)); exact (Kd.R_mono (Kd.R_far (p := ⟨gb435, 1, none⟩) (Kd.R_far (p := ⟨gb435, 0, none⟩) (Kd.R_types HO_4.out BK435.out (by decide)) (fun _ hk => hk.2) (.slice Ao37 t431.length co37)) (fun _ hk => hk.2) (.bool t434)) (fun _ h_ => h_.1))) hb); have n1_ := ak_ (Kd.R_below (by (with_reducible repeat (first | apply Kd.R_alloc | apply Kd.R_drewN | apply Kd.R_drew)); exact (Kd.R_mono (Kd.R_far (p := ⟨gb435, 1, none⟩) (Kd.R_far (p := ⟨gb435, 0, none⟩) (Kd.R_types HO_5.out BK435.out (by decide)) (fun _ hk => hk.2) (.slice Ao37 t431.length co37)) (fun _ hk => hk.2) (.bool t434)) (fun _ h_ => h_.1))) hb); have n2_ := ak_ (Kd.R_below (by (with_reducible repeat (first | apply Kd.R_alloc | apply Kd.R_drewN | apply Kd.R_drew)); exact (Kd.R_mono (Kd.R_far (p := ⟨gb435, 1, none⟩) (Kd.R_far (p := ⟨gb435, 0, none⟩) (Kd.R_types HO_6.out BK435.out (by decide)) (fun _ hk => hk.2) (.slice Ao37 t431.length co37)) (fun _ hk => hk.2) (.bool t434)) (fun _ h_ => h_.1))) hb); have n3_ := ak_ (Kd.R_below (by (with_reducible repeat (first | apply Kd.R_alloc | apply Kd.R_drewN | apply Kd.R_drew)); exact (Kd.R_mono (Kd.R_far (p := ⟨gb435, 1, none⟩) (Kd.R_far (p := ⟨gb435, 0, none⟩) (Kd.R_types HO_25.out BK435.out (by decide)) (fun _ hk => hk.2) (.slice Ao37 t431.length co37)) (fun _ hk => hk.2) (.bool t434)) (fun _ h_ => h_.1))) hb); have n4_ := ak_ (Kd.R_below (by (with_reducible repeat (first | apply Kd.R_alloc | apply Kd.R_drewN | apply Kd.R_drew)); exact (Kd.R_mono (Kd.R_far (p := ⟨gb435, 1, none⟩) (Kd.R_far (p := ⟨gb435, 0, none⟩) (Kd.R_types HO433.out BK435.out (by decide)) (fun _ hk => hk.2) (.slice Ao37 t431.length co37)) (fun _ hk => hk.2) (.bool t434)) (fun _ h_ => h_.1))) hb); have n5_ := ak_ (Kd.N_lower (Kd.N_mono (ok' := fun k_ => some k_ ≠ (.slice (some ad429) t409.length co13 : Value).ownBlock ∧ some k_ ≠ (v413 : Value).ownBlock ∧ some k_ ≠ (v416 : Value).ownBlock ∧ some k_ ≠ (.slice (some ad428) t418.length co20 : Value).ownBlock ∧ some k_ ≠ (.slice Ao37 t431.length co37 : Value).ownBlock ∧ k_ ≠ gb404 ∧ k_ ≠ gb435) ho0 (fun k_ hk_ => ⟨(Kd.fresh' (Kd.R_lt (by (with_reducible repeat (first | apply Kd.R_alloc | apply Kd.R_drewN | apply Kd.R_drew)); exact (Kd.R_mono (Kd.R_far (p := ⟨gb435, 1, none⟩) (Kd.R_far (p := ⟨gb435, 0, none⟩) (Kd.R_types HO_4.out BK435.out (by decide)) (fun _ hk => hk.2) (.slice Ao37 t431.length co37)) (fun _ hk => hk.2) (.bool t434)) (fun _ h_ => h_.1)))) k_ hk_), (Kd.fresh' (Kd.R_lt (by (with_reducible repeat (first | apply Kd.R_alloc | apply Kd.R_drewN | apply Kd.R_drew)); exact (Kd.R_mono (Kd.R_far (p := ⟨gb435, 1, none⟩) (Kd.R_far (p := ⟨gb435, 0, none⟩) (Kd.R_types HO_5.out BK435.out (by decide)) (fun _ hk => hk.2) (.slice Ao37 t431.length co37)) (fun _ hk => hk.2) (.bool t434)) (fun _ h_ => h_.1)))) k_ hk_), (Kd.fresh' (Kd.R_lt (by (with_reducible repeat (first | apply Kd.R_alloc | apply Kd.R_drewN | apply Kd.R_drew)); exact (Kd.R_mono (Kd.R_far (p := ⟨gb435, 1, none⟩) (Kd.R_far (p := ⟨gb435, 0, none⟩) (Kd.R_types HO_6.out BK435.out (by decide)) (fun _ hk => hk.2) (.slice Ao37 t431.length co37)) (fun _ hk => hk.2) (.bool t434)) (fun _ h_ => h_.1)))) k_ hk_), (Kd.fresh' (Kd.R_lt (by (with_reducible repeat (first | apply Kd.R_alloc | apply Kd.R_drewN | apply Kd.R_drew)); exact (Kd.R_mono (Kd.R_far (p := ⟨gb435, 1, none⟩) (Kd.R_far (p := ⟨gb435, 0, none⟩) (Kd.R_types HO_25.out BK435.out (by decide)) (fun _ hk => hk.2) (.slice Ao37 t431.length co37)) (fun _ hk => hk.2) (.bool t434)) (fun _ h_ => h_.1)))) k_ hk_), (Kd.fresh' (Kd.R_lt (by (with_reducible repeat (first | apply Kd.R_alloc | apply Kd.R_drewN | apply Kd.R_drew)); exact (Kd.R_mono (Kd.R_far (p := ⟨gb435, 1, none⟩) (Kd.R_far (p := ⟨gb435, 0, none⟩) (Kd.R_types HO433.out BK435.out (by decide)) (fun _ hk => hk.2) (.slice Ao37 t431.length co37)) (fun _ hk => hk.2) (.bool t434)) (fun _ h_ => h_.1)))) k_ hk_), (Kd.freshB (g := gb404) (o := .cells #[.slice A0_0 l0_0.length c0_0, .int .i64 a0_1] 34 (0, 0)) (by (with_reducible repeat (first | refine kN_ ?_ _ | refine k1_ ?_ | refine ka_ ?_ _)); refine blk_far ?_ NB404_435.out _; (with_reducible repeat (first | refine kN_ ?_ _ | refine k1_ ?_ | refine ka_ ?_ _)); refine blk_far ?_ NB404_435.out _; exact pk BK404.out) k_ hk_), (Kd.freshB (g := gb435) (o := .cells #[.slice Ao37 t431.length co37, .bool t434] 115 (0, 0)) (by (with_reducible repeat (first | refine kN_ ?_ _ | refine k1_ ?_ | refine ka_ ?_ _)); refine blk_put (cs := #[.slice Ao37 t431.length co37, .bool false]) ?_ 1 _ rfl; (with_reducible repeat (first | refine kN_ ?_ _ | refine k1_ ?_ | refine ka_ ?_ _)); refine blk_put (cs := #[.slice none 0 0, .bool false]) ?_ 0 _ rfl; exact pk BK435.out) k_ hk_)⟩)) (bz_ (by repeat (first | exact HB.out | apply ba_ | apply bN_ | apply b1_ | refine below_set ?_ (Aside0.out (by assumption)))))); have n6_ := ak_ (blk_below (g := gb404) (o := .cells #[.slice A0_0 l0_0.length c0_0, .int .i64 a0_1] 34 (0, 0)) (by (with_reducible repeat (first | refine kN_ ?_ _ | refine k1_ ?_ | refine ka_ ?_ _)); refine blk_far ?_ NB404_435.out _; (with_reducible repeat (first | refine kN_ ?_ _ | refine k1_ ?_ | refine ka_ ?_ _)); refine blk_far ?_ NB404_435.out _; exact pk BK404.out) hb); have n7_ := ak_ (blk_below (g := gb435) (o := .cells #[.slice Ao37 t431.length co37, .bool t434] 115 (0, 0)) (by (with_reducible repeat (first | refine kN_ ?_ _ | refine k1_ ?_ | refine ka_ ?_ _)); refine blk_put (cs := #[.slice Ao37 t431.length co37, .bool false]) ?_ 1 _ rfl; (with_reducible repeat (first | refine kN_ ?_ _ | refine k1_ ?_ | refine ka_ ?_ _)); refine blk_put (cs := #[.slice none 0 0, .bool false]) ?_ 0 _ rfl; exact pk BK435.out) hb); have n8_ := ak_ (bs_ (by repeat (first | exact HB.out | apply ba_ | apply bN_ | apply b1_ | refine below_set ?_ (Aside0.out (by assumption)))) hb); clear HO_4; clear HO_5; clear HO_6; clear HO_25; clear HO433; clear BK404; clear BK435; clear HB; have HO_4 := n0_; have HO_5 := n1_; have HO_6 := n2_; have HO_25 := n3_; have HO433 := n4_; have HO438 := n5_; have BK404 := n6_; have BK435 := n7_; have HB := n8_; clear n0_ n1_ n2_ n3_ n4_ n5_ n6_ n7_ n8_; (try clear hb); (try clear hb2); (try clear hk); (try clear hi); (try clear ho0); obtain ⟨Ao42, co42, eo42⟩ := Kd.N_slice HO438.out; subst eo42))
           go_loopg [49] k1 (fun kq v49 w' => ∃ (x5_2 : List Int) (x6_2 : List Int) (x49_2 : Int), v49 = .int .i64 x49_2 ∧ Aside0 (spec_seCount.l1 kq t409 x5_2 x6_2 (rd t418 x27_1) t418 (t418.length : Int) x27_1 t436 (t436.length : Int) x49_2 l0_0 a0_1 t431 t434 = some (r1, r2)) ∧ Aside0 (kq ≤ k1) ∧ Aside0 (Kd.R (Kd.int .i64) 3 w' w.heap.size (fun k_ => some k_ ≠ (v413 : Value).ownBlock ∧ some k_ ≠ (v416 : Value).ownBlock ∧ some k_ ≠ ((.slice (some ad428) t418.length co20) : Value).ownBlock) (.slice (some ad429) t409.length co13) t409) ∧ Aside0 (Kd.R (Kd.int .i64) 3 w' w.heap.size (fun k_ => some k_ ≠ ((.slice (some ad429) t409.length co13) : Value).ownBlock ∧ some k_ ≠ (v416 : Value).ownBlock ∧ some k_ ≠ ((.slice (some ad428) t418.length co20) : Value).ownBlock) v413 x5_2) ∧ Aside0 (Kd.R (Kd.int .i64) 3 w' w.heap.size (fun k_ => some k_ ≠ ((.slice (some ad429) t409.length co13) : Value).ownBlock ∧ some k_ ≠ (v413 : Value).ownBlock ∧ some k_ ≠ ((.slice (some ad428) t418.length co20) : Value).ownBlock) v416 x6_2) ∧ Aside0 (Kd.R (Kd.int .i64) 3 w' w.heap.size (fun k_ => some k_ ≠ ((.slice (some ad429) t409.length co13) : Value).ownBlock ∧ some k_ ≠ (v413 : Value).ownBlock ∧ some k_ ≠ (v416 : Value).ownBlock) (.slice (some ad428) t418.length co20) t418) ∧ Aside0 (Kd.N (Kd.slice 3 (Kd.int .i64)) 29 w' w.heap.size (fun k_ => some k_ ≠ ((.slice (some ad429) t409.length co13) : Value).ownBlock ∧ some k_ ≠ (v413 : Value).ownBlock ∧ some k_ ≠ (v416 : Value).ownBlock ∧ some k_ ≠ ((.slice (some ad428) t418.length co20) : Value).ownBlock ∧ some k_ ≠ ((.slice Ao37 t431.length co37) : Value).ownBlock ∧ k_ ≠ gb404 ∧ k_ ≠ gb435) (.slice Ao42 t436.length co42) t436) ∧ Aside0 (Kd.R Kd.bool 4 w' w.heap.size (fun _ => True) (.slice Ao37 t431.length co37) t431) ∧ Aside0 (w'.heap[gb404]? = some (.cells #[(.slice A0_0 l0_0.length c0_0), .int .i64 a0_1] 34 (0, 0))) ∧ Aside0 (w'.heap[gb435]? = some (.cells #[(.slice Ao37 t431.length co37), .bool t434] 115 (0, 0))) ∧ Aside0 (Below w.heap.size w w'))
           case atStart => exact ⟨(x5_1), (x6_1), (0), (by first | rfl | (simp; done) | (simp [*]; done)), H', ⟨Nat.le_refl _⟩, ⟨Kd.pR HO_4.out⟩, ⟨Kd.pR HO_5.out⟩, ⟨Kd.pR HO_6.out⟩, ⟨Kd.pR HO_25.out⟩, ⟨Kd.pN HO438.out⟩, ⟨Kd.pR HO433.out⟩, ⟨pk BK404.out⟩, ⟨pk BK435.out⟩, ⟨by repeat (first | exact HB.out | apply ba_ | apply bN_ | apply b1_ | refine below_set ?_ (Aside0.out (by assumption)))⟩⟩
           case round =>
            clear H'
            try clear c2
            try clear p2
            try clear q2
            try clear hx2
            try clear hf2
            try clear c3
            try clear c4
            try clear c4b0
            try clear c4b1
            try clear p4
            try clear q4
            try clear hx4
            try clear c5
            try clear c5b0
            try clear c5b1
            try clear p6
            try clear c8
            try clear c9
            try clear c21
            try clear c21b0
            try clear c22
            try clear c22b0
            try clear c23
            try clear c23b0
            try clear c24
            try clear c24b0
            try clear c25
            try clear c25b0
            try clear c27
            try clear c27b0
            try clear c27b1
            try clear c28
            try clear c28b0
            try clear p29
            try clear q29
            try clear hx29
            try clear hf29
            try clear c38
            try clear p42
            try clear q42
            try clear hx42
            try clear hcz34_0
            try clear hcz34_1
            try clear hcz39_0
            try clear hcz39_1
            try clear hcz40_0
            try clear hcz40_1
            try clear hfz34_0
            try clear hfz34_1
            try clear hfz39_0
            try clear hfz39_1
            try clear hfz40_0
            try clear hfz40_1
            try clear hx29_0
            try clear hx428_0
            try clear hx429_0
            try clear p2
            try clear p29
            try clear p428
            try clear p429
            try clear q29
            try clear q428
            try clear q429
            obtain ⟨x5_2, x6_2, x49_2, rfl, HA, HK2, HO_4, HO_5, HO_6, HO_25, HO_47, HO_436000, BK404, BK435, HB⟩ := hrel
            cases gk with
            | zero => exact absurd HA.out (by simp [spec_seCount.l1])
            | succ k2 =>
             have H := HA.out
             clear HA
             simp only [spec_seCount.l1] at H
             by_cases c43 : x49_2 < (t436.length : Int)
             ·
              rw [if_pos c43] at H
              have c43b0 : decide (x49_2 < (t436.length : Int)) = true := decide_eq_true c43
              clear c43
              by_cases c44 : 0 ≤ x49_2
              ·
               rw [if_pos c44] at H
               have c44b0 : decide (0 ≤ x49_2) = true := decide_eq_true c44
               clear c44
               by_cases c45 : x49_2 < (t436.length : Int)
               ·
                rw [if_pos c45] at H
                have c45b0 : decide (x49_2 < (t436.length : Int)) = true := decide_eq_true c45
                clear c45
                replace H := Option.bind_eq_some_iff.mp H
                obtain ⟨⟨t440, t443⟩, A460, H⟩ := H
                replace H : ((spec_seIndex.f k2 t440 t443).bind fun t444 => (if 0 ≤ (rd t418 x27_1) then (if (rd t418 x27_1) < (x5_2.length : Int) then (if 0 ≤ t444 then (if t444 < (x5_2.length : Int) then ((some (x5_2.set ((rd t418 x27_1) : Int).toNat (wrap64 ((rd x5_2 (rd t418 x27_1)) + (rd x5_2 t444))) : List Int)).bind fun y447 => (if (rd t418 x27_1) < (x6_2.length : Int) then (if (rd x6_2 (rd t418 x27_1)) = 0 then (if t444 < (x6_2.length : Int) then (spec_seCount.l1 k2 t409 y447 (x6_2.set ((rd t418 x27_1) : Int).toNat (wrap64 ((rd x6_2 t444) + 1))) (rd t418 x27_1) t418 (t418.length : Int) x27_1 t436 (t436.length : Int) (wrap64 (x49_2 + 1)) l0_0 a0_1 t431 t434) else (none)) else (if t444 < (x6_2.length : Int) then (if (wrap64 ((rd x6_2 t444) + 1)) < (rd x6_2 (rd t418 x27_1)) then (spec_seCount.l1 k2 t409 y447 (x6_2.set ((rd t418 x27_1) : Int).toNat (wrap64 ((rd x6_2 t444) + 1))) (rd t418 x27_1) t418 (t418.length : Int) x27_1 t436 (t436.length : Int) (wrap64 (x49_2 + 1)) l0_0 a0_1 t431 t434) else (spec_seCount.l1 k2 t409 y447 x6_2 (rd t418 x27_1) t418 (t418.length : Int) x27_1 t436 (t436.length : Int) (wrap64 (x49_2 + 1)) l0_0 a0_1 t431 t434)) else (none))) else (none))) else (none)) else (none)) else (none)) else (none))) = some (r1, r2) := H
                have A46 := ak_ A460
                clear A460
                replace H := Option.bind_eq_some_iff.mp H
                obtain ⟨t444, A470, H⟩ := H
                replace H : (if 0 ≤ (rd t418 x27_1) then (if (rd t418 x27_1) < (x5_2.length : Int) then (if 0 ≤ t444 then (if t444 < (x5_2.length : Int) then ((some (x5_2.set ((rd t418 x27_1) : Int).toNat (wrap64 ((rd x5_2 (rd t418 x27_1)) + (rd x5_2 t444))) : List Int)).bind fun y447 => (if (rd t418 x27_1) < (x6_2.length : Int) then (if (rd x6_2 (rd t418 x27_1)) = 0 then (if t444 < (x6_2.length : Int) then (spec_seCount.l1 k2 t409 y447 (x6_2.set ((rd t418 x27_1) : Int).toNat (wrap64 ((rd x6_2 t444) + 1))) (rd t418 x27_1) t418 (t418.length : Int) x27_1 t436 (t436.length : Int) (wrap64 (x49_2 + 1)) l0_0 a0_1 t431 t434) else (none)) else (if t444 < (x6_2.length : Int) then (if (wrap64 ((rd x6_2 t444) + 1)) < (rd x6_2 (rd t418 x27_1)) then (spec_seCount.l1 k2 t409 y447 (x6_2.set ((rd t418 x27_1) : Int).toNat (wrap64 ((rd x6_2 t444) + 1))) (rd t418 x27_1) t418 (t418.length : Int) x27_1 t436 (t436.length : Int) (wrap64 (x49_2 + 1)) l0_0 a0_1 t431 t434) else (spec_seCount.l1 k2 t409 y447 x6_2 (rd t418 x27_1) t418 (t418.length : Int) x27_1 t436 (t436.length : Int) (wrap64 (x49_2 + 1)) l0_0 a0_1 t431 t434)) else (none))) else (none))) else (none)) else (none)) else (none)) else (none)) = some (r1, r2) := H
                have A47 := ak_ A470
                clear A470
                by_cases c48 : 0 ≤ (rd t418 x27_1)
                ·
                 rw [if_pos c48] at H
                 have c48b0 : decide (0 ≤ (rd t418 x27_1)) = true := decide_eq_true c48
                 clear c48
                 by_cases c49 : (rd t418 x27_1) < (x5_2.length : Int)
                 ·
                  rw [if_pos c49] at H
                  have c49b0 : decide ((rd t418 x27_1) < (x5_2.length : Int)) = true := decide_eq_true c49
                  clear c49
                  by_cases c50 : 0 ≤ t444
                  ·
                   rw [if_pos c50] at H
                   have c50b0 : decide (0 ≤ t444) = true := decide_eq_true c50
                   clear c50
                   by_cases c51 : t444 < (x5_2.length : Int)
                   ·
                    rw [if_pos c51] at H
                    have c51b0 : decide (t444 < (x5_2.length : Int)) = true := decide_eq_true c51
                    clear c51
                    obtain ⟨y447, hy447⟩ : ∃ y_ : List Int, y_ = (x5_2.set ((rd t418 x27_1) : Int).toNat (wrap64 ((rd x5_2 (rd t418 x27_1)) + (rd x5_2 t444)))) := ⟨_, rfl⟩
                    replace H : (if (rd t418 x27_1) < (x6_2.length : Int) then (if (rd x6_2 (rd t418 x27_1)) = 0 then (if t444 < (x6_2.length : Int) then (spec_seCount.l1 k2 t409 y447 (x6_2.set ((rd t418 x27_1) : Int).toNat (wrap64 ((rd x6_2 t444) + 1))) (rd t418 x27_1) t418 (t418.length : Int) x27_1 t436 (t436.length : Int) (wrap64 (x49_2 + 1)) l0_0 a0_1 t431 t434) else (none)) else (if t444 < (x6_2.length : Int) then (if (wrap64 ((rd x6_2 t444) + 1)) < (rd x6_2 (rd t418 x27_1)) then (spec_seCount.l1 k2 t409 y447 (x6_2.set ((rd t418 x27_1) : Int).toNat (wrap64 ((rd x6_2 t444) + 1))) (rd t418 x27_1) t418 (t418.length : Int) x27_1 t436 (t436.length : Int) (wrap64 (x49_2 + 1)) l0_0 a0_1 t431 t434) else (spec_seCount.l1 k2 t409 y447 x6_2 (rd t418 x27_1) t418 (t418.length : Int) x27_1 t436 (t436.length : Int) (wrap64 (x49_2 + 1)) l0_0 a0_1 t431 t434)) else (none))) else (none)) = some (r1, r2) := by first | (rw [hy447]; exact H) | exact H
                    have Ny447 := ak_ hy447
                    clear hy447
                    have HC53 := ak_ H
                    clear H
                    have p439 : 0 ≤ (x49_2 : Int) := odt_ (by assumption)
                    have q439 : x49_2 < (t436.length : Int) := odt_ (by assumption)
                    obtain ⟨ad439, A439_0, c439_0, e439, hx439_0, hl439_0, hi439_0⟩ := at_L2 (Kd.N_reads' HO_47.out).2.2 x49_2 p439 q439
                    cases e439
                    obtain ⟨ce439, hce439, hMe439, hcc439⟩ := Kd.N_get HO_47.out [] x49_2 p439 (by first | exact q439 | exact odt_ (by assumption) | (have e_ := (Kd.N_reads' HO_47.out).1; omega))
                    obtain ⟨ua439_0, uc439_0, rfl, ul439_0, ge439_0⟩ := Kd.FK_slice_open hMe439
                    have hv439_0 := hcc439 0 _ rfl
                    rw [Nat.add_zero, show ((Kd.slice 3 (Kd.int .i64))).sz = 1 from rfl, Nat.mul_one] at hv439_0
                    replace hv439_0 := Option.some.inj (hv439_0.symm.trans hx439_0)
                    injection hv439_0 with hva_ hvn_ hvc_
                    rw [hva_] at ge439_0
                    rw [hvc_] at ul439_0
                    have HL439_0 := ak_ (show Kd.V (Kd.int .i64) 3 _ w.heap.size _ _ (rd_L2 t436 x49_2) from Kd.V_mk ul439_0 ge439_0)
                    clear hva_ hvn_ hvc_ ge439_0 ul439_0 hcc439 hce439
                    have HR439_0 := ak_ hi439_0
                    have HC439_0 := ak_ hl439_0
                    clear hi439_0 hl439_0
                    replace p439 := eq_true p439
                    replace q439 := eq_true q439
                    have hnb54 := NB435_404.out
                    have hnc54 := NB404_435.out
                    have hcz55_0 : wr.cell? ⟨gb435, 0, none⟩ = some (.slice Ao37 t431.length co37) := (blk_cell BK435.out 0).trans rfl
                    have hcz55_1 : wr.cell? ⟨gb435, 1, none⟩ = some (.bool t434) := (blk_cell BK435.out 1).trans rfl
                    have hfz55_0 := blk_frozen BK435.out 0
                    have hfz55_1 := blk_frozen BK435.out 1
                    try go_wp2_with (first | ((with_reducible refine gate_callee (f := 96) rfl ?_); refine goesL_ (some 55) rfl rfl Try.func96 (by kernel_rfl) rfl #[.agg #[.slice Ao37 t431.length co37, .bool t434], .slice A439_0 (rd_L2 t436 x49_2).length c439_0] rfl (by first | rfl | (simp only [map_toArray, map_cons, map_nil]; try rfl)) ?_; (with_reducible refine (spec_paCross.calls k2 _ _ t431 t434 _ _ (rd_L2 t436 x49_2) t440 t443 _ ?side1 ?side2 ?side3 ?side4 A46.out).mono ?_); (case side1 => repeat (first | exact (Kd.R_reads' HO_436000.out).2.2 | (with_reducible refine Kd.C_alloc ?_ _) | (with_reducible refine Kd.C_drewN ?_ _) | (with_reducible refine Kd.C_drew ?_))); (case side2 => exact (Kd.R_reads' HO_436000.out).2.1); (case side3 => repeat (first | exact (by repeat (first | (with_reducible exact HR439_0.out) | (with_reducible refine Kd.C_alloc ?_ _) | (with_reducible refine Kd.C_drewN ?_ _) | (with_reducible refine Kd.C_drew ?_) | exact HR439_0.out)) | (with_reducible refine Kd.C_alloc ?_ _) | (with_reducible refine Kd.C_drewN ?_ _) | (with_reducible refine Kd.C_drew ?_))); (case side4 => exact HC439_0.out); rintro e w56 ⟨v441, rfl, ho0, hb⟩; refine ⟨_, rfl, ?_⟩; have n0_ := ak_ (Kd.R_below (Kd.pR HO_4.out) hb); have n1_ := ak_ (Kd.R_below (Kd.pR HO_5.out) hb); have n2_ := ak_ (Kd.R_below (Kd.pR HO_6.out) hb); have n3_ := ak_ (Kd.R_below (Kd.pR HO_25.out) hb); have n4_ := ak_ (Kd.N_elder' (Kd.pN HO_47.out) (Kd.R_base ho0) hb); have n5_ := ak_ (Kd.R_elder' (Kd.pR HO_436000.out) (Kd.R_base ho0) hb); have n6_ := ak_ (Kd.V_elder' (Kd.pV HL439_0.out) (Kd.R_base ho0) hb); have n7_ := ak_ (Kd.R_lower (Kd.R_new' ho0 (Kd.R_lt (Kd.pR HO_436000.out))) (bz_ (by repeat (first | exact HB.out | apply ba_ | apply bN_ | apply b1_ | refine below_set ?_ (Aside0.out (by assumption)))))); have n8_ := ak_ (blk_below (pk BK404.out) hb); have n9_ := ak_ (blk_below (pk BK435.out) hb); have n10_ := ak_ (Kd.C_below (by repeat (first | (with_reducible exact HR439_0.out) | (with_reducible refine Kd.C_alloc ?_ _) | (with_reducible refine Kd.C_drewN ?_ _) | (with_reducible refine Kd.C_drew ?_) | exact HR439_0.out)) hb); have n11_ := ak_ (bs_ (by repeat (first | exact HB.out | apply ba_ | apply bN_ | apply b1_ | refine below_set ?_ (Aside0.out (by assumption)))) hb); clear HO_4; clear HO_5; clear HO_6; clear HO_25; clear HO_47; clear HO_436000; clear HL439_0; clear BK404; clear BK435; clear HR439_0; clear HB; have HO_4 := n0_; have HO_5 := n1_; have HO_6 := n2_; have HO_25 := n3_; have HO_47 := n4_; have HO_436000 := n5_; have HL439_0 := n6_; have HO442 := n7_; have BK404 := n8_; have BK435 := n9_; have HR439_0 := n10_; have HB := n11_; clear n0_ n1_ n2_ n3_ n4_ n5_ n6_ n7_ n8_ n9_ n10_ n11_; (try clear hb); (try clear hb2); (try clear hk); (try clear hi); (try clear ho0); obtain ⟨Ao57, co57, eo57⟩ := Kd.R_slice HO442.out; subst eo57) | ((with_reducible refine gate_callee (f := 91) rfl ?_); refine goesL_ (some 56) rfl rfl Try.func91 (by kernel_rfl) rfl #[.agg #[.slice Ao57 t440.length co57, .bool t443]] rfl (by first | rfl | (simp only [map_toArray, map_cons, map_nil]; try rfl)) ?_; (with_reducible refine (spec_seIndex.calls k2 _ _ t440 t443 t444 _ ?side1 ?side2 A47.out).mono ?_); (case side1 => repeat (first | exact (Kd.R_reads' HO442.out).2.2 | (with_reducible refine Kd.C_alloc ?_ _) | (with_reducible refine Kd.C_drewN ?_ _) | (with_reducible refine Kd.C_drew ?_))); (case side2 => exact (Kd.R_reads' HO442.out).2.1); rintro e w58 ⟨rfl, hb⟩; refine ⟨_, rfl, ?_⟩; have n0_ := ak_ (Kd.R_below (Kd.pR HO_4.out) hb); have n1_ := ak_ (Kd.R_below (Kd.pR HO_5.out) hb); have n2_ := ak_ (Kd.R_below (Kd.pR HO_6.out) hb); have n3_ := ak_ (Kd.R_below (Kd.pR HO_25.out) hb); have n4_ := ak_ (Kd.N_below (Kd.pN HO_47.out) hb); have n5_ := ak_ (Kd.R_below (Kd.pR HO_436000.out) hb); have n6_ := ak_ (Kd.V_below (Kd.pV HL439_0.out) hb); have n7_ := ak_ (Kd.R_below (Kd.pR HO442.out) hb); have n8_ := ak_ (blk_below (pk BK404.out) hb); have n9_ := ak_ (blk_below (pk BK435.out) hb); have n10_ := ak_ (Kd.C_below (by repeat (first | (with_reducible exact HR439_0.out) | (with_reducible refine Kd.C_alloc ?_ _) | (with_reducible refine Kd.C_drewN ?_ _) | (with_reducible refine Kd.C_drew ?_) | exact HR439_0.out)) hb); have n11_ := ak_ (bs_ (by repeat (first | exact HB.out | apply ba_ | apply bN_ | apply b1_ | refine below_set ?_ (Aside0.out (by assumption)))) hb); clear HO_4; clear HO_5; clear HO_6; clear HO_25; clear HO_47; clear HO_436000; clear HL439_0; clear HO442; clear BK404; clear BK435; clear HR439_0; clear HB; have HO_4 := n0_; have HO_5 := n1_; have HO_6 := n2_; have HO_25 := n3_; have HO_47 := n4_; have HO_436000 := n5_; have HL439_0 := n6_; have HO442 := n7_; have BK404 := n8_; have BK435 := n9_; have HR439_0 := n10_; have HB := n11_; clear n0_ n1_ n2_ n3_ n4_ n5_ n6_ n7_ n8_ n9_ n10_ n11_; (try clear hb); (try clear hb2); (try clear hk); (try clear hi)))
                    have n0_ := ak_ (Kd.R_drew HO_4.out)
                    have n1_ := ak_ (Kd.R_drew HO_5.out)
                    have n2_ := ak_ (Kd.R_drew HO_6.out)
                    have n3_ := ak_ (Kd.R_drew HO_25.out)
                    have n4_ := ak_ (Kd.N_drew HO_47.out)
                    have n5_ := ak_ (Kd.R_drew HO_436000.out)
                    have n6_ := ak_ (Kd.V_drew HL439_0.out)
                    have n7_ := ak_ (Kd.R_drew HO442.out)
                    have n8_ := ak_ (k1_ BK404.out)
                    have n9_ := ak_ (k1_ BK435.out)
                    have n10_ := ak_ (Kd.C_drew HR439_0.out)
                    have n11_ := ak_ (b1_ HB.out)
                    clear HO_4 HO_5 HO_6 HO_25 HO_47 HO_436000 HL439_0 HO442 BK404 BK435 HR439_0 HB
                    have HO_4 := n0_; have HO_5 := n1_; have HO_6 := n2_; have HO_25 := n3_; have HO_47 := n4_; have HO_436000 := n5_; have HL439_0 := n6_; have HO442 := n7_; have BK404 := n8_; have BK435 := n9_; have HR439_0 := n10_; have HB := n11_
                    clear n0_ n1_ n2_ n3_ n4_ n5_ n6_ n7_ n8_ n9_ n10_ n11_
                    obtain ⟨Ao60, co60, eo60⟩ := Kd.R_slice HO_5.out
                    (first | subst eo60 | (injection eo60 with f1_ f2_ f3_; have f4_ := f1_.symm; have f5_ := f3_.symm; clear f1_ f2_ f3_; subst f4_; subst f5_))
                    have p445 : 0 ≤ ((rd t418 x27_1) : Int) := odt_ (by assumption)
                    have q445 : (rd t418 x27_1) < (x5_2.length : Int) := odt_ (by assumption)
                    obtain ⟨ad445, e445, hx445_0⟩ := Kd.at_int (Kd.R_reads' HO_5.out).2.2 (rd t418 x27_1) p445 q445
                    cases e445
                    replace p445 := eq_true p445
                    replace q445 := eq_true q445
                    have p446 : 0 ≤ (t444 : Int) := odt_ (by assumption)
                    have q446 : t444 < (x5_2.length : Int) := odt_ (by assumption)
                    obtain ⟨ad446, e446, hx446_0⟩ := Kd.at_int (Kd.R_reads' HO_5.out).2.2 t444 p446 q446
                    obtain rfl : ad445 = ad446 := (by injection e446)
                    replace p446 := eq_true p446
                    replace q446 := eq_true q446
                    have p52 : 0 ≤ ((rd t418 x27_1) : Int) := odt_ (by assumption)
                    have q52 : ((rd t418 x27_1) : Int) < ((x5_2.length : Int) : Int) := odt_ (by assumption)
                    obtain ⟨go52, co52, eo52, gb52, gl52, cl52, HG52⟩ := Kd.R_form HO_5.out (by omega)
                    (first | cases eo52 | (injection eo52 with ea_ en_ ec_; (first | subst ea_ | (injection ea_ with ea_; subst ea_)); subst ec_; clear en_))
                    have GB52 := ak_ gb52
                    have GG52 := ak_ HG52
                    clear gb52 gl52 HG52
                    (first | simp only [add_plain] at hx445_0 | skip)
                    (first | simp only [add_plain] at hx446_0 | skip)
                    obtain ⟨hx52_0, hf52_0⟩ := Kd.R_celln 0 HO_5.out ((rd t418 x27_1) : Int) p52 q52
                    replace p52 := eq_true p52
                    replace q52 := eq_true q52
                    have HP61 := Kd.R_putn HO_5.out ((rd t418 x27_1) : Int) (wrap64 ((rd x5_2 (rd t418 x27_1)) + (rd x5_2 t444)))
                    rw [← Ny447.out] at HP61
                    have HQ61 := ak_ HP61
                    clear HP61
                    refine start_ (n := 11) (S := fun w' => w'.cell? ⟨go52, ((rd t418 x27_1)).toNat, none⟩ = some (.int .i64 (rd x5_2 (rd t418 x27_1))) ∧ w'.cell? ⟨go52, (t444).toNat, none⟩ = some (.int .i64 (rd x5_2 t444))) (ds := [10]) (mb_ 11 0) (by kernel_rfl) rfl rfl ⟨hx445_0, hx446_0⟩ (fun hHeld => ?_); refine with_tabW spec_seCount.tab13 spec_seCount.bits13 (fun HT_ HW_ => ?_)
                    generalize w58.drew = w59 at HO_4 HO_5 HO_6 HO_25 HO_47 HO_436000 HL439_0 HO442 BK404 BK435 HR439_0 HB GG52 HQ61 hf52_0 hx445_0 hx446_0 hx52_0 hHeld ⊢
                    refine pure_ (i := 0) (N := some 57) (v := ?_) (a' := ?_) (mb_ 11 1) rfl rfl (any_of HT_.out (by kernel_rfl)) (fun _ _ _ h => h) (Or.inl ⟨by rfl, ?_⟩) ?_ ?_
                    rotate_left
                    ·
                     intro w'
                     go_simp
                     with_reducible rfl
                    rotate_left
                    ·
                     simp only [Act.put, setIfInBounds_toArray, set_cons_zero, set_cons_succ, i64_w, i32_w]
                     rfl
                    refine pure_ (i := 1) (N := some 58) (v := ?_) (a' := ?_) (mb_ 11 3) rfl rfl (any_of HT_.out (by kernel_rfl)) (fun _ _ _ h => h) (Or.inl ⟨by rfl, ?_⟩) ?_ ?_
                    rotate_left
                    ·
                     intro w'
                     go_simp
                     with_reducible rfl
                    rotate_left
                    ·
                     simp only [Act.put, setIfInBounds_toArray, set_cons_zero, set_cons_succ, i64_w, i32_w]
                     rfl
                    refine pure_ (i := 2) (N := some 59) (v := ?_) (a' := ?_) (mb_ 11 7) rfl rfl (any_of HT_.out (by kernel_rfl)) (fun _ _ _ h => h) (Or.inl ⟨by rfl, ?_⟩) ?_ ?_
                    rotate_left
                    ·
                     intro w'
                     go_simp
                     with_reducible rfl
                    rotate_left
                    ·
                     simp only [Act.put, setIfInBounds_toArray, set_cons_zero, set_cons_succ, i64_w, i32_w]
                     rfl
                    refine pure_ (i := 4) (N := some 61) (v := ?_) (a' := ?_) (mb_ 11 23) rfl rfl (any_of HT_.out (by kernel_rfl)) (fun _ _ _ h => h) (Or.inl ⟨by rfl, ?_⟩) ?_ ?_
                    rotate_left
                    ·
                     intro w'
                     go_simp
                     with_reducible rfl
                    rotate_left
                    ·
                     simp only [Act.put, setIfInBounds_toArray, set_cons_zero, set_cons_succ, i64_w, i32_w]
                     rfl
                    refine pure_ (i := 5) (N := some 62) (v := ?_) (a' := ?_) (mb_ 11 55) rfl rfl (any_of HT_.out (by kernel_rfl)) (fun _ _ _ h => h) (Or.inl ⟨by rfl, ?_⟩) ?_ ?_
                    rotate_left
                    ·
                     intro w'
                     go_simp
                     with_reducible rfl
                    rotate_left
                    ·
                     simp only [Act.put, setIfInBounds_toArray, set_cons_zero, set_cons_succ, i64_w, i32_w]
                     rfl
                    refine pure_ (i := 6) (N := some 63) (v := ?_) (a' := ?_) (mb_ 11 119) rfl rfl (any_of HT_.out (by kernel_rfl)) (fun _ _ _ h => h) (Or.inl ⟨by rfl, ?_⟩) ?_ ?_
                    rotate_left
                    ·
                     intro w'
                     go_simp
                     with_reducible rfl
                    rotate_left
                    ·
                     simp only [Act.put, setIfInBounds_toArray, set_cons_zero, set_cons_succ, i64_w, i32_w]
                     rfl
                    refine take_ (i := 3) (N := some 60) (v := ?_) (a' := ?_) (mb_ 11 127) rfl rfl (take_ofW HT_.out HW_.out (by kernel_rfl)) (fun _ _ _ h => h) (Or.inl ⟨by rfl, ?_⟩) hHeld ?_ ?_
                    rotate_left
                    ·
                     rintro w' ⟨s0, s1⟩
                     go_simp
                     with_reducible rfl
                    rotate_left
                    ·
                     simp only [Act.put, setIfInBounds_toArray, set_cons_zero, set_cons_succ, i64_w, i32_w]
                     rfl
                    refine take_ (i := 7) (N := some 64) (v := ?_) (a' := ?_) (mb_ 11 255) rfl rfl (take_ofW HT_.out HW_.out (by kernel_rfl)) (fun _ _ _ h => h) (Or.inl ⟨by rfl, ?_⟩) hHeld ?_ ?_
                    rotate_left
                    ·
                     rintro w' ⟨s0, s1⟩
                     go_simp
                     with_reducible rfl
                    rotate_left
                    ·
                     simp only [Act.put, setIfInBounds_toArray, set_cons_zero, set_cons_succ, i64_w, i32_w]
                     rfl
                    refine pure_ (i := 8) (N := some 65) (v := ?_) (a' := ?_) (mb_ 11 511) rfl rfl (any_of HT_.out (by kernel_rfl)) (fun _ _ _ h => h) (Or.inl ⟨by rfl, ?_⟩) ?_ ?_
                    rotate_left
                    ·
                     intro w'
                     go_simp
                     with_reducible rfl
                    rotate_left
                    ·
                     simp only [Act.put, setIfInBounds_toArray, set_cons_zero, set_cons_succ, i64_w, i32_w]
                     rfl
                    refine pure_ (i := 9) (N := some 66) (v := ?_) (a' := ?_) (mb_ 11 1023) rfl rfl (any_of HT_.out (by kernel_rfl)) (fun _ _ _ h => h) (Or.inl ⟨by rfl, ?_⟩) ?_ ?_
                    rotate_left
                    ·
                     intro w'
                     go_simp
                     with_reducible rfl
                    rotate_left
                    ·
                     simp only [Act.put, setIfInBounds_toArray, set_cons_zero, set_cons_succ, i64_w, i32_w]
                     rfl
                    refine last_ (i := 10) (N := none) (mb_ 11 2047) rfl rfl (one_of HT_.out (by kernel_rfl)) (by decide) (fun K hK => ?_)
                    refine skip_ (w1 := ?_) (by rfl) rfl ?_ ?_
                    rotate_left
                    ·
                     go_simp
                     rfl
                    refine hK.out _ _ ?_
                    clear hK K
                    refine done_ (done_of HT_.out (by kernel_rfl)) ?_
                    go_upto_region 14 with (fail)
                    have H := HC53.out
                    clear HC53
                    by_cases c62 : (rd t418 x27_1) < (x6_2.length : Int)
                    ·
                     rw [if_pos c62] at H
                     have c62b0 : decide ((rd t418 x27_1) < (x6_2.length : Int)) = true := decide_eq_true c62
                     clear c62
                     by_cases c63 : (rd x6_2 (rd t418 x27_1)) = 0
                     ·
                      rw [if_pos c63] at H
                      have c63b0 : ((rd x6_2 (rd t418 x27_1)) == 0) = true := beq_iff_eq.mpr c63
                      have c63b1 : ((rd x6_2 (rd t418 x27_1)) != 0) = false := bne_eq_false_iff_eq.mpr c63
                      clear c63
                      by_cases c64 : t444 < (x6_2.length : Int)
                      ·
                       rw [if_pos c64] at H
                       have c64b0 : decide (t444 < (x6_2.length : Int)) = true := decide_eq_true c64
                       clear c64
                       obtain ⟨y450, hy450⟩ : ∃ y_ : List Int, y_ = (x6_2.set ((rd t418 x27_1) : Int).toNat (wrap64 ((rd x6_2 t444) + 1))) := ⟨_, rfl⟩
                       replace H : (spec_seCount.l1 k2 t409 y447 y450 (rd t418 x27_1) t418 (t418.length : Int) x27_1 t436 (t436.length : Int) (wrap64 (x49_2 + 1)) l0_0 a0_1 t431 t434) = some (r1, r2) := by first | (rw [hy450]; exact H) | exact H
                       have Ny450 := ak_ hy450
                       clear hy450
                       have H' := ak_ H
                       clear H
                       try go_wp2
                       have n0_ : Aside0 (Kd.R (Kd.int .i64) 3 (w59.setCell ⟨go52, ((rd t418 x27_1) : Int).toNat, none⟩ (.int .i64 (wrap64 ((rd x5_2 (rd t418 x27_1)) + (rd x5_2 t444))))) w.heap.size (fun k_ => some k_ ≠ (.slice (some ⟨go52, 0, none⟩) x5_2.length co60 : Value).ownBlock ∧ some k_ ≠ (v416 : Value).ownBlock ∧ some k_ ≠ (.slice (some ad428) t418.length co20 : Value).ownBlock) (.slice (some ad429) t409.length co13) t409) := ⟨by (with_reducible repeat (first | apply Kd.R_alloc | apply Kd.R_drewN | apply Kd.R_drew)); exact Kd.R_mono (Kd.R_far (p := ⟨go52, ((rd t418 x27_1) : Int).toNat, none⟩) (Kd.R_mono HO_4.out (fun k_ hk => (⟨hk, fun e_ => hk.1 (by rw [e_]; rfl)⟩ : _ ∧ k_ ≠ go52))) (fun _ hk => hk.2) (.int .i64 (wrap64 ((rd x5_2 (rd t418 x27_1)) + (rd x5_2 t444))))) (fun _ hk => ⟨hk.1.1, ⟨hk.1.2.1, hk.1.2.2⟩⟩)⟩
                       have n1_ : Aside0 (Kd.R (Kd.int .i64) 3 (w59.setCell ⟨go52, ((rd t418 x27_1) : Int).toNat, none⟩ (.int .i64 (wrap64 ((rd x5_2 (rd t418 x27_1)) + (rd x5_2 t444))))) w.heap.size (fun k_ => some k_ ≠ (.slice (some ad429) t409.length co13 : Value).ownBlock ∧ some k_ ≠ (v416 : Value).ownBlock ∧ some k_ ≠ (.slice (some ad428) t418.length co20 : Value).ownBlock) (.slice (some ⟨go52, 0, none⟩) x5_2.length co60) y447) := ⟨Kd.pR HQ61.out⟩
                       have n2_ : Aside0 (Kd.R (Kd.int .i64) 3 (w59.setCell ⟨go52, ((rd t418 x27_1) : Int).toNat, none⟩ (.int .i64 (wrap64 ((rd x5_2 (rd t418 x27_1)) + (rd x5_2 t444))))) w.heap.size (fun k_ => some k_ ≠ (.slice (some ad429) t409.length co13 : Value).ownBlock ∧ some k_ ≠ (.slice (some ⟨go52, 0, none⟩) x5_2.length co60 : Value).ownBlock ∧ some k_ ≠ (.slice (some ad428) t418.length co20 : Value).ownBlock) v416 x6_2) := ⟨by (with_reducible repeat (first | apply Kd.R_alloc | apply Kd.R_drewN | apply Kd.R_drew)); exact Kd.R_mono (Kd.R_far (p := ⟨go52, ((rd t418 x27_1) : Int).toNat, none⟩) (Kd.R_mono HO_6.out (fun k_ hk => (⟨hk, fun e_ => hk.2.1 (by rw [e_]; rfl)⟩ : _ ∧ k_ ≠ go52))) (fun _ hk => hk.2) (.int .i64 (wrap64 ((rd x5_2 (rd t418 x27_1)) + (rd x5_2 t444))))) (fun _ hk => ⟨hk.1.1, ⟨hk.1.2.1, hk.1.2.2⟩⟩)⟩
                       have n3_ : Aside0 (Kd.R (Kd.int .i64) 3 (w59.setCell ⟨go52, ((rd t418 x27_1) : Int).toNat, none⟩ (.int .i64 (wrap64 ((rd x5_2 (rd t418 x27_1)) + (rd x5_2 t444))))) w.heap.size (fun k_ => some k_ ≠ (.slice (some ad429) t409.length co13 : Value).ownBlock ∧ some k_ ≠ (.slice (some ⟨go52, 0, none⟩) x5_2.length co60 : Value).ownBlock ∧ some k_ ≠ (v416 : Value).ownBlock) (.slice (some ad428) t418.length co20) t418) := ⟨by (with_reducible repeat (first | apply Kd.R_alloc | apply Kd.R_drewN | apply Kd.R_drew)); exact Kd.R_mono (Kd.R_far (p := ⟨go52, ((rd t418 x27_1) : Int).toNat, none⟩) (Kd.R_mono HO_25.out (fun k_ hk => (⟨hk, fun e_ => hk.2.1 (by rw [e_]; rfl)⟩ : _ ∧ k_ ≠ go52))) (fun _ hk => hk.2) (.int .i64 (wrap64 ((rd x5_2 (rd t418 x27_1)) + (rd x5_2 t444))))) (fun _ hk => ⟨hk.1.1, ⟨hk.1.2.1, hk.1.2.2⟩⟩)⟩
                       have n4_ : Aside0 (Kd.N (Kd.slice 3 (Kd.int .i64)) 29 (w59.setCell ⟨go52, ((rd t418 x27_1) : Int).toNat, none⟩ (.int .i64 (wrap64 ((rd x5_2 (rd t418 x27_1)) + (rd x5_2 t444))))) w.heap.size (fun k_ => some k_ ≠ (.slice (some ad429) t409.length co13 : Value).ownBlock ∧ some k_ ≠ (.slice (some ⟨go52, 0, none⟩) x5_2.length co60 : Value).ownBlock ∧ some k_ ≠ (v416 : Value).ownBlock ∧ some k_ ≠ (.slice (some ad428) t418.length co20 : Value).ownBlock ∧ some k_ ≠ (.slice Ao37 t431.length co37 : Value).ownBlock ∧ some k_ ≠ (.slice Ao57 t440.length co57 : Value).ownBlock ∧ k_ ≠ gb404 ∧ k_ ≠ gb435) (.slice (some ad439) t436.length co42) t436) := ⟨by (with_reducible repeat (first | apply Kd.N_alloc | apply Kd.N_drewN | apply Kd.N_drew)); exact Kd.N_mono (Kd.N_far (p := ⟨go52, ((rd t418 x27_1) : Int).toNat, none⟩) (Kd.N_mono HO_47.out (fun k_ hk => (⟨hk, fun e_ => hk.1.2.1 (by rw [e_]; rfl)⟩ : _ ∧ k_ ≠ go52))) (fun _ hk => hk.2) (.int .i64 (wrap64 ((rd x5_2 (rd t418 x27_1)) + (rd x5_2 t444))))) (fun _ hk => ⟨hk.1.1.1, ⟨hk.1.1.2.1, ⟨hk.1.1.2.2.1, ⟨hk.1.1.2.2.2.1, ⟨hk.1.1.2.2.2.2.1, ⟨hk.1.2, ⟨hk.1.1.2.2.2.2.2.1, hk.1.1.2.2.2.2.2.2⟩⟩⟩⟩⟩⟩⟩)⟩
                       have n5_ : Aside0 (Kd.R Kd.bool 4 (w59.setCell ⟨go52, ((rd t418 x27_1) : Int).toNat, none⟩ (.int .i64 (wrap64 ((rd x5_2 (rd t418 x27_1)) + (rd x5_2 t444))))) w.heap.size (fun k_ => some k_ ≠ (.slice Ao57 t440.length co57 : Value).ownBlock) (.slice Ao37 t431.length co37) t431) := ⟨by (with_reducible repeat (first | apply Kd.R_alloc | apply Kd.R_drewN | apply Kd.R_drew)); exact Kd.R_mono (Kd.R_far (p := ⟨go52, ((rd t418 x27_1) : Int).toNat, none⟩) (Kd.R_types HO_436000.out GG52.out (by decide)) (fun _ hk => hk.2) (.int .i64 (wrap64 ((rd x5_2 (rd t418 x27_1)) + (rd x5_2 t444))))) (fun _ hk => hk.1.2)⟩
                       have n6_ : Aside0 (Kd.V (Kd.int .i64) 3 (w59.setCell ⟨go52, ((rd t418 x27_1) : Int).toNat, none⟩ (.int .i64 (wrap64 ((rd x5_2 (rd t418 x27_1)) + (rd x5_2 t444))))) w.heap.size (fun k_ => some k_ ≠ (.slice (some ad429) t409.length co13 : Value).ownBlock ∧ some k_ ≠ (.slice (some ⟨go52, 0, none⟩) x5_2.length co60 : Value).ownBlock ∧ some k_ ≠ (v416 : Value).ownBlock ∧ some k_ ≠ (.slice (some ad428) t418.length co20 : Value).ownBlock ∧ some k_ ≠ (.slice (some ad439) t436.length co42 : Value).ownBlock ∧ some k_ ≠ (.slice Ao37 t431.length co37 : Value).ownBlock ∧ some k_ ≠ (.slice Ao57 t440.length co57 : Value).ownBlock ∧ k_ ≠ gb404 ∧ k_ ≠ gb435) (.slice A439_0 (rd_L2 t436 x49_2).length c439_0) (rd_L2 t436 x49_2)) := ⟨by (with_reducible repeat (first | apply Kd.V_alloc | apply Kd.V_drewN | apply Kd.V_drew)); exact Kd.V_mono (Kd.V_far (p := ⟨go52, ((rd t418 x27_1) : Int).toNat, none⟩) (Kd.V_mono HL439_0.out (fun k_ hk => (⟨hk, fun e_ => hk.1.1.2.1 (by rw [e_]; rfl)⟩ : _ ∧ k_ ≠ go52))) (fun _ hk => hk.2) (.int .i64 (wrap64 ((rd x5_2 (rd t418 x27_1)) + (rd x5_2 t444))))) (fun _ hk => ⟨hk.1.1.1.1, ⟨hk.1.1.1.2.1, ⟨hk.1.1.1.2.2.1, ⟨hk.1.1.1.2.2.2.1, ⟨hk.1.1.2, ⟨hk.1.1.1.2.2.2.2.1, ⟨hk.1.2, ⟨hk.1.1.1.2.2.2.2.2.1, hk.1.1.1.2.2.2.2.2.2⟩⟩⟩⟩⟩⟩⟩⟩)⟩
                       have n7_ : Aside0 (Kd.R Kd.bool 4 (w59.setCell ⟨go52, ((rd t418 x27_1) : Int).toNat, none⟩ (.int .i64 (wrap64 ((rd x5_2 (rd t418 x27_1)) + (rd x5_2 t444))))) w.heap.size (fun k_ => some k_ ≠ (.slice Ao37 t431.length co37 : Value).ownBlock) (.slice Ao57 t440.length co57) t440) := ⟨by (with_reducible repeat (first | apply Kd.R_alloc | apply Kd.R_drewN | apply Kd.R_drew)); exact Kd.R_mono (Kd.R_far (p := ⟨go52, ((rd t418 x27_1) : Int).toNat, none⟩) (Kd.R_types HO442.out GG52.out (by decide)) (fun _ hk => hk.2) (.int .i64 (wrap64 ((rd x5_2 (rd t418 x27_1)) + (rd x5_2 t444))))) (fun _ hk => hk.1.2)⟩
                       have n8_ : Aside0 ((w59.setCell ⟨go52, ((rd t418 x27_1) : Int).toNat, none⟩ (.int .i64 (wrap64 ((rd x5_2 (rd t418 x27_1)) + (rd x5_2 t444))))).heap[gb404]? = some (.cells #[.slice A0_0 l0_0.length c0_0, .int .i64 a0_1] 34 (0, 0))) := ⟨by (with_reducible repeat (first | refine kN_ ?_ _ | refine k1_ ?_ | refine ka_ ?_ _)); refine blk_far ?_ (by have h_ := Kd.R_ne HO_5.out BK404.out (by decide); intro e_; exact h_ (by rw [e_]; rfl)) _; exact pk BK404.out⟩
                       have n9_ : Aside0 ((w59.setCell ⟨go52, ((rd t418 x27_1) : Int).toNat, none⟩ (.int .i64 (wrap64 ((rd x5_2 (rd t418 x27_1)) + (rd x5_2 t444))))).heap[gb435]? = some (.cells #[.slice Ao37 t431.length co37, .bool t434] 115 (0, 0))) := ⟨by (with_reducible repeat (first | refine kN_ ?_ _ | refine k1_ ?_ | refine ka_ ?_ _)); refine blk_far ?_ (by have h_ := Kd.R_ne HO_5.out BK435.out (by decide); intro e_; exact h_ (by rw [e_]; rfl)) _; exact pk BK435.out⟩
                       have n10_ : Aside0 (Below w.heap.size w (w59.setCell ⟨go52, ((rd t418 x27_1) : Int).toNat, none⟩ (.int .i64 (wrap64 ((rd x5_2 (rd t418 x27_1)) + (rd x5_2 t444)))))) := ⟨by repeat (first | exact HB.out | apply ba_ | apply bN_ | apply b1_ | refine below_set ?_ GB52.out | refine below_set ?_ (Aside0.out (by assumption)))⟩
                       (try clear HO_4)
                       (try clear HO_5)
                       (try clear HO_6)
                       (try clear HO_25)
                       (try clear HO_47)
                       (try clear HO_436000)
                       (try clear HL439_0)
                       (try clear HO442)
                       (try clear BK404)
                       (try clear BK435)
                       (try clear HB)
                       generalize (w59.setCell ⟨go52, ((rd t418 x27_1) : Int).toNat, none⟩ (.int .i64 (wrap64 ((rd x5_2 (rd t418 x27_1)) + (rd x5_2 t444))))) = w66 at n0_ n1_ n2_ n3_ n4_ n5_ n6_ n7_ n8_ n9_ n10_ ⊢
                       have HO_4 := n0_; have HO_5 := n1_; have HO_6 := n2_; have HO_25 := n3_; have HO_47 := n4_; have HO_436000 := n5_; have HL439_0 := n6_; have HO442 := n7_; have BK404 := n8_; have BK435 := n9_; have HB := n10_
                       clear n0_ n1_ n2_ n3_ n4_ n5_ n6_ n7_ n8_ n9_ n10_
                       have n0_ := ak_ (Kd.R_drew HO_4.out)
                       have n1_ := ak_ (Kd.R_drew HO_5.out)
                       have n2_ := ak_ (Kd.R_drew HO_6.out)
                       have n3_ := ak_ (Kd.R_drew HO_25.out)
                       have n4_ := ak_ (Kd.N_drew HO_47.out)
                       have n5_ := ak_ (Kd.R_drew HO_436000.out)
                       have n6_ := ak_ (Kd.V_drew HL439_0.out)
                       have n7_ := ak_ (Kd.R_drew HO442.out)
                       have n8_ := ak_ (k1_ BK404.out)
                       have n9_ := ak_ (k1_ BK435.out)
                       have n10_ := ak_ (b1_ HB.out)
                       clear HO_4 HO_5 HO_6 HO_25 HO_47 HO_436000 HL439_0 HO442 BK404 BK435 HB
                       have HO_4 := n0_; have HO_5 := n1_; have HO_6 := n2_; have HO_25 := n3_; have HO_47 := n4_; have HO_436000 := n5_; have HL439_0 := n6_; have HO442 := n7_; have BK404 := n8_; have BK435 := n9_; have HB := n10_
                       clear n0_ n1_ n2_ n3_ n4_ n5_ n6_ n7_ n8_ n9_ n10_
                       obtain ⟨Ao68, co68, eo68⟩ := Kd.R_slice HO_6.out
                       (first | subst eo68 | (injection eo68 with f1_ f2_ f3_; have f4_ := f1_.symm; have f5_ := f3_.symm; clear f1_ f2_ f3_; subst f4_; subst f5_))
                       have p448 : 0 ≤ ((rd t418 x27_1) : Int) := odt_ (by assumption)
                       have q448 : (rd t418 x27_1) < (x6_2.length : Int) := odt_ (by assumption)
                       obtain ⟨ad448, e448, hx448_0⟩ := Kd.at_int (Kd.R_reads' HO_6.out).2.2 (rd t418 x27_1) p448 q448
                       cases e448
                       replace p448 := eq_true p448
                       replace q448 := eq_true q448
                       refine start_ (n := 17) (S := fun w' => w'.cell? (ad448.add ((rd t418 x27_1)).toNat) = some (.int .i64 (rd x6_2 (rd t418 x27_1)))) (ds := []) (mb_ 17 0) (by kernel_rfl) rfl rfl (hx448_0) (fun hHeld => ?_); refine with_tabW spec_seCount.tab14 spec_seCount.bits14 (fun HT_ HW_ => ?_)
                       generalize w66.drew = w67 at HO_4 HO_5 HO_6 HO_25 HO_47 HO_436000 HL439_0 HO442 BK404 BK435 HB HQ61 hx448_0 hHeld ⊢
                       refine pure_ (i := 0) (N := some 67) (v := ?_) (a' := ?_) (mb_ 17 1) rfl rfl (any_of HT_.out (by kernel_rfl)) (fun _ _ _ h => h) (Or.inl ⟨by rfl, ?_⟩) ?_ ?_
                       rotate_left
                       ·
                        intro w'
                        go_simp
                        with_reducible rfl
                       rotate_left
                       ·
                        simp only [Act.put, setIfInBounds_toArray, set_cons_zero, set_cons_succ, i64_w, i32_w]
                        rfl
                       refine pure_ (i := 1) (N := some 68) (v := ?_) (a' := ?_) (mb_ 17 3) rfl rfl (any_of HT_.out (by kernel_rfl)) (fun _ _ _ h => h) (Or.inl ⟨by rfl, ?_⟩) ?_ ?_
                       rotate_left
                       ·
                        intro w'
                        go_simp
                        with_reducible rfl
                       rotate_left
                       ·
                        simp only [Act.put, setIfInBounds_toArray, set_cons_zero, set_cons_succ, i64_w, i32_w]
                        rfl
                       refine pure_ (i := 2) (N := some 69) (v := ?_) (a' := ?_) (mb_ 17 7) rfl rfl (any_of HT_.out (by kernel_rfl)) (fun _ _ _ h => h) (Or.inl ⟨by rfl, ?_⟩) ?_ ?_
                       rotate_left
                       ·
                        intro w'
                        go_simp
                        with_reducible rfl
                       rotate_left
                       ·
                        simp only [Act.put, setIfInBounds_toArray, set_cons_zero, set_cons_succ, i64_w, i32_w]
                        rfl
                       refine take_ (i := 3) (N := some 70) (v := ?_) (a' := ?_) (mb_ 17 15) rfl rfl (take_ofW HT_.out HW_.out (by kernel_rfl)) (fun _ _ _ h => h) (Or.inl ⟨by rfl, ?_⟩) hHeld ?_ ?_
                       rotate_left
                       ·
                        intro w' s0
                        go_simp
                        with_reducible rfl
                       rotate_left
                       ·
                        simp only [Act.put, setIfInBounds_toArray, set_cons_zero, set_cons_succ, i64_w, i32_w]
                        rfl
                       refine pure_ (i := 4) (N := some 71) (v := ?_) (a' := ?_) (mb_ 17 31) rfl rfl (any_of HT_.out (by kernel_rfl)) (fun _ _ _ h => h) (Or.inl ⟨by rfl, ?_⟩) ?_ ?_
                       rotate_left
                       ·
                        intro w'
                        go_simp
                        with_reducible rfl
                       rotate_left
                       ·
                        simp only [Act.put, setIfInBounds_toArray, set_cons_zero, set_cons_succ, i64_w, i32_w]
                        rfl
                       refine pure_ (i := 5) (N := some 72) (v := ?_) (a' := ?_) (mb_ 17 63) rfl rfl (any_of HT_.out (by kernel_rfl)) (fun _ _ _ h => h) (Or.inl ⟨by rfl, ?_⟩) ?_ ?_
                       rotate_left
                       ·
                        intro w'
                        go_simp
                        with_reducible rfl
                       rotate_left
                       ·
                        simp only [Act.put, setIfInBounds_toArray, set_cons_zero, set_cons_succ, i64_w, i32_w]
                        rfl
                       refine pure_ (i := 6) (N := some 73) (v := undef) (a' := ?_) (mb_ 17 127) rfl rfl (any_of HT_.out (by kernel_rfl)) (fun _ _ _ h => h) (Or.inr ⟨by rfl, rfl⟩) ?_ ?_
                       rotate_left
                       ·
                        simp only [Act.put, setIfInBounds_toArray, set_cons_zero, set_cons_succ, i64_w, i32_w]
                        rfl
                       refine pure_ (i := 7) (N := some 74) (v := undef) (a' := ?_) (mb_ 17 255) rfl rfl (any_of HT_.out (by kernel_rfl)) (fun _ _ _ h => h) (Or.inr ⟨by rfl, rfl⟩) ?_ ?_
                       rotate_left
                       ·
                        simp only [Act.put, setIfInBounds_toArray, set_cons_zero, set_cons_succ, i64_w, i32_w]
                        rfl
                       refine pure_ (i := 8) (N := some 75) (v := undef) (a' := ?_) (mb_ 17 511) rfl rfl (any_of HT_.out (by kernel_rfl)) (fun _ _ _ h => h) (Or.inr ⟨by rfl, rfl⟩) ?_ ?_
                       rotate_left
                       ·
                        simp only [Act.put, setIfInBounds_toArray, set_cons_zero, set_cons_succ, i64_w, i32_w]
                        rfl
                       refine pure_ (i := 9) (N := some 76) (v := undef) (a' := ?_) (mb_ 17 1023) rfl rfl (any_of HT_.out (by kernel_rfl)) (fun _ _ _ h => h) (Or.inr ⟨by rfl, rfl⟩) ?_ ?_
                       rotate_left
                       ·
                        simp only [Act.put, setIfInBounds_toArray, set_cons_zero, set_cons_succ, i64_w, i32_w]
                        rfl
                       refine pure_ (i := 10) (N := some 77) (v := undef) (a' := ?_) (mb_ 17 2047) rfl rfl (any_of HT_.out (by kernel_rfl)) (fun _ _ _ h => h) (Or.inr ⟨by rfl, rfl⟩) ?_ ?_
                       rotate_left
                       ·
                        simp only [Act.put, setIfInBounds_toArray, set_cons_zero, set_cons_succ, i64_w, i32_w]
                        rfl
                       refine pure_ (i := 11) (N := some 78) (v := undef) (a' := ?_) (mb_ 17 4095) rfl rfl (any_of HT_.out (by kernel_rfl)) (fun _ _ _ h => h) (Or.inr ⟨by rfl, rfl⟩) ?_ ?_
                       rotate_left
                       ·
                        simp only [Act.put, setIfInBounds_toArray, set_cons_zero, set_cons_succ, i64_w, i32_w]
                        rfl
                       refine pure_ (i := 12) (N := some 79) (v := undef) (a' := ?_) (mb_ 17 8191) rfl rfl (any_of HT_.out (by kernel_rfl)) (fun _ _ _ h => h) (Or.inr ⟨by rfl, rfl⟩) ?_ ?_
                       rotate_left
                       ·
                        simp only [Act.put, setIfInBounds_toArray, set_cons_zero, set_cons_succ, i64_w, i32_w]
                        rfl
                       refine pure_ (i := 13) (N := some 80) (v := undef) (a' := ?_) (mb_ 17 16383) rfl rfl (any_of HT_.out (by kernel_rfl)) (fun _ _ _ h => h) (Or.inr ⟨by rfl, rfl⟩) ?_ ?_
                       rotate_left
                       ·
                        simp only [Act.put, setIfInBounds_toArray, set_cons_zero, set_cons_succ, i64_w, i32_w]
                        rfl
                       refine pure_ (i := 14) (N := some 81) (v := undef) (a' := ?_) (mb_ 17 32767) rfl rfl (any_of HT_.out (by kernel_rfl)) (fun _ _ _ h => h) (Or.inr ⟨by rfl, rfl⟩) ?_ ?_
                       rotate_left
                       ·
                        simp only [Act.put, setIfInBounds_toArray, set_cons_zero, set_cons_succ, i64_w, i32_w]
                        rfl
                       refine pure_ (i := 15) (N := some 82) (v := undef) (a' := ?_) (mb_ 17 65535) rfl rfl (any_of HT_.out (by kernel_rfl)) (fun _ _ _ h => h) (Or.inr ⟨by rfl, rfl⟩) ?_ ?_
                       rotate_left
                       ·
                        simp only [Act.put, setIfInBounds_toArray, set_cons_zero, set_cons_succ, i64_w, i32_w]
                        rfl
                       refine pure_ (i := 16) (N := some 83) (v := ?_) (a' := ?_) (mb_ 17 131071) rfl rfl (any_of HT_.out (by kernel_rfl)) (fun _ _ _ h => h) (Or.inl ⟨by rfl, ?_⟩) ?_ ?_
                       rotate_left
                       ·
                        intro w'
                        go_simp
                        with_reducible rfl
                       rotate_left
                       ·
                        simp only [Act.put, setIfInBounds_toArray, set_cons_zero, set_cons_succ, i64_w, i32_w]
                        rfl
                       refine done_ (done_of HT_.out (by kernel_rfl)) ?_
                       have p449 : 0 ≤ (t444 : Int) := odt_ (by assumption)
                       have q449 : t444 < (x6_2.length : Int) := odt_ (by assumption)
                       obtain ⟨ad449, e449, hx449_0⟩ := Kd.at_int (Kd.R_reads' HO_6.out).2.2 t444 p449 q449
                       obtain rfl : ad448 = ad449 := (by injection e449)
                       replace p449 := eq_true p449
                       replace q449 := eq_true q449
                       have p65 : 0 ≤ ((rd t418 x27_1) : Int) := odt_ (by assumption)
                       have q65 : ((rd t418 x27_1) : Int) < ((x6_2.length : Int) : Int) := odt_ (by assumption)
                       obtain ⟨go65, co65, eo65, gb65, gl65, cl65, HG65⟩ := Kd.R_form HO_6.out (by omega)
                       (first | cases eo65 | (injection eo65 with ea_ en_ ec_; (first | subst ea_ | (injection ea_ with ea_; subst ea_)); subst ec_; clear en_))
                       have GB65 := ak_ gb65
                       have GG65 := ak_ HG65
                       clear gb65 gl65 HG65
                       (first | simp only [add_plain] at hx448_0 | skip)
                       (first | simp only [add_plain] at hx449_0 | skip)
                       obtain ⟨hx65_0, hf65_0⟩ := Kd.R_celln 0 HO_6.out ((rd t418 x27_1) : Int) p65 q65
                       replace p65 := eq_true p65
                       replace q65 := eq_true q65
                       obtain ⟨hy69_, hz69_⟩ := Kd.R_celln 0 HO_6.out ((rd t418 x27_1) : Int) (odt_ (by assumption)) (odt_ (by assumption))
                       have HP69 := Kd.R_putg HO_6.out ((rd t418 x27_1) : Int) (wrap64 ((rd x6_2 t444) + 1))
                       try go_wp2_with (first | ((with_reducible refine gate_store (t := 3) (p := 91) rfl ?_); refine store_event (t := 3) (p := 91) (v := ?vo_w70) (w1 := (w67.setCell ⟨go65, ((rd t418 x27_1) : Int).toNat, none⟩ (.int .i64 (wrap64 ((rd x6_2 t444) + 1))))) ?hg ?ho ?hn ?hr ?_; (case ho => rfl); (case hg => rfl); (case hn => rfl); (case hr => go_simp <;> rfl); intro w70 hw; have hg : w67.grownBy w70 (some go65) := (by rw [hw]; exact HP69.2); have hp_ : Kd.R (Kd.int .i64) 3 w70 w.heap.size (fun k_ => some k_ ≠ (.slice (some ad429) t409.length co13 : Value).ownBlock ∧ some k_ ≠ (.slice (some ⟨go52, 0, none⟩) x5_2.length co60 : Value).ownBlock ∧ some k_ ≠ (.slice (some ad428) t418.length co20 : Value).ownBlock) (.slice (some ⟨go65, 0, none⟩) x6_2.length co68) y450 := (by rw [hw, Ny450.out]; exact HP69.1); clear HP69; have n0_ := ak_ (Kd.R_after (v := (.slice (some ⟨go65, 0, none⟩) x6_2.length co68)) (v1 := (.slice (some ⟨go65, 0, none⟩) x6_2.length co68)) (ok := (fun k_ => some k_ ≠ (.slice (some ⟨go52, 0, none⟩) x5_2.length co60 : Value).ownBlock ∧ some k_ ≠ (.slice (some ad428) t418.length co20 : Value).ownBlock)) (by (with_reducible repeat (first | apply Kd.R_alloc | apply Kd.R_drewN | apply Kd.R_drew)); exact Kd.R_mono HO_4.out (fun _ hk => ⟨⟨hk.1, hk.2.2⟩, hk.2.1⟩)) hg (.inl rfl)); have n1_ := ak_ (Kd.R_after (v := (.slice (some ⟨go65, 0, none⟩) x6_2.length co68)) (v1 := (.slice (some ⟨go65, 0, none⟩) x6_2.length co68)) (ok := (fun k_ => some k_ ≠ (.slice (some ad429) t409.length co13 : Value).ownBlock ∧ some k_ ≠ (.slice (some ad428) t418.length co20 : Value).ownBlock)) (by (with_reducible repeat (first | apply Kd.R_alloc | apply Kd.R_drewN | apply Kd.R_drew)); exact Kd.R_mono HO_5.out (fun _ hk => ⟨⟨hk.1, hk.2.2⟩, hk.2.1⟩)) hg (.inl rfl)); have n2_ := ak_ (hp_); have n3_ := ak_ (Kd.R_after (v := (.slice (some ⟨go65, 0, none⟩) x6_2.length co68)) (v1 := (.slice (some ⟨go65, 0, none⟩) x6_2.length co68)) (ok := (fun k_ => some k_ ≠ (.slice (some ad429) t409.length co13 : Value).ownBlock ∧ some k_ ≠ (.slice (some ⟨go52, 0, none⟩) x5_2.length co60 : Value).ownBlock)) (by (with_reducible repeat (first | apply Kd.R_alloc | apply Kd.R_drewN | apply Kd.R_drew)); exact Kd.R_mono HO_25.out (fun _ hk => ⟨⟨hk.1, hk.2.1⟩, hk.2.2⟩)) hg (.inl rfl)); have n4_ := ak_ (Kd.N_afterv (v := (.slice (some ⟨go65, 0, none⟩) x6_2.length co68)) (v1 := (.slice (some ⟨go65, 0, none⟩) x6_2.length co68)) (ok := (fun k_ => some k_ ≠ (.slice (some ad429) t409.length co13 : Value).ownBlock ∧ some k_ ≠ (.slice (some ⟨go52, 0, none⟩) x5_2.length co60 : Value).ownBlock ∧ some k_ ≠ (.slice (some ad428) t418.length co20 : Value).ownBlock ∧ some k_ ≠ (.slice Ao37 t431.length co37 : Value).ownBlock ∧ some k_ ≠ (.slice Ao57 t440.length co57 : Value).ownBlock ∧ k_ ≠ gb404 ∧ k_ ≠ gb435)) (by (with_reducible repeat (first | apply Kd.N_alloc | apply Kd.N_drewN | apply Kd.N_drew)); exact Kd.N_mono HO_47.out (fun _ hk => ⟨⟨hk.1, ⟨hk.2.1, ⟨hk.2.2.2.1, ⟨hk.2.2.2.2.1, ⟨hk.2.2.2.2.2.1, ⟨hk.2.2.2.2.2.2.1, hk.2.2.2.2.2.2.2⟩⟩⟩⟩⟩⟩, hk.2.2.1⟩)) hg (.inl rfl)); have n5_ := ak_ (Kd.R_over' (v := (.slice (some ⟨go65, 0, none⟩) x6_2.length co68)) (Kd.pR HO_436000.out) (Kd.R_typed HO_6.out) (by decide) hg); have n6_ := ak_ (blk_grown (pk BK404.out) hg (Kd.R_ne HO_6.out BK404.out (by decide))); have n7_ := ak_ (blk_grown (pk BK435.out) hg (Kd.R_ne HO_6.out BK435.out (by decide))); have n8_ := ak_ (Kd.V_afterv (v := (.slice (some ⟨go65, 0, none⟩) x6_2.length co68)) (v1 := (.slice (some ⟨go65, 0, none⟩) x6_2.length co68)) (ok := (fun k_ => some k_ ≠ (.slice (some ad429) t409.length co13 : Value).ownBlock ∧ some k_ ≠ (.slice (some ⟨go52, 0, none⟩) x5_2.length co60 : Value).ownBlock ∧ some k_ ≠ (.slice (some ad428) t418.length co20 : Value).ownBlock ∧ some k_ ≠ (.slice (some ad439) t436.length co42 : Value).ownBlock ∧ some k_ ≠ (.slice Ao37 t431.length co37 : Value).ownBlock ∧ some k_ ≠ (.slice Ao57 t440.length co57 : Value).ownBlock ∧ k_ ≠ gb404 ∧ k_ ≠ gb435)) (by (with_reducible repeat (first | apply Kd.V_alloc | apply Kd.V_drewN | apply Kd.V_drew)); exact Kd.V_mono HL439_0.out (fun _ hk => ⟨⟨hk.1, ⟨hk.2.1, ⟨hk.2.2.2.1, ⟨hk.2.2.2.2.1, ⟨hk.2.2.2.2.2.1, ⟨hk.2.2.2.2.2.2.1, ⟨hk.2.2.2.2.2.2.2.1, hk.2.2.2.2.2.2.2.2⟩⟩⟩⟩⟩⟩⟩, hk.2.2.1⟩)) hg (.inl rfl)); have n9_ := ak_ (Kd.R_over' (v := (.slice (some ⟨go65, 0, none⟩) x6_2.length co68)) (Kd.pR HO442.out) (Kd.R_typed HO_6.out) (by decide) hg); have n10_ := ak_ ((by rw [hw]; exact below_set (HB.out) GB65.out : Below w.heap.size w w70)); clear HO_4; clear HO_5; clear HO_6; clear HO_25; clear HO_47; clear HO_436000; clear BK404; clear BK435; clear HL439_0; clear HO442; clear HB; have HO_4 := n0_; have HO_5 := n1_; have HO_6 := n2_; have HO_25 := n3_; have HO_47 := n4_; have HO_436000 := n5_; have BK404 := n6_; have BK435 := n7_; have HL439_0 := n8_; have HO442 := n9_; have HB := n10_; clear n0_ n1_ n2_ n3_ n4_ n5_ n6_ n7_ n8_ n9_ n10_; clear hg hw hp_))
                       go_roundg k2
                       case measure => have := HK1.out; have := HK2.out; omega
                       case rel => exact ⟨(y447), (y450), (wrap64 (x49_2 + 1)), (by first | rfl | (simp; done) | (simp [*]; done)), H', ⟨by have := HK1.out; have := HK2.out; omega⟩, ⟨by (with_reducible repeat (first | apply Kd.R_alloc | apply Kd.R_drewN | apply Kd.R_drew)); exact Kd.R_mono HO_4.out (fun _ hk => ⟨hk.1.1, ⟨hk.2, hk.1.2⟩⟩)⟩, ⟨by (with_reducible repeat (first | apply Kd.R_alloc | apply Kd.R_drewN | apply Kd.R_drew)); exact Kd.R_mono HO_5.out (fun _ hk => ⟨hk.1.1, ⟨hk.2, hk.1.2⟩⟩)⟩, ⟨Kd.pR HO_6.out⟩, ⟨by (with_reducible repeat (first | apply Kd.R_alloc | apply Kd.R_drewN | apply Kd.R_drew)); exact Kd.R_mono HO_25.out (fun _ hk => ⟨hk.1.1, ⟨hk.1.2, hk.2⟩⟩)⟩, ⟨by (with_reducible repeat (first | apply Kd.N_alloc | apply Kd.N_drewN | apply Kd.N_drew)); exact Kd.N_mono HO_47.out (fun _ hk => ⟨hk.1.1, ⟨hk.1.2.1, ⟨hk.2, ⟨hk.1.2.2.1, ⟨hk.1.2.2.2.1, ⟨hk.1.2.2.2.2.2.1, hk.1.2.2.2.2.2.2⟩⟩⟩⟩⟩⟩)⟩, ⟨by (with_reducible repeat (first | apply Kd.R_alloc | apply Kd.R_drewN | apply Kd.R_drew)); exact Kd.R_mono HO_436000.out (fun _ hk => trivial)⟩, ⟨pk BK404.out⟩, ⟨pk BK435.out⟩, ⟨by repeat (first | exact HB.out | apply ba_ | apply bN_ | apply b1_ | refine below_set ?_ (Aside0.out (by assumption)))⟩⟩
                      ·
                       rw [if_neg c64] at H
                       exact absurd H (by simp)
                     ·
                      rw [if_neg c63] at H
                      have c63b0 : ((rd x6_2 (rd t418 x27_1)) == 0) = false := beq_eq_false_iff_ne.mpr c63
                      have c63b1 : ((rd x6_2 (rd t418 x27_1)) != 0) = true := bne_iff_ne.mpr c63
                      by_cases c71 : t444 < (x6_2.length : Int)
                      ·
                       rw [if_pos c71] at H
                       have c71b0 : decide (t444 < (x6_2.length : Int)) = true := decide_eq_true c71
                       clear c71
                       have HC72 := ak_ H
                       clear H
                       try go_wp2
                       have n0_ : Aside0 (Kd.R (Kd.int .i64) 3 (w59.setCell ⟨go52, ((rd t418 x27_1) : Int).toNat, none⟩ (.int .i64 (wrap64 ((rd x5_2 (rd t418 x27_1)) + (rd x5_2 t444))))) w.heap.size (fun k_ => some k_ ≠ (.slice (some ⟨go52, 0, none⟩) x5_2.length co60 : Value).ownBlock ∧ some k_ ≠ (v416 : Value).ownBlock ∧ some k_ ≠ (.slice (some ad428) t418.length co20 : Value).ownBlock) (.slice (some ad429) t409.length co13) t409) := ⟨by (with_reducible repeat (first | apply Kd.R_alloc | apply Kd.R_drewN | apply Kd.R_drew)); exact Kd.R_mono (Kd.R_far (p := ⟨go52, ((rd t418 x27_1) : Int).toNat, none⟩) (Kd.R_mono HO_4.out (fun k_ hk => (⟨hk, fun e_ => hk.1 (by rw [e_]; rfl)⟩ : _ ∧ k_ ≠ go52))) (fun _ hk => hk.2) (.int .i64 (wrap64 ((rd x5_2 (rd t418 x27_1)) + (rd x5_2 t444))))) (fun _ hk => ⟨hk.1.1, ⟨hk.1.2.1, hk.1.2.2⟩⟩)⟩
                       have n1_ : Aside0 (Kd.R (Kd.int .i64) 3 (w59.setCell ⟨go52, ((rd t418 x27_1) : Int).toNat, none⟩ (.int .i64 (wrap64 ((rd x5_2 (rd t418 x27_1)) + (rd x5_2 t444))))) w.heap.size (fun k_ => some k_ ≠ (.slice (some ad429) t409.length co13 : Value).ownBlock ∧ some k_ ≠ (v416 : Value).ownBlock ∧ some k_ ≠ (.slice (some ad428) t418.length co20 : Value).ownBlock) (.slice (some ⟨go52, 0, none⟩) x5_2.length co60) y447) := ⟨Kd.pR HQ61.out⟩
                       have n2_ : Aside0 (Kd.R (Kd.int .i64) 3 (w59.setCell ⟨go52, ((rd t418 x27_1) : Int).toNat, none⟩ (.int .i64 (wrap64 ((rd x5_2 (rd t418 x27_1)) + (rd x5_2 t444))))) w.heap.size (fun k_ => some k_ ≠ (.slice (some ad429) t409.length co13 : Value).ownBlock ∧ some k_ ≠ (.slice (some ⟨go52, 0, none⟩) x5_2.length co60 : Value).ownBlock ∧ some k_ ≠ (.slice (some ad428) t418.length co20 : Value).ownBlock) v416 x6_2) := ⟨by (with_reducible repeat (first | apply Kd.R_alloc | apply Kd.R_drewN | apply Kd.R_drew)); exact Kd.R_mono (Kd.R_far (p := ⟨go52, ((rd t418 x27_1) : Int).toNat, none⟩) (Kd.R_mono HO_6.out (fun k_ hk => (⟨hk, fun e_ => hk.2.1 (by rw [e_]; rfl)⟩ : _ ∧ k_ ≠ go52))) (fun _ hk => hk.2) (.int .i64 (wrap64 ((rd x5_2 (rd t418 x27_1)) + (rd x5_2 t444))))) (fun _ hk => ⟨hk.1.1, ⟨hk.1.2.1, hk.1.2.2⟩⟩)⟩
                       have n3_ : Aside0 (Kd.R (Kd.int .i64) 3 (w59.setCell ⟨go52, ((rd t418 x27_1) : Int).toNat, none⟩ (.int .i64 (wrap64 ((rd x5_2 (rd t418 x27_1)) + (rd x5_2 t444))))) w.heap.size (fun k_ => some k_ ≠ (.slice (some ad429) t409.length co13 : Value).ownBlock ∧ some k_ ≠ (.slice (some ⟨go52, 0, none⟩) x5_2.length co60 : Value).ownBlock ∧ some k_ ≠ (v416 : Value).ownBlock) (.slice (some ad428) t418.length co20) t418) := ⟨by (with_reducible repeat (first | apply Kd.R_alloc | apply Kd.R_drewN | apply Kd.R_drew)); exact Kd.R_mono (Kd.R_far (p := ⟨go52, ((rd t418 x27_1) : Int).toNat, none⟩) (Kd.R_mono HO_25.out (fun k_ hk => (⟨hk, fun e_ => hk.2.1 (by rw [e_]; rfl)⟩ : _ ∧ k_ ≠ go52))) (fun _ hk => hk.2) (.int .i64 (wrap64 ((rd x5_2 (rd t418 x27_1)) + (rd x5_2 t444))))) (fun _ hk => ⟨hk.1.1, ⟨hk.1.2.1, hk.1.2.2⟩⟩)⟩
                       have n4_ : Aside0 (Kd.N (Kd.slice 3 (Kd.int .i64)) 29 (w59.setCell ⟨go52, ((rd t418 x27_1) : Int).toNat, none⟩ (.int .i64 (wrap64 ((rd x5_2 (rd t418 x27_1)) + (rd x5_2 t444))))) w.heap.size (fun k_ => some k_ ≠ (.slice (some ad429) t409.length co13 : Value).ownBlock ∧ some k_ ≠ (.slice (some ⟨go52, 0, none⟩) x5_2.length co60 : Value).ownBlock ∧ some k_ ≠ (v416 : Value).ownBlock ∧ some k_ ≠ (.slice (some ad428) t418.length co20 : Value).ownBlock ∧ some k_ ≠ (.slice Ao37 t431.length co37 : Value).ownBlock ∧ some k_ ≠ (.slice Ao57 t440.length co57 : Value).ownBlock ∧ k_ ≠ gb404 ∧ k_ ≠ gb435) (.slice (some ad439) t436.length co42) t436) := ⟨by (with_reducible repeat (first | apply Kd.N_alloc | apply Kd.N_drewN | apply Kd.N_drew)); exact Kd.N_mono (Kd.N_far (p := ⟨go52, ((rd t418 x27_1) : Int).toNat, none⟩) (Kd.N_mono HO_47.out (fun k_ hk => (⟨hk, fun e_ => hk.1.2.1 (by rw [e_]; rfl)⟩ : _ ∧ k_ ≠ go52))) (fun _ hk => hk.2) (.int .i64 (wrap64 ((rd x5_2 (rd t418 x27_1)) + (rd x5_2 t444))))) (fun _ hk => ⟨hk.1.1.1, ⟨hk.1.1.2.1, ⟨hk.1.1.2.2.1, ⟨hk.1.1.2.2.2.1, ⟨hk.1.1.2.2.2.2.1, ⟨hk.1.2, ⟨hk.1.1.2.2.2.2.2.1, hk.1.1.2.2.2.2.2.2⟩⟩⟩⟩⟩⟩⟩)⟩
                       have n5_ : Aside0 (Kd.R Kd.bool 4 (w59.setCell ⟨go52, ((rd t418 x27_1) : Int).toNat, none⟩ (.int .i64 (wrap64 ((rd x5_2 (rd t418 x27_1)) + (rd x5_2 t444))))) w.heap.size (fun k_ => some k_ ≠ (.slice Ao57 t440.length co57 : Value).ownBlock) (.slice Ao37 t431.length co37) t431) := ⟨by (with_reducible repeat (first | apply Kd.R_alloc | apply Kd.R_drewN | apply Kd.R_drew)); exact Kd.R_mono (Kd.R_far (p := ⟨go52, ((rd t418 x27_1) : Int).toNat, none⟩) (Kd.R_types HO_436000.out GG52.out (by decide)) (fun _ hk => hk.2) (.int .i64 (wrap64 ((rd x5_2 (rd t418 x27_1)) + (rd x5_2 t444))))) (fun _ hk => hk.1.2)⟩
                       have n6_ : Aside0 (Kd.V (Kd.int .i64) 3 (w59.setCell ⟨go52, ((rd t418 x27_1) : Int).toNat, none⟩ (.int .i64 (wrap64 ((rd x5_2 (rd t418 x27_1)) + (rd x5_2 t444))))) w.heap.size (fun k_ => some k_ ≠ (.slice (some ad429) t409.length co13 : Value).ownBlock ∧ some k_ ≠ (.slice (some ⟨go52, 0, none⟩) x5_2.length co60 : Value).ownBlock ∧ some k_ ≠ (v416 : Value).ownBlock ∧ some k_ ≠ (.slice (some ad428) t418.length co20 : Value).ownBlock ∧ some k_ ≠ (.slice (some ad439) t436.length co42 : Value).ownBlock ∧ some k_ ≠ (.slice Ao37 t431.length co37 : Value).ownBlock ∧ some k_ ≠ (.slice Ao57 t440.length co57 : Value).ownBlock ∧ k_ ≠ gb404 ∧ k_ ≠ gb435) (.slice A439_0 (rd_L2 t436 x49_2).length c439_0) (rd_L2 t436 x49_2)) := ⟨by (with_reducible repeat (first | apply Kd.V_alloc | apply Kd.V_drewN | apply Kd.V_drew)); exact Kd.V_mono (Kd.V_far (p := ⟨go52, ((rd t418 x27_1) : Int).toNat, none⟩) (Kd.V_mono HL439_0.out (fun k_ hk => (⟨hk, fun e_ => hk.1.1.2.1 (by rw [e_]; rfl)⟩ : _ ∧ k_ ≠ go52))) (fun _ hk => hk.2) (.int .i64 (wrap64 ((rd x5_2 (rd t418 x27_1)) + (rd x5_2 t444))))) (fun _ hk => ⟨hk.1.1.1.1, ⟨hk.1.1.1.2.1, ⟨hk.1.1.1.2.2.1, ⟨hk.1.1.1.2.2.2.1, ⟨hk.1.1.2, ⟨hk.1.1.1.2.2.2.2.1, ⟨hk.1.2, ⟨hk.1.1.1.2.2.2.2.2.1, hk.1.1.1.2.2.2.2.2.2⟩⟩⟩⟩⟩⟩⟩⟩)⟩
                       have n7_ : Aside0 (Kd.R Kd.bool 4 (w59.setCell ⟨go52, ((rd t418 x27_1) : Int).toNat, none⟩ (.int .i64 (wrap64 ((rd x5_2 (rd t418 x27_1)) + (rd x5_2 t444))))) w.heap.size (fun k_ => some k_ ≠ (.slice Ao37 t431.length co37 : Value).ownBlock) (.slice Ao57 t440.length co57) t440) := ⟨by (with_reducible repeat (first | apply Kd.R_alloc | apply Kd.R_drewN | apply Kd.R_drew)); exact Kd.R_mono (Kd.R_far (p := ⟨go52, ((rd t418 x27_1) : Int).toNat, none⟩) (Kd.R_types HO442.out GG52.out (by decide)) (fun _ hk => hk.2) (.int .i64 (wrap64 ((rd x5_2 (rd t418 x27_1)) + (rd x5_2 t444))))) (fun _ hk => hk.1.2)⟩
                       have n8_ : Aside0 ((w59.setCell ⟨go52, ((rd t418 x27_1) : Int).toNat, none⟩ (.int .i64 (wrap64 ((rd x5_2 (rd t418 x27_1)) + (rd x5_2 t444))))).heap[gb404]? = some (.cells #[.slice A0_0 l0_0.length c0_0, .int .i64 a0_1] 34 (0, 0))) := ⟨by (with_reducible repeat (first | refine kN_ ?_ _ | refine k1_ ?_ | refine ka_ ?_ _)); refine blk_far ?_ (by have h_ := Kd.R_ne HO_5.out BK404.out (by decide); intro e_; exact h_ (by rw [e_]; rfl)) _; exact pk BK404.out⟩
                       have n9_ : Aside0 ((w59.setCell ⟨go52, ((rd t418 x27_1) : Int).toNat, none⟩ (.int .i64 (wrap64 ((rd x5_2 (rd t418 x27_1)) + (rd x5_2 t444))))).heap[gb435]? = some (.cells #[.slice Ao37 t431.length co37, .bool t434] 115 (0, 0))) := ⟨by (with_reducible repeat (first | refine kN_ ?_ _ | refine k1_ ?_ | refine ka_ ?_ _)); refine blk_far ?_ (by have h_ := Kd.R_ne HO_5.out BK435.out (by decide); intro e_; exact h_ (by rw [e_]; rfl)) _; exact pk BK435.out⟩
                       have n10_ : Aside0 (Below w.heap.size w (w59.setCell ⟨go52, ((rd t418 x27_1) : Int).toNat, none⟩ (.int .i64 (wrap64 ((rd x5_2 (rd t418 x27_1)) + (rd x5_2 t444)))))) := ⟨by repeat (first | exact HB.out | apply ba_ | apply bN_ | apply b1_ | refine below_set ?_ GB52.out | refine below_set ?_ (Aside0.out (by assumption)))⟩
                       (try clear HO_4)
                       (try clear HO_5)
                       (try clear HO_6)
                       (try clear HO_25)
                       (try clear HO_47)
                       (try clear HO_436000)
                       (try clear HL439_0)
                       (try clear HO442)
                       (try clear BK404)
                       (try clear BK435)
                       (try clear HB)
                       generalize (w59.setCell ⟨go52, ((rd t418 x27_1) : Int).toNat, none⟩ (.int .i64 (wrap64 ((rd x5_2 (rd t418 x27_1)) + (rd x5_2 t444))))) = w73 at n0_ n1_ n2_ n3_ n4_ n5_ n6_ n7_ n8_ n9_ n10_ ⊢
                       have HO_4 := n0_; have HO_5 := n1_; have HO_6 := n2_; have HO_25 := n3_; have HO_47 := n4_; have HO_436000 := n5_; have HL439_0 := n6_; have HO442 := n7_; have BK404 := n8_; have BK435 := n9_; have HB := n10_
                       clear n0_ n1_ n2_ n3_ n4_ n5_ n6_ n7_ n8_ n9_ n10_
                       have n0_ := ak_ (Kd.R_drew HO_4.out)
                       have n1_ := ak_ (Kd.R_drew HO_5.out)
                       have n2_ := ak_ (Kd.R_drew HO_6.out)
                       have n3_ := ak_ (Kd.R_drew HO_25.out)
                       have n4_ := ak_ (Kd.N_drew HO_47.out)
                       have n5_ := ak_ (Kd.R_drew HO_436000.out)
                       have n6_ := ak_ (Kd.V_drew HL439_0.out)
                       have n7_ := ak_ (Kd.R_drew HO442.out)
                       have n8_ := ak_ (k1_ BK404.out)
                       have n9_ := ak_ (k1_ BK435.out)
                       have n10_ := ak_ (b1_ HB.out)
                       clear HO_4 HO_5 HO_6 HO_25 HO_47 HO_436000 HL439_0 HO442 BK404 BK435 HB
                       have HO_4 := n0_; have HO_5 := n1_; have HO_6 := n2_; have HO_25 := n3_; have HO_47 := n4_; have HO_436000 := n5_; have HL439_0 := n6_; have HO442 := n7_; have BK404 := n8_; have BK435 := n9_; have HB := n10_
                       clear n0_ n1_ n2_ n3_ n4_ n5_ n6_ n7_ n8_ n9_ n10_
                       obtain ⟨Ao75, co75, eo75⟩ := Kd.R_slice HO_6.out
                       (first | subst eo75 | (injection eo75 with f1_ f2_ f3_; have f4_ := f1_.symm; have f5_ := f3_.symm; clear f1_ f2_ f3_; subst f4_; subst f5_))
                       have p448 : 0 ≤ ((rd t418 x27_1) : Int) := odt_ (by assumption)
                       have q448 : (rd t418 x27_1) < (x6_2.length : Int) := odt_ (by assumption)
                       obtain ⟨ad448, e448, hx448_0⟩ := Kd.at_int (Kd.R_reads' HO_6.out).2.2 (rd t418 x27_1) p448 q448
                       cases e448
                       replace p448 := eq_true p448
                       replace q448 := eq_true q448
                       have p451 : 0 ≤ (t444 : Int) := odt_ (by assumption)
                       have q451 : t444 < (x6_2.length : Int) := odt_ (by assumption)
                       obtain ⟨ad451, e451, hx451_0⟩ := Kd.at_int (Kd.R_reads' HO_6.out).2.2 t444 p451 q451
                       obtain rfl : ad448 = ad451 := (by injection e451)
                       replace p451 := eq_true p451
                       replace q451 := eq_true q451
                       have p452 : 0 ≤ ((rd t418 x27_1) : Int) := odt_ (by assumption)
                       have q452 : (rd t418 x27_1) < (x6_2.length : Int) := odt_ (by assumption)
                       obtain ⟨ad452, e452, hx452_0⟩ := Kd.at_int (Kd.R_reads' HO_6.out).2.2 (rd t418 x27_1) p452 q452
                       obtain rfl : ad448 = ad452 := (by injection e452)
                       replace p452 := eq_true p452
                       replace q452 := eq_true q452
                       refine start_ (n := 17) (S := fun w' => w'.cell? (ad448.add ((rd t418 x27_1)).toNat) = some (.int .i64 (rd x6_2 (rd t418 x27_1))) ∧ w'.cell? (ad448.add (t444).toNat) = some (.int .i64 (rd x6_2 t444)) ∧ w'.cell? (ad448.add ((rd t418 x27_1)).toNat) = some (.int .i64 (rd x6_2 (rd t418 x27_1)))) (ds := []) (mb_ 17 0) (by kernel_rfl) rfl rfl ⟨hx448_0, hx451_0, hx452_0⟩ (fun hHeld => ?_); refine with_tabW spec_seCount.tab14 spec_seCount.bits14 (fun HT_ HW_ => ?_)
                       generalize w73.drew = w74 at HO_4 HO_5 HO_6 HO_25 HO_47 HO_436000 HL439_0 HO442 BK404 BK435 HB HQ61 hx448_0 hx451_0 hx452_0 hHeld ⊢
                       refine pure_ (i := 0) (N := some 67) (v := ?_) (a' := ?_) (mb_ 17 1) rfl rfl (any_of HT_.out (by kernel_rfl)) (fun _ _ _ h => h) (Or.inl ⟨by rfl, ?_⟩) ?_ ?_
                       rotate_left
                       ·
                        intro w'
                        go_simp
                        with_reducible rfl
                       rotate_left
                       ·
                        simp only [Act.put, setIfInBounds_toArray, set_cons_zero, set_cons_succ, i64_w, i32_w]
                        rfl
                       refine pure_ (i := 1) (N := some 68) (v := ?_) (a' := ?_) (mb_ 17 3) rfl rfl (any_of HT_.out (by kernel_rfl)) (fun _ _ _ h => h) (Or.inl ⟨by rfl, ?_⟩) ?_ ?_
                       rotate_left
                       ·
                        intro w'
                        go_simp
                        with_reducible rfl
                       rotate_left
                       ·
                        simp only [Act.put, setIfInBounds_toArray, set_cons_zero, set_cons_succ, i64_w, i32_w]
                        rfl
                       refine pure_ (i := 2) (N := some 69) (v := ?_) (a' := ?_) (mb_ 17 7) rfl rfl (any_of HT_.out (by kernel_rfl)) (fun _ _ _ h => h) (Or.inl ⟨by rfl, ?_⟩) ?_ ?_
                       rotate_left
                       ·
                        intro w'
                        go_simp
                        with_reducible rfl
                       rotate_left
                       ·
                        simp only [Act.put, setIfInBounds_toArray, set_cons_zero, set_cons_succ, i64_w, i32_w]
                        rfl
                       refine take_ (i := 3) (N := some 70) (v := ?_) (a' := ?_) (mb_ 17 15) rfl rfl (take_ofW HT_.out HW_.out (by kernel_rfl)) (fun _ _ _ h => h) (Or.inl ⟨by rfl, ?_⟩) hHeld ?_ ?_
                       rotate_left
                       ·
                        rintro w' ⟨s0, s1, s2⟩
                        go_simp
                        with_reducible rfl
                       rotate_left
                       ·
                        simp only [Act.put, setIfInBounds_toArray, set_cons_zero, set_cons_succ, i64_w, i32_w]
                        rfl
                       refine pure_ (i := 4) (N := some 71) (v := ?_) (a' := ?_) (mb_ 17 31) rfl rfl (any_of HT_.out (by kernel_rfl)) (fun _ _ _ h => h) (Or.inl ⟨by rfl, ?_⟩) ?_ ?_
                       rotate_left
                       ·
                        intro w'
                        go_simp
                        with_reducible rfl
                       rotate_left
                       ·
                        simp only [Act.put, setIfInBounds_toArray, set_cons_zero, set_cons_succ, i64_w, i32_w]
                        rfl
                       refine pure_ (i := 5) (N := some 72) (v := ?_) (a' := ?_) (mb_ 17 63) rfl rfl (any_of HT_.out (by kernel_rfl)) (fun _ _ _ h => h) (Or.inl ⟨by rfl, ?_⟩) ?_ ?_
                       rotate_left
                       ·
                        intro w'
                        go_simp
                        with_reducible rfl
                       rotate_left
                       ·
                        simp only [Act.put, setIfInBounds_toArray, set_cons_zero, set_cons_succ, i64_w, i32_w]
                        rfl
                       refine pure_ (i := 6) (N := some 73) (v := ?_) (a' := ?_) (mb_ 17 127) rfl rfl (any_of HT_.out (by kernel_rfl)) (fun _ _ _ h => h) (Or.inl ⟨by rfl, ?_⟩) ?_ ?_
                       rotate_left
                       ·
                        intro w'
                        go_simp
                        with_reducible rfl
                       rotate_left
                       ·
                        simp only [Act.put, setIfInBounds_toArray, set_cons_zero, set_cons_succ, i64_w, i32_w]
                        rfl
                       refine pure_ (i := 7) (N := some 74) (v := ?_) (a' := ?_) (mb_ 17 255) rfl rfl (any_of HT_.out (by kernel_rfl)) (fun _ _ _ h => h) (Or.inl ⟨by rfl, ?_⟩) ?_ ?_
                       rotate_left
                       ·
                        intro w'
                        go_simp
                        with_reducible rfl
                       rotate_left
                       ·
                        simp only [Act.put, setIfInBounds_toArray, set_cons_zero, set_cons_succ, i64_w, i32_w]
                        rfl
                       refine pure_ (i := 8) (N := some 75) (v := ?_) (a' := ?_) (mb_ 17 511) rfl rfl (any_of HT_.out (by kernel_rfl)) (fun _ _ _ h => h) (Or.inl ⟨by rfl, ?_⟩) ?_ ?_
                       rotate_left
                       ·
                        intro w'
                        go_simp
                        with_reducible rfl
                       rotate_left
                       ·
                        simp only [Act.put, setIfInBounds_toArray, set_cons_zero, set_cons_succ, i64_w, i32_w]
                        rfl
                       refine pure_ (i := 11) (N := some 78) (v := ?_) (a' := ?_) (mb_ 17 2559) rfl rfl (any_of HT_.out (by kernel_rfl)) (fun _ _ _ h => h) (Or.inl ⟨by rfl, ?_⟩) ?_ ?_
                       rotate_left
                       ·
                        intro w'
                        go_simp
                        with_reducible rfl
                       rotate_left
                       ·
                        simp only [Act.put, setIfInBounds_toArray, set_cons_zero, set_cons_succ, i64_w, i32_w]
                        rfl
                       refine pure_ (i := 12) (N := some 79) (v := ?_) (a' := ?_) (mb_ 17 6655) rfl rfl (any_of HT_.out (by kernel_rfl)) (fun _ _ _ h => h) (Or.inl ⟨by rfl, ?_⟩) ?_ ?_
                       rotate_left
                       ·
                        intro w'
                        go_simp
                        with_reducible rfl
                       rotate_left
                       ·
                        simp only [Act.put, setIfInBounds_toArray, set_cons_zero, set_cons_succ, i64_w, i32_w]
                        rfl
                       refine pure_ (i := 13) (N := some 80) (v := ?_) (a' := ?_) (mb_ 17 14847) rfl rfl (any_of HT_.out (by kernel_rfl)) (fun _ _ _ h => h) (Or.inl ⟨by rfl, ?_⟩) ?_ ?_
                       rotate_left
                       ·
                        intro w'
                        go_simp
                        with_reducible rfl
                       rotate_left
                       ·
                        simp only [Act.put, setIfInBounds_toArray, set_cons_zero, set_cons_succ, i64_w, i32_w]
                        rfl
                       refine take_ (i := 9) (N := some 76) (v := ?_) (a' := ?_) (mb_ 17 15359) rfl rfl (take_ofW HT_.out HW_.out (by kernel_rfl)) (fun _ _ _ h => h) (Or.inl ⟨by rfl, ?_⟩) hHeld ?_ ?_
                       rotate_left
                       ·
                        rintro w' ⟨s0, s1, s2⟩
                        go_simp
                        with_reducible rfl
                       rotate_left
                       ·
                        simp only [Act.put, setIfInBounds_toArray, set_cons_zero, set_cons_succ, i64_w, i32_w]
                        rfl
                       refine pure_ (i := 10) (N := some 77) (v := ?_) (a' := ?_) (mb_ 17 16383) rfl rfl (any_of HT_.out (by kernel_rfl)) (fun _ _ _ h => h) (Or.inl ⟨by rfl, ?_⟩) ?_ ?_
                       rotate_left
                       ·
                        intro w'
                        go_simp
                        with_reducible rfl
                       rotate_left
                       ·
                        simp only [Act.put, setIfInBounds_toArray, set_cons_zero, set_cons_succ, i64_w, i32_w]
                        rfl
                       refine take_ (i := 14) (N := some 81) (v := ?_) (a' := ?_) (mb_ 17 32767) rfl rfl (take_ofW HT_.out HW_.out (by kernel_rfl)) (fun _ _ _ h => h) (Or.inl ⟨by rfl, ?_⟩) hHeld ?_ ?_
                       rotate_left
                       ·
                        rintro w' ⟨s0, s1, s2⟩
                        go_simp
                        with_reducible rfl
                       rotate_left
                       ·
                        simp only [Act.put, setIfInBounds_toArray, set_cons_zero, set_cons_succ, i64_w, i32_w]
                        rfl
                       refine pure_ (i := 15) (N := some 82) (v := ?_) (a' := ?_) (mb_ 17 65535) rfl rfl (any_of HT_.out (by kernel_rfl)) (fun _ _ _ h => h) (Or.inl ⟨by rfl, ?_⟩) ?_ ?_
                       rotate_left
                       ·
                        intro w'
                        go_simp
                        with_reducible rfl
                       rotate_left
                       ·
                        simp only [Act.put, setIfInBounds_toArray, set_cons_zero, set_cons_succ, i64_w, i32_w]
                        rfl
                       refine pure_ (i := 16) (N := some 83) (v := ?_) (a' := ?_) (mb_ 17 131071) rfl rfl (any_of HT_.out (by kernel_rfl)) (fun _ _ _ h => h) (Or.inl ⟨by rfl, ?_⟩) ?_ ?_
                       rotate_left
                       ·
                        intro w'
                        go_simp
                        with_reducible rfl
                       rotate_left
                       ·
                        simp only [Act.put, setIfInBounds_toArray, set_cons_zero, set_cons_succ, i64_w, i32_w]
                        rfl
                       refine done_ (done_of HT_.out (by kernel_rfl)) ?_
                       go_upto_if 83 with (fail)
                       have H := HC72.out
                       clear HC72
                       by_cases c76 : (wrap64 ((rd x6_2 t444) + 1)) < (rd x6_2 (rd t418 x27_1))
                       ·
                        rw [if_pos c76] at H
                        have c76b0 : decide ((wrap64 ((rd x6_2 t444) + 1)) < (rd x6_2 (rd t418 x27_1))) = true := decide_eq_true c76
                        clear c76
                        (first | rw [c76b0] | (simp only [i64_w, i32_w]; rw [c76b0]) | rw [c76b1] | skip)
                        obtain ⟨y454, hy454⟩ : ∃ y_ : List Int, y_ = (x6_2.set ((rd t418 x27_1) : Int).toNat (wrap64 ((rd x6_2 t444) + 1))) := ⟨_, rfl⟩
                        replace H : (spec_seCount.l1 k2 t409 y447 y454 (rd t418 x27_1) t418 (t418.length : Int) x27_1 t436 (t436.length : Int) (wrap64 (x49_2 + 1)) l0_0 a0_1 t431 t434) = some (r1, r2) := by first | (rw [hy454]; exact H) | exact H
                        have Ny454 := ak_ hy454
                        clear hy454
                        have H' := ak_ H
                        clear H
                        have p453 : 0 ≤ (t444 : Int) := odt_ (by assumption)
                        have q453 : t444 < (x6_2.length : Int) := odt_ (by assumption)
                        obtain ⟨ad453, e453, hx453_0⟩ := Kd.at_int (Kd.R_reads' HO_6.out).2.2 t444 p453 q453
                        obtain rfl : ad448 = ad453 := (by injection e453)
                        replace p453 := eq_true p453
                        replace q453 := eq_true q453
                        have p77 : 0 ≤ ((rd t418 x27_1) : Int) := odt_ (by assumption)
                        have q77 : ((rd t418 x27_1) : Int) < ((x6_2.length : Int) : Int) := odt_ (by assumption)
                        obtain ⟨go77, co77, eo77, gb77, gl77, cl77, HG77⟩ := Kd.R_form HO_6.out (by omega)
                        (first | cases eo77 | (injection eo77 with ea_ en_ ec_; (first | subst ea_ | (injection ea_ with ea_; subst ea_)); subst ec_; clear en_))
                        have GB77 := ak_ gb77
                        have GG77 := ak_ HG77
                        clear gb77 gl77 HG77
                        (first | simp only [add_plain] at hx448_0 | skip)
                        (first | simp only [add_plain] at hx451_0 | skip)
                        (first | simp only [add_plain] at hx452_0 | skip)
                        (first | simp only [add_plain] at hx453_0 | skip)
                        obtain ⟨hx77_0, hf77_0⟩ := Kd.R_celln 0 HO_6.out ((rd t418 x27_1) : Int) p77 q77
                        replace p77 := eq_true p77
                        replace q77 := eq_true q77
                        have HP78 := Kd.R_putg HO_6.out ((rd t418 x27_1) : Int) (wrap64 ((rd x6_2 t444) + 1))
                        go_wp2_with (first | ((with_reducible refine gate_store (t := 3) (p := 91) rfl ?_); refine store_event (t := 3) (p := 91) (v := ?vo_w79) (w1 := (w74.setCell ⟨go77, ((rd t418 x27_1) : Int).toNat, none⟩ (.int .i64 (wrap64 ((rd x6_2 t444) + 1))))) ?hg ?ho ?hn ?hr ?_; (case ho => rfl); (case hg => rfl); (case hn => rfl); (case hr => go_simp <;> rfl); intro w79 hw; have hg : w74.grownBy w79 (some go77) := (by rw [hw]; exact HP78.2); have hp_ : Kd.R (Kd.int .i64) 3 w79 w.heap.size (fun k_ => some k_ ≠ (.slice (some ad429) t409.length co13 : Value).ownBlock ∧ some k_ ≠ (.slice (some ⟨go52, 0, none⟩) x5_2.length co60 : Value).ownBlock ∧ some k_ ≠ (.slice (some ad428) t418.length co20 : Value).ownBlock) (.slice (some ⟨go77, 0, none⟩) x6_2.length co75) y454 := (by rw [hw, Ny454.out]; exact HP78.1); clear HP78; have n0_ := ak_ (Kd.R_after (v := (.slice (some ⟨go77, 0, none⟩) x6_2.length co75)) (v1 := (.slice (some ⟨go77, 0, none⟩) x6_2.length co75)) (ok := (fun k_ => some k_ ≠ (.slice (some ⟨go52, 0, none⟩) x5_2.length co60 : Value).ownBlock ∧ some k_ ≠ (.slice (some ad428) t418.length co20 : Value).ownBlock)) (by (with_reducible repeat (first | apply Kd.R_alloc | apply Kd.R_drewN | apply Kd.R_drew)); exact Kd.R_mono HO_4.out (fun _ hk => ⟨⟨hk.1, hk.2.2⟩, hk.2.1⟩)) hg (.inl rfl)); have n1_ := ak_ (Kd.R_after (v := (.slice (some ⟨go77, 0, none⟩) x6_2.length co75)) (v1 := (.slice (some ⟨go77, 0, none⟩) x6_2.length co75)) (ok := (fun k_ => some k_ ≠ (.slice (some ad429) t409.length co13 : Value).ownBlock ∧ some k_ ≠ (.slice (some ad428) t418.length co20 : Value).ownBlock)) (by (with_reducible repeat (first | apply Kd.R_alloc | apply Kd.R_drewN | apply Kd.R_drew)); exact Kd.R_mono HO_5.out (fun _ hk => ⟨⟨hk.1, hk.2.2⟩, hk.2.1⟩)) hg (.inl rfl)); have n2_ := ak_ (hp_); have n3_ := ak_ (Kd.R_after (v := (.slice (some ⟨go77, 0, none⟩) x6_2.length co75)) (v1 := (.slice (some ⟨go77, 0, none⟩) x6_2.length co75)) (ok := (fun k_ => some k_ ≠ (.slice (some ad429) t409.length co13 : Value).ownBlock ∧ some k_ ≠ (.slice (some ⟨go52, 0, none⟩) x5_2.length co60 : Value).ownBlock)) (by (with_reducible repeat (first | apply Kd.R_alloc | apply Kd.R_drewN | apply Kd.R_drew)); exact Kd.R_mono HO_25.out (fun _ hk => ⟨⟨hk.1, hk.2.1⟩, hk.2.2⟩)) hg (.inl rfl)); have n4_ := ak_ (Kd.N_afterv (v := (.slice (some ⟨go77, 0, none⟩) x6_2.length co75)) (v1 := (.slice (some ⟨go77, 0, none⟩) x6_2.length co75)) (ok := (fun k_ => some k_ ≠ (.slice (some ad429) t409.length co13 : Value).ownBlock ∧ some k_ ≠ (.slice (some ⟨go52, 0, none⟩) x5_2.length co60 : Value).ownBlock ∧ some k_ ≠ (.slice (some ad428) t418.length co20 : Value).ownBlock ∧ some k_ ≠ (.slice Ao37 t431.length co37 : Value).ownBlock ∧ some k_ ≠ (.slice Ao57 t440.length co57 : Value).ownBlock ∧ k_ ≠ gb404 ∧ k_ ≠ gb435)) (by (with_reducible repeat (first | apply Kd.N_alloc | apply Kd.N_drewN | apply Kd.N_drew)); exact Kd.N_mono HO_47.out (fun _ hk => ⟨⟨hk.1, ⟨hk.2.1, ⟨hk.2.2.2.1, ⟨hk.2.2.2.2.1, ⟨hk.2.2.2.2.2.1, ⟨hk.2.2.2.2.2.2.1, hk.2.2.2.2.2.2.2⟩⟩⟩⟩⟩⟩, hk.2.2.1⟩)) hg (.inl rfl)); have n5_ := ak_ (Kd.R_over' (v := (.slice (some ⟨go77, 0, none⟩) x6_2.length co75)) (Kd.pR HO_436000.out) (Kd.R_typed HO_6.out) (by decide) hg); have n6_ := ak_ (blk_grown (pk BK404.out) hg (Kd.R_ne HO_6.out BK404.out (by decide))); have n7_ := ak_ (blk_grown (pk BK435.out) hg (Kd.R_ne HO_6.out BK435.out (by decide))); have n8_ := ak_ (Kd.V_afterv (v := (.slice (some ⟨go77, 0, none⟩) x6_2.length co75)) (v1 := (.slice (some ⟨go77, 0, none⟩) x6_2.length co75)) (ok := (fun k_ => some k_ ≠ (.slice (some ad429) t409.length co13 : Value).ownBlock ∧ some k_ ≠ (.slice (some ⟨go52, 0, none⟩) x5_2.length co60 : Value).ownBlock ∧ some k_ ≠ (.slice (some ad428) t418.length co20 : Value).ownBlock ∧ some k_ ≠ (.slice (some ad439) t436.length co42 : Value).ownBlock ∧ some k_ ≠ (.slice Ao37 t431.length co37 : Value).ownBlock ∧ some k_ ≠ (.slice Ao57 t440.length co57 : Value).ownBlock ∧ k_ ≠ gb404 ∧ k_ ≠ gb435)) (by (with_reducible repeat (first | apply Kd.V_alloc | apply Kd.V_drewN | apply Kd.V_drew)); exact Kd.V_mono HL439_0.out (fun _ hk => ⟨⟨hk.1, ⟨hk.2.1, ⟨hk.2.2.2.1, ⟨hk.2.2.2.2.1, ⟨hk.2.2.2.2.2.1, ⟨hk.2.2.2.2.2.2.1, ⟨hk.2.2.2.2.2.2.2.1, hk.2.2.2.2.2.2.2.2⟩⟩⟩⟩⟩⟩⟩, hk.2.2.1⟩)) hg (.inl rfl)); have n9_ := ak_ (Kd.R_over' (v := (.slice (some ⟨go77, 0, none⟩) x6_2.length co75)) (Kd.pR HO442.out) (Kd.R_typed HO_6.out) (by decide) hg); have n10_ := ak_ ((by rw [hw]; exact below_set (HB.out) GB77.out : Below w.heap.size w w79)); clear HO_4; clear HO_5; clear HO_6; clear HO_25; clear HO_47; clear HO_436000; clear BK404; clear BK435; clear HL439_0; clear HO442; clear HB; have HO_4 := n0_; have HO_5 := n1_; have HO_6 := n2_; have HO_25 := n3_; have HO_47 := n4_; have HO_436000 := n5_; have BK404 := n6_; have BK435 := n7_; have HL439_0 := n8_; have HO442 := n9_; have HB := n10_; clear n0_ n1_ n2_ n3_ n4_ n5_ n6_ n7_ n8_ n9_ n10_; clear hg hw hp_))
                        go_roundg k2
                        case measure => have := HK1.out; have := HK2.out; omega
                        case rel => exact ⟨(y447), (y454), (wrap64 (x49_2 + 1)), (by first | rfl | (simp; done) | (simp [*]; done)), H', ⟨by have := HK1.out; have := HK2.out; omega⟩, ⟨by (with_reducible repeat (first | apply Kd.R_alloc | apply Kd.R_drewN | apply Kd.R_drew)); exact Kd.R_mono HO_4.out (fun _ hk => ⟨hk.1.1, ⟨hk.2, hk.1.2⟩⟩)⟩, ⟨by (with_reducible repeat (first | apply Kd.R_alloc | apply Kd.R_drewN | apply Kd.R_drew)); exact Kd.R_mono HO_5.out (fun _ hk => ⟨hk.1.1, ⟨hk.2, hk.1.2⟩⟩)⟩, ⟨Kd.pR HO_6.out⟩, ⟨by (with_reducible repeat (first | apply Kd.R_alloc | apply Kd.R_drewN | apply Kd.R_drew)); exact Kd.R_mono HO_25.out (fun _ hk => ⟨hk.1.1, ⟨hk.1.2, hk.2⟩⟩)⟩, ⟨by (with_reducible repeat (first | apply Kd.N_alloc | apply Kd.N_drewN | apply Kd.N_drew)); exact Kd.N_mono HO_47.out (fun _ hk => ⟨hk.1.1, ⟨hk.1.2.1, ⟨hk.2, ⟨hk.1.2.2.1, ⟨hk.1.2.2.2.1, ⟨hk.1.2.2.2.2.2.1, hk.1.2.2.2.2.2.2⟩⟩⟩⟩⟩⟩)⟩, ⟨by (with_reducible repeat (first | apply Kd.R_alloc | apply Kd.R_drewN | apply Kd.R_drew)); exact Kd.R_mono HO_436000.out (fun _ hk => trivial)⟩, ⟨pk BK404.out⟩, ⟨pk BK435.out⟩, ⟨by repeat (first | exact HB.out | apply ba_ | apply bN_ | apply b1_ | refine below_set ?_ (Aside0.out (by assumption)))⟩⟩
                       ·
                        rw [if_neg c76] at H
                        have c76b0 : decide ((wrap64 ((rd x6_2 t444) + 1)) < (rd x6_2 (rd t418 x27_1))) = false := decide_eq_false c76
                        clear c76
                        (first | rw [c76b0] | (simp only [i64_w, i32_w]; rw [c76b0]) | rw [c76b1] | skip)
                        have H' := ak_ H
                        clear H
                        go_wp2
                        go_roundg k2
                        case measure => have := HK1.out; have := HK2.out; omega
                        case rel => exact ⟨(y447), (x6_2), (wrap64 (x49_2 + 1)), (by first | rfl | (simp; done) | (simp [*]; done)), H', ⟨by have := HK1.out; have := HK2.out; omega⟩, ⟨Kd.pR HO_4.out⟩, ⟨Kd.pR HO_5.out⟩, ⟨Kd.pR HO_6.out⟩, ⟨Kd.pR HO_25.out⟩, ⟨by (with_reducible repeat (first | apply Kd.N_alloc | apply Kd.N_drewN | apply Kd.N_drew)); exact Kd.N_mono HO_47.out (fun _ hk => ⟨hk.1, ⟨hk.2.1, ⟨hk.2.2.1, ⟨hk.2.2.2.1, ⟨hk.2.2.2.2.1, ⟨hk.2.2.2.2.2.2.1, hk.2.2.2.2.2.2.2⟩⟩⟩⟩⟩⟩)⟩, ⟨by (with_reducible repeat (first | apply Kd.R_alloc | apply Kd.R_drewN | apply Kd.R_drew)); exact Kd.R_mono HO_436000.out (fun _ hk => trivial)⟩, ⟨pk BK404.out⟩, ⟨pk BK435.out⟩, ⟨by repeat (first | exact HB.out | apply ba_ | apply bN_ | apply b1_ | refine below_set ?_ (Aside0.out (by assumption)))⟩⟩
                      ·
                       rw [if_neg c71] at H
                       exact absurd H (by simp)
                    ·
                     rw [if_neg c62] at H
                     exact absurd H (by simp)
                   ·
                    rw [if_neg c51] at H
                    exact absurd H (by simp)
                  ·
                   rw [if_neg c50] at H
                   exact absurd H (by simp)
                 ·
                  rw [if_neg c49] at H
                  exact absurd H (by simp)
                ·
                 rw [if_neg c48] at H
                 exact absurd H (by simp)
               ·
                rw [if_neg c45] at H
                exact absurd H (by simp)
              ·
               rw [if_neg c44] at H
               exact absurd H (by simp)
             ·
              rw [if_neg c43] at H
              have c43b0 : decide (x49_2 < (t436.length : Int)) = false := decide_eq_false c43
              clear c43
              have H' := ak_ H
              clear H
              go_wp2
              go_roundg k2
              case measure => have := HK1.out; have := HK2.out; omega
              case rel => exact ⟨(x5_2), (x6_2), (wrap64 (x27_1 + 1)), (by first | rfl | (simp; done) | (simp [*]; done)), H', ⟨by have := HK1.out; have := HK2.out; omega⟩, ⟨Kd.pR HO_4.out⟩, ⟨Kd.pR HO_5.out⟩, ⟨Kd.pR HO_6.out⟩, ⟨Kd.pR HO_25.out⟩, ⟨pk BK404.out⟩, ⟨by repeat (first | exact HB.out | apply ba_ | apply bN_ | apply b1_ | refine below_set ?_ (Aside0.out (by assumption)))⟩⟩
         ·
          rw [if_neg c25] at H
          exact absurd H (by simp)
        ·
         rw [if_neg c24] at H
         exact absurd H (by simp)
       ·
        rw [if_neg c23] at H
        exact absurd H (by simp)
      ·
       rw [if_neg c22] at H
       exact absurd H (by simp)
     ·
      rw [if_neg c21] at H
      have c21b0 : decide (x27_1 < (t418.length : Int)) = false := decide_eq_false c21
      clear c21
      replace H := Option.bind_eq_some_iff.mp H
      obtain ⟨⟨t421, t424⟩, A800, H⟩ := H
      replace H : ((spec_seIndex.f k1 t421 t424).bind fun t425 => (if 0 ≤ t425 then (if t425 < (x5_1.length : Int) then (if t425 < (x6_1.length : Int) then (some (rd x5_1 t425, rd x6_1 t425)) else (none)) else (none)) else (none))) = some (r1, r2) := H
      have A80 := ak_ A800
      clear A800
      replace H := Option.bind_eq_some_iff.mp H
      obtain ⟨t425, A810, H⟩ := H
      replace H : (if 0 ≤ t425 then (if t425 < (x5_1.length : Int) then (if t425 < (x6_1.length : Int) then (some (rd x5_1 t425, rd x6_1 t425)) else (none)) else (none)) else (none)) = some (r1, r2) := H
      have A81 := ak_ A810
      clear A810
      by_cases c82 : 0 ≤ t425
      ·
       rw [if_pos c82] at H
       have c82b0 : decide (0 ≤ t425) = true := decide_eq_true c82
       clear c82
       by_cases c83 : t425 < (x5_1.length : Int)
       ·
        rw [if_pos c83] at H
        have c83b0 : decide (t425 < (x5_1.length : Int)) = true := decide_eq_true c83
        clear c83
        by_cases c84 : t425 < (x6_1.length : Int)
        ·
         rw [if_pos c84] at H
         have c84b0 : decide (t425 < (x6_1.length : Int)) = true := decide_eq_true c84
         clear c84
         simp only [Option.some.injEq, Prod.mk.injEq] at H
         obtain ⟨rfl, rfl⟩ := H
         have hcz85_0 : wr.cell? ⟨gb404, 0, none⟩ = some (.slice A0_0 l0_0.length c0_0) := (blk_cell BK404.out 0).trans rfl
         have hcz85_1 : wr.cell? ⟨gb404, 1, none⟩ = some (.int .i64 a0_1) := (blk_cell BK404.out 1).trans rfl
         have hfz85_0 := blk_frozen BK404.out 0
         have hfz85_1 := blk_frozen BK404.out 1
         try go_wp2_with (first | ((with_reducible refine gate_callee (f := 90) rfl ?_); refine goesL_ (some 95) rfl rfl Try.func90 (by kernel_rfl) rfl #[.agg #[.slice A0_0 l0_0.length c0_0, .int .i64 a0_1]] rfl (by first | rfl | (simp only [map_toArray, map_cons, map_nil]; try rfl)) ?_; (with_reducible refine (spec_paFirst.calls _ _ l0_0 a0_1 t421 t424 _ ?side1 ?side2 A80.out).mono ?_); (case side1 => repeat (first | exact (Kd.C_below HR0_0.out HB.out) | (with_reducible refine Kd.C_alloc ?_ _) | (with_reducible refine Kd.C_drewN ?_ _) | (with_reducible refine Kd.C_drew ?_))); (case side2 => exact HC0_0.out); rintro e w86 ⟨v422, rfl, ho0, hb⟩; refine ⟨_, rfl, ?_⟩; have n0_ := ak_ (Kd.R_below (Kd.pR HO_4.out) hb); have n1_ := ak_ (Kd.R_below (Kd.pR HO_5.out) hb); have n2_ := ak_ (Kd.R_below (Kd.pR HO_6.out) hb); have n3_ := ak_ (Kd.R_below (Kd.pR HO_25.out) hb); have n4_ := ak_ (Kd.R_lower ho0 (bz_ (by repeat (first | exact HB.out | apply ba_ | apply bN_ | apply b1_ | refine below_set ?_ GE404.out)))); have n5_ := ak_ (blk_below (pk BK404.out) hb); have n6_ := ak_ (bs_ (by repeat (first | exact HB.out | apply ba_ | apply bN_ | apply b1_ | refine below_set ?_ GE404.out)) hb); clear HO_4; clear HO_5; clear HO_6; clear HO_25; clear BK404; clear HB; have HO_4 := n0_; have HO_5 := n1_; have HO_6 := n2_; have HO_25 := n3_; have HO423 := n4_; have BK404 := n5_; have HB := n6_; clear n0_ n1_ n2_ n3_ n4_ n5_ n6_; (try clear hb); (try clear hb2); (try clear hk); (try clear hi); (try clear ho0); obtain ⟨Ao87, co87, eo87⟩ := Kd.R_slice HO423.out; subst eo87) | ((with_reducible refine gate_callee (f := 91) rfl ?_); refine goesL_ (some 96) rfl rfl Try.func91 (by kernel_rfl) rfl #[.agg #[.slice Ao87 t421.length co87, .bool t424]] rfl (by first | rfl | (simp only [map_toArray, map_cons, map_nil]; try rfl)) ?_; (with_reducible refine (spec_seIndex.calls k1 _ _ t421 t424 t425 _ ?side1 ?side2 A81.out).mono ?_); (case side1 => repeat (first | exact (Kd.R_reads' HO423.out).2.2 | (with_reducible refine Kd.C_alloc ?_ _) | (with_reducible refine Kd.C_drewN ?_ _) | (with_reducible refine Kd.C_drew ?_))); (case side2 => exact (Kd.R_reads' HO423.out).2.1); rintro e w88 ⟨rfl, hb⟩; refine ⟨_, rfl, ?_⟩; have n0_ := ak_ (Kd.R_below (Kd.pR HO_4.out) hb); have n1_ := ak_ (Kd.R_below (Kd.pR HO_5.out) hb); have n2_ := ak_ (Kd.R_below (Kd.pR HO_6.out) hb); have n3_ := ak_ (Kd.R_below (Kd.pR HO_25.out) hb); have n4_ := ak_ (Kd.R_below (Kd.pR HO423.out) hb); have n5_ := ak_ (blk_below (pk BK404.out) hb); have n6_ := ak_ (bs_ (by repeat (first | exact HB.out | apply ba_ | apply bN_ | apply b1_ | refine below_set ?_ GE404.out)) hb); clear HO_4; clear HO_5; clear HO_6; clear HO_25; clear HO423; clear BK404; clear HB; have HO_4 := n0_; have HO_5 := n1_; have HO_6 := n2_; have HO_25 := n3_; have HO423 := n4_; have BK404 := n5_; have HB := n6_; clear n0_ n1_ n2_ n3_ n4_ n5_ n6_; (try clear hb); (try clear hb2); (try clear hk); (try clear hi)))
         have n0_ := ak_ (Kd.R_drew HO_4.out)
         have n1_ := ak_ (Kd.R_drew HO_5.out)
         have n2_ := ak_ (Kd.R_drew HO_6.out)
         have n3_ := ak_ (Kd.R_drew HO_25.out)
         have n4_ := ak_ (Kd.R_drew HO423.out)
         have n5_ := ak_ (k1_ BK404.out)
         have n6_ := ak_ (b1_ HB.out)
         clear HO_4 HO_5 HO_6 HO_25 HO423 BK404 HB
         have HO_4 := n0_; have HO_5 := n1_; have HO_6 := n2_; have HO_25 := n3_; have HO423 := n4_; have BK404 := n5_; have HB := n6_
         clear n0_ n1_ n2_ n3_ n4_ n5_ n6_
         obtain ⟨Ao90, co90, eo90⟩ := Kd.R_slice HO_5.out
         (first | subst eo90 | (injection eo90 with f1_ f2_ f3_; have f4_ := f1_.symm; have f5_ := f3_.symm; clear f1_ f2_ f3_; subst f4_; subst f5_))
         have p426 : 0 ≤ (t425 : Int) := odt_ (by assumption)
         have q426 : t425 < (x5_1.length : Int) := odt_ (by assumption)
         obtain ⟨ad426, e426, hx426_0⟩ := Kd.at_int (Kd.R_reads' HO_5.out).2.2 t425 p426 q426
         cases e426
         replace p426 := eq_true p426
         replace q426 := eq_true q426
         obtain ⟨Ao91, co91, eo91⟩ := Kd.R_slice HO_6.out
         (first | subst eo91 | (injection eo91 with f1_ f2_ f3_; have f4_ := f1_.symm; have f5_ := f3_.symm; clear f1_ f2_ f3_; subst f4_; subst f5_))
         have p427 : 0 ≤ (t425 : Int) := odt_ (by assumption)
         have q427 : t425 < (x6_1.length : Int) := odt_ (by assumption)
         obtain ⟨ad427, e427, hx427_0⟩ := Kd.at_int (Kd.R_reads' HO_6.out).2.2 t425 p427 q427
         cases e427
         replace p427 := eq_true p427
         replace q427 := eq_true q427
         refine start_ (n := 10) (S := fun w' => w'.cell? (ad426.add (t425).toNat) = some (.int .i64 (rd x5_1 t425)) ∧ w'.cell? (ad427.add (t425).toNat) = some (.int .i64 (rd x6_1 t425))) (ds := []) (mb_ 10 0) (by kernel_rfl) rfl rfl ⟨hx426_0, hx427_0⟩ (fun hHeld => ?_); refine with_tabW spec_seCount.tab19 spec_seCount.bits19 (fun HT_ HW_ => ?_)
         generalize w88.drew = w89 at HO_4 HO_5 HO_6 HO_25 HO423 BK404 HB hx426_0 hx427_0 hHeld ⊢
         refine pure_ (i := 0) (N := some 97) (v := ?_) (a' := ?_) (mb_ 10 1) rfl rfl (any_of HT_.out (by kernel_rfl)) (fun _ _ _ h => h) (Or.inl ⟨by rfl, ?_⟩) ?_ ?_
         rotate_left
         ·
          intro w'
          go_simp
          with_reducible rfl
         rotate_left
         ·
          simp only [Act.put, setIfInBounds_toArray, set_cons_zero, set_cons_succ, i64_w, i32_w]
          rfl
         refine pure_ (i := 1) (N := some 98) (v := ?_) (a' := ?_) (mb_ 10 3) rfl rfl (any_of HT_.out (by kernel_rfl)) (fun _ _ _ h => h) (Or.inl ⟨by rfl, ?_⟩) ?_ ?_
         rotate_left
         ·
          intro w'
          go_simp
          with_reducible rfl
         rotate_left
         ·
          simp only [Act.put, setIfInBounds_toArray, set_cons_zero, set_cons_succ, i64_w, i32_w]
          rfl
         refine pure_ (i := 2) (N := some 99) (v := ?_) (a' := ?_) (mb_ 10 7) rfl rfl (any_of HT_.out (by kernel_rfl)) (fun _ _ _ h => h) (Or.inl ⟨by rfl, ?_⟩) ?_ ?_
         rotate_left
         ·
          intro w'
          go_simp
          with_reducible rfl
         rotate_left
         ·
          simp only [Act.put, setIfInBounds_toArray, set_cons_zero, set_cons_succ, i64_w, i32_w]
          rfl
         refine pure_ (i := 4) (N := some 101) (v := ?_) (a' := ?_) (mb_ 10 23) rfl rfl (any_of HT_.out (by kernel_rfl)) (fun _ _ _ h => h) (Or.inl ⟨by rfl, ?_⟩) ?_ ?_
         rotate_left
         ·
          intro w'
          go_simp
          with_reducible rfl
         rotate_left
         ·
          simp only [Act.put, setIfInBounds_toArray, set_cons_zero, set_cons_succ, i64_w, i32_w]
          rfl
         refine pure_ (i := 5) (N := some 102) (v := ?_) (a' := ?_) (mb_ 10 55) rfl rfl (any_of HT_.out (by kernel_rfl)) (fun _ _ _ h => h) (Or.inl ⟨by rfl, ?_⟩) ?_ ?_
         rotate_left
         ·
          intro w'
          go_simp
          with_reducible rfl
         rotate_left
         ·
          simp only [Act.put, setIfInBounds_toArray, set_cons_zero, set_cons_succ, i64_w, i32_w]
          rfl
         refine pure_ (i := 6) (N := some 103) (v := ?_) (a' := ?_) (mb_ 10 119) rfl rfl (any_of HT_.out (by kernel_rfl)) (fun _ _ _ h => h) (Or.inl ⟨by rfl, ?_⟩) ?_ ?_
         rotate_left
         ·
          intro w'
          go_simp
          with_reducible rfl
         rotate_left
         ·
          simp only [Act.put, setIfInBounds_toArray, set_cons_zero, set_cons_succ, i64_w, i32_w]
          rfl
         refine take_ (i := 3) (N := some 100) (v := ?_) (a' := ?_) (mb_ 10 127) rfl rfl (take_ofW HT_.out HW_.out (by kernel_rfl)) (fun _ _ _ h => h) (Or.inl ⟨by rfl, ?_⟩) hHeld ?_ ?_
         rotate_left
         ·
          rintro w' ⟨s0, s1⟩
          go_simp
          with_reducible rfl
         rotate_left
         ·
          simp only [Act.put, setIfInBounds_toArray, set_cons_zero, set_cons_succ, i64_w, i32_w]
          rfl
         refine pure_ (i := 8) (N := some 2) (v := ?_) (a' := ?_) (mb_ 10 383) rfl rfl (any_of HT_.out (by kernel_rfl)) (fun _ _ _ h => h) (Or.inl ⟨by rfl, ?_⟩) ?_ ?_
         rotate_left
         ·
          intro w'
          go_simp
          with_reducible rfl
         rotate_left
         ·
          simp only [Act.put, setIfInBounds_toArray, set_cons_zero, set_cons_succ, i64_w, i32_w]
          rfl
         refine take_ (i := 7) (N := some 104) (v := ?_) (a' := ?_) (mb_ 10 511) rfl rfl (take_ofW HT_.out HW_.out (by kernel_rfl)) (fun _ _ _ h => h) (Or.inl ⟨by rfl, ?_⟩) hHeld ?_ ?_
         rotate_left
         ·
          rintro w' ⟨s0, s1⟩
          go_simp
          with_reducible rfl
         rotate_left
         ·
          simp only [Act.put, setIfInBounds_toArray, set_cons_zero, set_cons_succ, i64_w, i32_w]
          rfl
         refine pure_ (i := 9) (N := some 3) (v := ?_) (a' := ?_) (mb_ 10 1023) rfl rfl (any_of HT_.out (by kernel_rfl)) (fun _ _ _ h => h) (Or.inl ⟨by rfl, ?_⟩) ?_ ?_
         rotate_left
         ·
          intro w'
          go_simp
          with_reducible rfl
         rotate_left
         ·
          simp only [Act.put, setIfInBounds_toArray, set_cons_zero, set_cons_succ, i64_w, i32_w]
          rfl
         refine done_ (done_of HT_.out (by kernel_rfl)) ?_
         try go_wp2
         go_ret2
         exact ⟨by first | rfl | (simp [errW_none, errW_some] <;> rfl) | (simp [*, errW_none, errW_some] <;> rfl), by repeat (first | exact HB.out | apply ba_ | apply bN_ | apply b1_ | refine below_set ?_ GE404.out)⟩
        ·
         rw [if_neg c84] at H
         exact absurd H (by simp)
       ·
        rw [if_neg c83] at H
        exact absurd H (by simp)
      ·
       rw [if_neg c82] at H
       exact absurd H (by simp)
  ·
   rw [if_neg c5] at H
   exact absurd H (by simp)
 ·
  rw [if_neg c4] at H
  exact absurd H (by simp)
end Go.Proofs.Ythkchdfkeieabaa.QGr
