/- Contracts of functions of the given program, walked: each call returns what its Lean function says. Conditions: those that stand at each theorem. (Written by a program of this session.) -/
import Derived.Test.YthkchdfkeieabaaQGrx0
import Derived.Test.YthkchdfkeieabaaQGrx1
import Derived.Test.YthkchdfkeieabaaQGrx2
import Derived.Test.YthkchdfkeieabaaQGrx3
import Derived.Test.YthkchdfkeieabaaQGrx7
namespace Go.Proofs.Ythkchdfkeieabaa.QGr
open Go.RowKit Go.Proofs.YthkchdfkeieabaaW.PrintWords Go.Proofs.YthkchdfkeieabaaW.PrintLast Go.Proofs.YthkchdfkeieabaaW.PrintMore
open List (setIfInBounds_toArray set_cons_zero set_cons_succ map_toArray map_cons map_nil)
attribute [local go_sem] max2_int min2_int max_two min_two max_three min_three max_four min_four
set_option linter.unusedVariables false
set_option maxHeartbeats 8000000
set_option maxRecDepth 100000
set_option linter.unusedSimpArgs false
mutual
def spec_loFar.l0 : Nat → Bool → Int → List Int → List Int → List Bool → Int → Int → List Int → List Bool → Int → Option (List Int × List Int)
 | 0, _, _, _, _, _, _, _, _, _, _ => none
 | k + 1, x1, x6, x7, x8, x9, x33, x34, x272000, x272001, x272002 => if x34 < x33 then (if 0 ≤ x34 then (if x34 < (x7.length : Int) then (spec_loFar.l0 k x1 x6 (x7.set (x34 : Int).toNat (-1)) x8 x9 x33 (wrap64 (x34 + 1)) x272000 x272001 x272002) else (none)) else (none)) else ((spec_loParty.f x272000 x272001 x272002).bind fun bt282 => ((spec_paLast.f k bt282.1 bt282.2).bind fun bt286 => ((spec_seIndex.f k bt286.1 bt286.2).bind fun t290 => (if 0 ≤ t290 then (if t290 < (x7.length : Int) then (if t290 < (x8.length : Int) then (spec_loFar.l1 k x1 x6 (x7.set (t290 : Int).toNat 0) (x8.set (t290 : Int).toNat 1) x9 x272000 x272001 x272002) else (none)) else (none)) else (none)))))
def spec_loFar.l1 : Nat → Bool → Int → List Int → List Int → List Bool → List Int → List Bool → Int → Option (List Int × List Int)
 | 0, _, _, _, _, _, _, _, _ => none
 | k + 1, x1, x6, x7, x8, x9, x272000, x272001, x272002 => spec_loFar.l2 k x1 x6 x7 x8 x9 (-1) x7 (x7.length : Int) 0 x272000 x272001 x272002
def spec_loFar.l2 : Nat → Bool → Int → List Int → List Int → List Bool → Int → List Int → Int → Int → List Int → List Bool → Int → Option (List Int × List Int)
 | 0, _, _, _, _, _, _, _, _, _, _, _, _ => none
 | k + 1, x1, x6, x7, x8, x9, x12, x51, x52, x53, x272000, x272001, x272002 => if x53 < x52 then (if 0 ≤ x53 then (if x53 < (x51.length : Int) then (if x53 < (x9.length : Int) then (if rdOf false x9 x53 = true then (spec_loFar.l2 k x1 x6 x7 x8 x9 x12 x51 x52 (wrap64 (x53 + 1)) x272000 x272001 x272002) else (if (rd x51 x53) ≥ 0 then (if x12 < 0 then (spec_loFar.l2 k x1 x6 x7 x8 x9 x53 x51 x52 (wrap64 (x53 + 1)) x272000 x272001 x272002) else (if 0 ≤ x12 then (if x12 < (x7.length : Int) then (if (rd x51 x53) < (rd x7 x12) then (spec_loFar.l2 k x1 x6 x7 x8 x9 x53 x51 x52 (wrap64 (x53 + 1)) x272000 x272001 x272002) else (spec_loFar.l2 k x1 x6 x7 x8 x9 x12 x51 x52 (wrap64 (x53 + 1)) x272000 x272001 x272002)) else (none)) else (none))) else (spec_loFar.l2 k x1 x6 x7 x8 x9 x12 x51 x52 (wrap64 (x53 + 1)) x272000 x272001 x272002))) else (none)) else (none)) else (none)) else (if x12 < 0 then (some (x7, x8)) else (if 0 ≤ x12 then (if x12 < (x9.length : Int) then ((spec_seState.f k x12 x6).bind fun bt297 => ((spec_loRides.f k x272000 x272001 x272002 bt297.1 bt297.2).bind fun t302 => (spec_loFar.l3 k x1 x6 x7 x8 (x9.set (x12 : Int).toNat true) x12 t302 (t302.length : Int) 0 x272000 x272001 x272002 bt297.1 bt297.2))) else (none)) else (none)))
def spec_loFar.l3 : Nat → Bool → Int → List Int → List Int → List Bool → Int → List (List Int) → Int → Int → List Int → List Bool → Int → List Bool → Bool → Option (List Int × List Int)
 | 0, _, _, _, _, _, _, _, _, _, _, _, _, _, _ => none
 | k + 1, x1, x6, x7, x8, x9, x12, x93, x94, x95, x272000, x272001, x272002, x302000, x302001 => if x95 < x94 then (if 0 ≤ x95 then (if x95 < (x93.length : Int) then ((spec_paCross.f k x302000 x302001 (rd_L2 x93 x95)).bind fun bt306 => ((spec_seIndex.f k bt306.1 bt306.2).bind fun t310 => (if 0 ≤ x12 then (if x12 < (x7.length : Int) then ((spec_loCost.f k x272000 x272001 x272002 (rd_L2 x93 x95) x1).bind fun t312 => (if 0 ≤ t310 then (if t310 < (x7.length : Int) then (if (rd x7 t310) < 0 then (spec_loFar.j4 k x1 x6 x7 x8 x9 x12 t310 (wrap64 ((rd x7 x12) + t312)) x93 x94 x95 true x272000 x272001 x272002 x302000 x302001) else (spec_loFar.j4 k x1 x6 x7 x8 x9 x12 t310 (wrap64 ((rd x7 x12) + t312)) x93 x94 x95 (decide ((wrap64 ((rd x7 x12) + t312)) < (rd x7 t310))) x272000 x272001 x272002 x302000 x302001)) else (none)) else (none))) else (none)) else (none)))) else (none)) else (none)) else (spec_loFar.l1 k x1 x6 x7 x8 x9 x272000 x272001 x272002)
def spec_loFar.j4 : Nat → Bool → Int → List Int → List Int → List Bool → Int → Int → Int → List (List Int) → Int → Int → Bool → List Int → List Bool → Int → List Bool → Bool → Option (List Int × List Int)
 | 0, _, _, _, _, _, _, _, _, _, _, _, _, _, _, _, _, _ => none
 | k + 1, x1, x6, x7, x8, x9, x12, x18, x19, x93, x94, x95, x124, x272000, x272001, x272002, x302000, x302001 => if x124 = true then (if 0 ≤ x18 then (if x18 < (x7.length : Int) then ((some (x7.set (x18 : Int).toNat x19 : List Int)).bind fun y315 => (if x18 < (x8.length : Int) then ((some (x8.set (x18 : Int).toNat 0 : List Int)).bind fun y316 => (if x19 = (rd y315 x18) then (if 0 ≤ x12 then (if x12 < (x8.length : Int) then (spec_loFar.l3 k x1 x6 y315 (y316.set (x18 : Int).toNat (wrap64 ((rd y316 x18) + (rd y316 x12)))) x9 x12 x93 x94 (wrap64 (x95 + 1)) x272000 x272001 x272002 x302000 x302001) else (none)) else (none)) else (spec_loFar.l3 k x1 x6 y315 y316 x9 x12 x93 x94 (wrap64 (x95 + 1)) x272000 x272001 x272002 x302000 x302001))) else (none))) else (none)) else (none)) else (if 0 ≤ x18 then (if x18 < (x7.length : Int) then (if x19 = (rd x7 x18) then (if x18 < (x8.length : Int) then (if 0 ≤ x12 then (if x12 < (x8.length : Int) then (spec_loFar.l3 k x1 x6 x7 (x8.set (x18 : Int).toNat (wrap64 ((rd x8 x18) + (rd x8 x12)))) x9 x12 x93 x94 (wrap64 (x95 + 1)) x272000 x272001 x272002 x302000 x302001) else (none)) else (none)) else (none)) else (spec_loFar.l3 k x1 x6 x7 x8 x9 x12 x93 x94 (wrap64 (x95 + 1)) x272000 x272001 x272002 x302000 x302001)) else (none)) else (none))
end
def spec_loFar.f (k : Nat) (l0_0 : List Int) (l0_1 : List Bool) (a0_2 : Int) (a1 : Bool) : Option (List Int × List Int) := if 0 ≤ (shl .i64 2 (l0_0.length : Int)) then (if (shl .i64 2 (l0_0.length : Int) : Int).toNat ≤ 35184372088832 then ((some (List.replicate (shl .i64 2 (l0_0.length : Int) : Int).toNat 0 : List Int)).bind fun y272 => (if (shl .i64 2 (l0_0.length : Int) : Int).toNat ≤ 281474976710656 then (spec_loFar.l0 k a1 (l0_0.length : Int) y272 (List.replicate (shl .i64 2 (l0_0.length : Int) : Int).toNat 0) (List.replicate (shl .i64 2 (l0_0.length : Int) : Int).toNat false) (y272.length : Int) 0 l0_0 l0_1 a0_2) else (none))) else (none)) else (none)
theorem spec_loFar.mono_l : ∀ k, (∀ y0 y1 y2 y3 y4 y5 y6 y7 y8 y9, LeO (spec_loFar.l0 k y0 y1 y2 y3 y4 y5 y6 y7 y8 y9) (spec_loFar.l0 (k + 1) y0 y1 y2 y3 y4 y5 y6 y7 y8 y9)) ∧ (∀ y0 y1 y2 y3 y4 y5 y6 y7, LeO (spec_loFar.l1 k y0 y1 y2 y3 y4 y5 y6 y7) (spec_loFar.l1 (k + 1) y0 y1 y2 y3 y4 y5 y6 y7)) ∧ (∀ y0 y1 y2 y3 y4 y5 y6 y7 y8 y9 y10 y11, LeO (spec_loFar.l2 k y0 y1 y2 y3 y4 y5 y6 y7 y8 y9 y10 y11) (spec_loFar.l2 (k + 1) y0 y1 y2 y3 y4 y5 y6 y7 y8 y9 y10 y11)) ∧ (∀ y0 y1 y2 y3 y4 y5 y6 y7 y8 y9 y10 y11 y12 y13, LeO (spec_loFar.l3 k y0 y1 y2 y3 y4 y5 y6 y7 y8 y9 y10 y11 y12 y13) (spec_loFar.l3 (k + 1) y0 y1 y2 y3 y4 y5 y6 y7 y8 y9 y10 y11 y12 y13)) ∧ (∀ y0 y1 y2 y3 y4 y5 y6 y7 y8 y9 y10 y11 y12 y13 y14 y15 y16, LeO (spec_loFar.j4 k y0 y1 y2 y3 y4 y5 y6 y7 y8 y9 y10 y11 y12 y13 y14 y15 y16) (spec_loFar.j4 (k + 1) y0 y1 y2 y3 y4 y5 y6 y7 y8 y9 y10 y11 y12 y13 y14 y15 y16))
 | 0 => ⟨fun _ _ _ _ _ _ _ _ _ _ r h => by simp [spec_loFar.l0] at h, fun _ _ _ _ _ _ _ _ r h => by simp [spec_loFar.l1] at h, fun _ _ _ _ _ _ _ _ _ _ _ _ r h => by simp [spec_loFar.l2] at h, fun _ _ _ _ _ _ _ _ _ _ _ _ _ _ r h => by simp [spec_loFar.l3] at h, fun _ _ _ _ _ _ _ _ _ _ _ _ _ _ _ _ _ r h => by simp [spec_loFar.j4] at h⟩
 | k + 1 => by
  obtain ⟨ih0, ih1, ih2, ih3, ih4⟩ := spec_loFar.mono_l k
  refine ⟨?_, ?_, ?_, ?_, ?_⟩
  ·intro y0 y1 y2 y3 y4 y5 y6 y7 y8 y9
   unfold spec_loFar.l0
   repeat' first
   | (with_reducible first | exact ih0 _ _ _ _ _ _ _ _ _ _ | exact ih1 _ _ _ _ _ _ _ _ | exact ih2 _ _ _ _ _ _ _ _ _ _ _ _ | exact ih3 _ _ _ _ _ _ _ _ _ _ _ _ _ _ | exact ih4 _ _ _ _ _ _ _ _ _ _ _ _ _ _ _ _ _ | exact spec_loCost.mono _ _ _ _ _ _ | exact spec_loRides.mono _ _ _ _ _ _ | exact spec_paCross.mono _ _ _ _ | exact spec_paLast.mono _ _ _ | exact spec_seIndex.mono _ _ _ | exact spec_seState.mono _ _ _ | exact LeO.refl _ | exact LeO.none _ | refine LeO.ite ?_ ?_ | refine LeO.bind ?_ (fun _ => ?_))
   | exact ih0 _ _ _ _ _ _ _ _ _ _
   | exact ih1 _ _ _ _ _ _ _ _
   | exact ih2 _ _ _ _ _ _ _ _ _ _ _ _
   | exact ih3 _ _ _ _ _ _ _ _ _ _ _ _ _ _
   | exact ih4 _ _ _ _ _ _ _ _ _ _ _ _ _ _ _ _ _
   | exact spec_loCost.mono _ _ _ _ _ _
   | exact spec_loRides.mono _ _ _ _ _ _
   | exact spec_paCross.mono _ _ _ _
   | exact spec_paLast.mono _ _ _
   | exact spec_seIndex.mono _ _ _
   | exact spec_seState.mono _ _ _
   | exact LeO.none _
   | refine LeO.ite ?_ ?_
   | refine LeO.bind ?_ (fun _ => ?_)
  ·intro y0 y1 y2 y3 y4 y5 y6 y7
   unfold spec_loFar.l1
   repeat' first
   | (with_reducible first | exact ih0 _ _ _ _ _ _ _ _ _ _ | exact ih1 _ _ _ _ _ _ _ _ | exact ih2 _ _ _ _ _ _ _ _ _ _ _ _ | exact ih3 _ _ _ _ _ _ _ _ _ _ _ _ _ _ | exact ih4 _ _ _ _ _ _ _ _ _ _ _ _ _ _ _ _ _ | exact spec_loCost.mono _ _ _ _ _ _ | exact spec_loRides.mono _ _ _ _ _ _ | exact spec_paCross.mono _ _ _ _ | exact spec_paLast.mono _ _ _ | exact spec_seIndex.mono _ _ _ | exact spec_seState.mono _ _ _ | exact LeO.refl _ | exact LeO.none _ | refine LeO.ite ?_ ?_ | refine LeO.bind ?_ (fun _ => ?_))
   | exact ih0 _ _ _ _ _ _ _ _ _ _
   | exact ih1 _ _ _ _ _ _ _ _
   | exact ih2 _ _ _ _ _ _ _ _ _ _ _ _
   | exact ih3 _ _ _ _ _ _ _ _ _ _ _ _ _ _
   | exact ih4 _ _ _ _ _ _ _ _ _ _ _ _ _ _ _ _ _
   | exact spec_loCost.mono _ _ _ _ _ _
   | exact spec_loRides.mono _ _ _ _ _ _
   | exact spec_paCross.mono _ _ _ _
   | exact spec_paLast.mono _ _ _
   | exact spec_seIndex.mono _ _ _
   | exact spec_seState.mono _ _ _
   | exact LeO.none _
   | refine LeO.ite ?_ ?_
   | refine LeO.bind ?_ (fun _ => ?_)
  ·intro y0 y1 y2 y3 y4 y5 y6 y7 y8 y9 y10 y11
   unfold spec_loFar.l2
   repeat' first
   | (with_reducible first | exact ih0 _ _ _ _ _ _ _ _ _ _ | exact ih1 _ _ _ _ _ _ _ _ | exact ih2 _ _ _ _ _ _ _ _ _ _ _ _ | exact ih3 _ _ _ _ _ _ _ _ _ _ _ _ _ _ | exact ih4 _ _ _ _ _ _ _ _ _ _ _ _ _ _ _ _ _ | exact spec_loCost.mono _ _ _ _ _ _ | exact spec_loRides.mono _ _ _ _ _ _ | exact spec_paCross.mono _ _ _ _ | exact spec_paLast.mono _ _ _ | exact spec_seIndex.mono _ _ _ | exact spec_seState.mono _ _ _ | exact LeO.refl _ | exact LeO.none _ | refine LeO.ite ?_ ?_ | refine LeO.bind ?_ (fun _ => ?_))
   | exact ih0 _ _ _ _ _ _ _ _ _ _
   | exact ih1 _ _ _ _ _ _ _ _
   | exact ih2 _ _ _ _ _ _ _ _ _ _ _ _
   | exact ih3 _ _ _ _ _ _ _ _ _ _ _ _ _ _
   | exact ih4 _ _ _ _ _ _ _ _ _ _ _ _ _ _ _ _ _
   | exact spec_loCost.mono _ _ _ _ _ _
   | exact spec_loRides.mono _ _ _ _ _ _
   | exact spec_paCross.mono _ _ _ _
   | exact spec_paLast.mono _ _ _
   | exact spec_seIndex.mono _ _ _
   | exact spec_seState.mono _ _ _
   | exact LeO.none _
   | refine LeO.ite ?_ ?_
   | refine LeO.bind ?_ (fun _ => ?_)
  ·intro y0 y1 y2 y3 y4 y5 y6 y7 y8 y9 y10 y11 y12 y13
   unfold spec_loFar.l3
   repeat' first
   | (with_reducible first | exact ih0 _ _ _ _ _ _ _ _ _ _ | exact ih1 _ _ _ _ _ _ _ _ | exact ih2 _ _ _ _ _ _ _ _ _ _ _ _ | exact ih3 _ _ _ _ _ _ _ _ _ _ _ _ _ _ | exact ih4 _ _ _ _ _ _ _ _ _ _ _ _ _ _ _ _ _ | exact spec_loCost.mono _ _ _ _ _ _ | exact spec_loRides.mono _ _ _ _ _ _ | exact spec_paCross.mono _ _ _ _ | exact spec_paLast.mono _ _ _ | exact spec_seIndex.mono _ _ _ | exact spec_seState.mono _ _ _ | exact LeO.refl _ | exact LeO.none _ | refine LeO.ite ?_ ?_ | refine LeO.bind ?_ (fun _ => ?_))
   | exact ih0 _ _ _ _ _ _ _ _ _ _
   | exact ih1 _ _ _ _ _ _ _ _
   | exact ih2 _ _ _ _ _ _ _ _ _ _ _ _
   | exact ih3 _ _ _ _ _ _ _ _ _ _ _ _ _ _
   | exact ih4 _ _ _ _ _ _ _ _ _ _ _ _ _ _ _ _ _
   | exact spec_loCost.mono _ _ _ _ _ _
   | exact spec_loRides.mono _ _ _ _ _ _
   | exact spec_paCross.mono _ _ _ _
   | exact spec_paLast.mono _ _ _
   | exact spec_seIndex.mono _ _ _
   | exact spec_seState.mono _ _ _
   | exact LeO.none _
   | refine LeO.ite ?_ ?_
   | refine LeO.bind ?_ (fun _ => ?_)
  ·intro y0 y1 y2 y3 y4 y5 y6 y7 y8 y9 y10 y11 y12 y13 y14 y15 y16
   unfold spec_loFar.j4
   repeat' first
   | (with_reducible first | exact ih0 _ _ _ _ _ _ _ _ _ _ | exact ih1 _ _ _ _ _ _ _ _ | exact ih2 _ _ _ _ _ _ _ _ _ _ _ _ | exact ih3 _ _ _ _ _ _ _ _ _ _ _ _ _ _ | exact ih4 _ _ _ _ _ _ _ _ _ _ _ _ _ _ _ _ _ | exact spec_loCost.mono _ _ _ _ _ _ | exact spec_loRides.mono _ _ _ _ _ _ | exact spec_paCross.mono _ _ _ _ | exact spec_paLast.mono _ _ _ | exact spec_seIndex.mono _ _ _ | exact spec_seState.mono _ _ _ | exact LeO.refl _ | exact LeO.none _ | refine LeO.ite ?_ ?_ | refine LeO.bind ?_ (fun _ => ?_))
   | exact ih0 _ _ _ _ _ _ _ _ _ _
   | exact ih1 _ _ _ _ _ _ _ _
   | exact ih2 _ _ _ _ _ _ _ _ _ _ _ _
   | exact ih3 _ _ _ _ _ _ _ _ _ _ _ _ _ _
   | exact ih4 _ _ _ _ _ _ _ _ _ _ _ _ _ _ _ _ _
   | exact spec_loCost.mono _ _ _ _ _ _
   | exact spec_loRides.mono _ _ _ _ _ _
   | exact spec_paCross.mono _ _ _ _
   | exact spec_paLast.mono _ _ _
   | exact spec_seIndex.mono _ _ _
   | exact spec_seState.mono _ _ _
   | exact LeO.none _
   | refine LeO.ite ?_ ?_
   | refine LeO.bind ?_ (fun _ => ?_)
theorem spec_loFar.mono : ∀ a0 a1 a2 a3 k, LeO (spec_loFar.f k a0 a1 a2 a3) (spec_loFar.f (k + 1) a0 a1 a2 a3) := by
 intro a0 a1 a2 a3 k
 obtain ⟨ih0, ih1, ih2, ih3, ih4⟩ := spec_loFar.mono_l k
 unfold spec_loFar.f
 repeat' first
  | (with_reducible first | exact ih0 _ _ _ _ _ _ _ _ _ _ | exact ih1 _ _ _ _ _ _ _ _ | exact ih2 _ _ _ _ _ _ _ _ _ _ _ _ | exact ih3 _ _ _ _ _ _ _ _ _ _ _ _ _ _ | exact ih4 _ _ _ _ _ _ _ _ _ _ _ _ _ _ _ _ _ | exact spec_loCost.mono _ _ _ _ _ _ | exact spec_loRides.mono _ _ _ _ _ _ | exact spec_paCross.mono _ _ _ _ | exact spec_paLast.mono _ _ _ | exact spec_seIndex.mono _ _ _ | exact spec_seState.mono _ _ _ | exact LeO.refl _ | exact LeO.none _ | refine LeO.ite ?_ ?_ | refine LeO.bind ?_ (fun _ => ?_))
  | exact ih0 _ _ _ _ _ _ _ _ _ _
  | exact ih1 _ _ _ _ _ _ _ _
  | exact ih2 _ _ _ _ _ _ _ _ _ _ _ _
  | exact ih3 _ _ _ _ _ _ _ _ _ _ _ _ _ _
  | exact ih4 _ _ _ _ _ _ _ _ _ _ _ _ _ _ _ _ _
  | exact spec_loCost.mono _ _ _ _ _ _
  | exact spec_loRides.mono _ _ _ _ _ _
  | exact spec_paCross.mono _ _ _ _
  | exact spec_paLast.mono _ _ _
  | exact spec_seIndex.mono _ _ _
  | exact spec_seState.mono _ _ _
  | exact LeO.none _
  | refine LeO.ite ?_ ?_
  | refine LeO.bind ?_ (fun _ => ?_)
def spec_loFar.T2 : Bool × List (List Nat × List Nat) := (true, [([], []), ([0], [0]), ([1, 1], [1]), ([], []), ([3], [3]), ([4, 4], [4]), ([2, 0, 1, 2], [2]), ([5, 6, 0, 1, 2, 3, 4, 5, 6], [5])])
def spec_loFar.B2 : List Nat := [0, 1, 3, 0, 8, 24, 7, 127]
theorem spec_loFar.tab2 : rtab .any (opsOf Try.f54 2) = spec_loFar.T2 := by kernel_rfl
theorem spec_loFar.bits2 : waitsOk spec_loFar.T2.2 spec_loFar.B2 = true := by kernel_rfl
def spec_loFar.T27 : Bool × List (List Nat × List Nat) := (true, [([], []), ([], []), ([0, 1], [0, 1]), ([2], [2]), ([], []), ([], []), ([], []), ([4, 5, 6], [4, 5, 6]), ([3, 7], [3, 7]), ([8, 7, 0, 1, 2, 3, 4, 5, 6, 7, 8], [8])])
def spec_loFar.B27 : List Nat := [0, 0, 3, 7, 0, 0, 0, 112, 255, 511]
theorem spec_loFar.tab27 : rtab .any (opsOf Try.f54 27) = spec_loFar.T27 := by kernel_rfl
theorem spec_loFar.bits27 : waitsOk spec_loFar.T27.2 spec_loFar.B27 = true := by kernel_rfl
def spec_loFar.T32 : Bool × List (List Nat × List Nat) := (true, [([], []), ([], []), ([0, 1], [0, 1]), ([2], [2]), ([], []), ([], []), ([4, 5], [4, 5]), ([6], [6]), ([3, 7], [3, 7]), ([0, 1, 0, 1, 2, 3, 4, 5, 6, 7, 8], [0, 1]), ([9, 8, 0, 1, 2, 3, 4, 5, 6, 7, 8], [8, 9])])
def spec_loFar.B32 : List Nat := [0, 0, 3, 7, 0, 0, 48, 112, 255, 511, 1023]
theorem spec_loFar.tab32 : rtab .any (opsOf Try.f54 32) = spec_loFar.T32 := by kernel_rfl
theorem spec_loFar.bits32 : waitsOk spec_loFar.T32.2 spec_loFar.B32 = true := by kernel_rfl
theorem spec_loFar.calls (k : Nat) (A0_0 : Option Addr) (c0_0 : Nat) (l0_0 : List Int) (A0_1 : Option Addr) (c0_1 : Nat) (l0_1 : List Bool) (a0_2 : Int) (a1 : Bool) (r1 : List Int) (r2 : List Int) (w : World) (hr0_0 : Kd.C (Kd.int .i64) w A0_0 l0_0.length l0_0) (hc0_0 : l0_0.length ≤ c0_0) (hr0_1 : Kd.C Kd.bool w A0_1 l0_1.length l0_1) (hc0_1 : l0_1.length ≤ c0_1) (h : spec_loFar.f k l0_0 l0_1 a0_2 a1 = some (r1, r2)) :
  Calls Try.prog 54 #[.agg #[.slice A0_0 l0_0.length c0_0, .slice A0_1 l0_1.length c0_1, .int .i64 a0_2], .bool a1] w fun e w' => ∃ v0_ v1_ : Value, e = .returned (.tuple #[v0_, v1_]) ∧ Kd.R (Kd.int .i64) 3 w' w.heap.size (fun k_ => some k_ ≠ (v1_ : Value).ownBlock) v0_ r1 ∧ Kd.R (Kd.int .i64) 3 w' w.heap.size (fun k_ => some k_ ≠ (v0_ : Value).ownBlock) v1_ r2 ∧ Below w.heap.size w w' := by
 have hu43 := Try.underlying43
 have hu115 := Try.underlying115
 have HR0_0 := ak_ hr0_0
 have HC0_0 := ak_ hc0_0
 clear hr0_0 hc0_0
 have HR0_1 := ak_ hr0_1
 have HC0_1 := ak_ hc0_1
 clear hr0_1 hc0_1
 have HB := ak_ (Below.refl w.heap.size w)
 have H : (if 0 ≤ (shl .i64 2 (l0_0.length : Int)) then (if (shl .i64 2 (l0_0.length : Int) : Int).toNat ≤ 35184372088832 then ((some (List.replicate (shl .i64 2 (l0_0.length : Int) : Int).toNat 0 : List Int)).bind fun y272 => (if (shl .i64 2 (l0_0.length : Int) : Int).toNat ≤ 281474976710656 then (spec_loFar.l0 k a1 (l0_0.length : Int) y272 (List.replicate (shl .i64 2 (l0_0.length : Int) : Int).toNat 0) (List.replicate (shl .i64 2 (l0_0.length : Int) : Int).toNat false) (y272.length : Int) 0 l0_0 l0_1 a0_2) else (none))) else (none)) else (none)) = some (r1, r2) := h
 clear h
 obtain ⟨ji3, hji3⟩ : ∃ j_ : Int, (shl .i64 2 (l0_0.length : Int)) = j_ := ⟨_, rfl⟩
 replace H : (if 0 ≤ (ji3) then (if (ji3 : Int).toNat ≤ 35184372088832 then ((some (List.replicate (ji3 : Int).toNat 0 : List Int)).bind fun y272 => (if (ji3 : Int).toNat ≤ 281474976710656 then (spec_loFar.l0 k a1 (l0_0.length : Int) y272 (List.replicate (ji3 : Int).toNat 0) (List.replicate (ji3 : Int).toNat false) (y272.length : Int) 0 l0_0 l0_1 a0_2) else (none))) else (none)) else (none)) = some (r1, r2) := by first | (rw [hji3] at H; exact H) | (simp only [hji3] at H ⊢; exact H)
 have hji3_ : (IntKind.i64.wrap (2 * 2 ^ min (l0_0.length : Int).toNat 64)) = ji3 := hji3
 have hji3z : (l0_0.length : Int) ≤ 64 → (IntKind.i64.wrap (2 * 2 ^ (l0_0.length : Int).toNat)) = ji3 := shl_small hji3
 have hji3p : (IntKind.i64.wrap (2 * 2 ^ min l0_0.length 64)) = ji3 := hji3_
 have hji3q : (l0_0.length : Int) ≤ 64 → (IntKind.i64.wrap (2 * 2 ^ l0_0.length)) = ji3 := hji3z
 have hji3y : (wrap64 (2 * 2 ^ min (l0_0.length : Int).toNat 64)) = ji3 := (i64_w _).symm.trans hji3_
 have hji3x : (l0_0.length : Int) ≤ 64 → (wrap64 (2 * 2 ^ (l0_0.length : Int).toNat)) = ji3 := fun h_ => (i64_w _).symm.trans (hji3z h_)
 by_cases c4 : 0 ≤ (ji3)
 ·
  rw [if_pos c4] at H
  have c4b0 := eq_true c4
  have c4b1 : decide (0 ≤ (ji3)) = true := decide_eq_true c4
  clear c4
  by_cases c5 : (ji3 : Int).toNat ≤ 35184372088832
  ·
   rw [if_pos c5] at H
   have c5b0 := eq_true c5
   have c5b1 : decide ((ji3 : Int).toNat ≤ 35184372088832) = true := decide_eq_true c5
   clear c5
   obtain ⟨y272, hy272⟩ : ∃ y_ : List Int, y_ = (List.replicate (ji3 : Int).toNat 0) := ⟨_, rfl⟩
   replace H : (if (ji3 : Int).toNat ≤ 281474976710656 then (spec_loFar.l0 k a1 (l0_0.length : Int) y272 (List.replicate (ji3 : Int).toNat 0) (List.replicate (ji3 : Int).toNat false) (y272.length : Int) 0 l0_0 l0_1 a0_2) else (none)) = some (r1, r2) := by first | (rw [hy272]; exact H) | exact H
   have Ny272 := ak_ hy272
   clear hy272
   obtain ⟨y275, hy275⟩ : ∃ y_ : List Int, y_ = (List.replicate (ji3 : Int).toNat 0) := ⟨_, rfl⟩
   replace H : (if (ji3 : Int).toNat ≤ 281474976710656 then (spec_loFar.l0 k a1 (l0_0.length : Int) y272 y275 (List.replicate (ji3 : Int).toNat false) (y272.length : Int) 0 l0_0 l0_1 a0_2) else (none)) = some (r1, r2) := by first | (rw [hy275]; exact H) | exact H
   have Ny275 := ak_ hy275
   clear hy275
   by_cases c8 : (ji3 : Int).toNat ≤ 281474976710656
   ·
    rw [if_pos c8] at H
    have c8b0 := eq_true c8
    have c8b1 : decide ((ji3 : Int).toNat ≤ 281474976710656) = true := decide_eq_true c8
    clear c8
    obtain ⟨y278, hy278⟩ : ∃ y_ : List Bool, y_ = (List.replicate (ji3 : Int).toNat false) := ⟨_, rfl⟩
    replace H : (spec_loFar.l0 k a1 (l0_0.length : Int) y272 y275 y278 (y272.length : Int) 0 l0_0 l0_1 a0_2) = some (r1, r2) := by first | (rw [hy278]; exact H) | exact H
    have Ny278 := ak_ hy278
    clear hy278
    have H' := ak_ H
    clear H
    go_enter Try.func54, Try.ntmps54
    try go_wp2_with (first | ((with_reducible refine gate_dst (N := 2) rfl ?_); refine box_event ?hg (N := 2) ?hd (cs := #[.slice A0_0 l0_0.length c0_0, .slice A0_1 l0_1.length c0_1, .int .i64 a0_2]) (t := 43) ?hr ?_; (case hd => rfl); (case hg => rfl); (case hr => go_simp <;> rfl); intro gb271 hg w9 hbox hb; have n0_ := ak_ (bs_ (bb_ HB.out) hb); have n1_ := ak_ (hbox); have n2_ := ak_ ((by rw [hg]; exact (bz_ (bb_ HB.out)) : w.heap.size ≤ gb271)); have n3_ := n2_; clear HB; have HB := n0_; have BK271 := n1_; have GW271 := n2_; have GE271 := n3_; clear n0_ n1_ n2_ n3_; clear hb hbox hg; have hcz10_0 : w9.cell? ⟨gb271, 0, none⟩ = some (.slice A0_0 l0_0.length c0_0) := (blk_cell BK271.out 0).trans rfl; have hcz10_1 : w9.cell? ⟨gb271, 1, none⟩ = some (.slice A0_1 l0_1.length c0_1) := (blk_cell BK271.out 1).trans rfl; have hcz10_2 : w9.cell? ⟨gb271, 2, none⟩ = some (.int .i64 a0_2) := (blk_cell BK271.out 2).trans rfl; have hfz10_0 := blk_frozen BK271.out 0; have hfz10_1 := blk_frozen BK271.out 1; have hfz10_2 := blk_frozen BK271.out 2))
    have n0_ := ak_ (k1_ BK271.out)
    have n1_ := ak_ (b1_ HB.out)
    clear BK271 HB
    have BK271 := n0_; have HB := n1_
    clear n0_ n1_
    refine start_ (n := 8) (S := fun w' => True) (ds := []) (mb_ 8 0) (by kernel_rfl) rfl rfl trivial (fun hHeld => ?_); refine with_tabW spec_loFar.tab2 spec_loFar.bits2 (fun HT_ HW_ => ?_)
    generalize w9.drew = w11 at BK271 HB hHeld ⊢
    refine pure_ (i := 0) (N := some 23) (v := ?_) (a' := ?_) (mb_ 8 1) rfl rfl (any_of HT_.out (by kernel_rfl)) (fun _ _ _ h => h) (Or.inl ⟨by rfl, ?_⟩) ?_ ?_
    rotate_left
    ·
     intro w'
     go_simp
     with_reducible rfl
    rotate_left
    ·
     simp only [Act.put, setIfInBounds_toArray, set_cons_zero, set_cons_succ, i64_w, i32_w]
     rfl
    refine pure_ (i := 1) (N := some 24) (v := ?_) (a' := ?_) (mb_ 8 3) rfl rfl (any_of HT_.out (by kernel_rfl)) (fun _ _ _ h => h) (Or.inl ⟨by rfl, ?_⟩) ?_ ?_
    rotate_left
    ·
     intro w'
     go_simp
     with_reducible rfl
    rotate_left
    ·
     simp only [Act.put, setIfInBounds_toArray, set_cons_zero, set_cons_succ, i64_w, i32_w]
     rfl
    refine pure_ (i := 3) (N := some 26) (v := ?_) (a' := ?_) (mb_ 8 11) rfl rfl (any_of HT_.out (by kernel_rfl)) (fun _ _ _ h => h) (Or.inl ⟨by rfl, ?_⟩) ?_ ?_
    rotate_left
    ·
     intro w'
     go_simp
     with_reducible rfl
    rotate_left
    ·
     simp only [Act.put, setIfInBounds_toArray, set_cons_zero, set_cons_succ, i64_w, i32_w]
     rfl
    refine pure_ (i := 4) (N := some 27) (v := ?_) (a' := ?_) (mb_ 8 27) rfl rfl (any_of HT_.out (by kernel_rfl)) (fun _ _ _ h => h) (Or.inl ⟨by rfl, ?_⟩) ?_ ?_
    rotate_left
    ·
     intro w'
     go_simp
     with_reducible rfl
    rotate_left
    ·
     simp only [Act.put, setIfInBounds_toArray, set_cons_zero, set_cons_succ, i64_w, i32_w]
     rfl
    refine join_ (σ := Value × Value) 1 (mb_ 8 127) (fun s_ => [(25, s_.1), (28, s_.2), (7, s_.1)]) (fun s_ w' => (Kd.R (Kd.int .i64) 3 w' w.heap.size (fun k_ => some k_ ≠ (s_.2 : Value).ownBlock) s_.1 y272) ∧ (Kd.R (Kd.int .i64) 3 w' w.heap.size (fun k_ => some k_ ≠ (s_.1 : Value).ownBlock) s_.2 y275) ∧ (w'.heap[gb271]? = some (.cells #[.slice A0_0 l0_0.length c0_0, .slice A0_1 l0_1.length c0_1, .int .i64 a0_2] 43 (0, 0))) ∧ (Below w.heap.size w w')) ?_ ?_
    rotate_left
    ·
     intro hCont
     refine two_ (i := 2) (j := 5) (Ni := some 25) (Nj := some 28) (mb_ 8 31) (mb_ 8 59) rfl rfl rfl rfl (two_of HT_.out (by kernel_rfl)) (by decide) (by decide) (fun K hK => ?_) (fun K hK => ?_)
     ·
      skip
      refine Kd.R_make_step (Kd.int .i64) _ 3 (by rfl) (N := 25) rfl 29 _ _ rfl ji3 rfl rfl Try.underlying29 (.int .i64 0) 8 info3 rfl (by decide) (by omega) 0 (ok := fun _ => True) (okp := fun _ => True) rfl (fun _ hk => hk) trivial (odt_ (by assumption)) (Nat.le_trans (Nat.mul_le_mul_right _ (odt_ (by assumption) : ji3.toNat ≤ 35184372088832)) (by omega)) (Below.refl _ _) (Nat.le_refl _) ?_
      intro v273 w12 ho13 hb hg_ hnew_
      clear hg_ hnew_
      (first | rw [← Ny272.out] at ho13 | (simp only [Int.reduceToNat] at ho13; rw [← Ny272.out] at ho13))
      have n0_ := ak_ (Kd.R_lower ho13 (bz_ (by repeat (first | exact HB.out | apply ba_ | apply bN_ | apply b1_ | refine below_set ?_ GE271.out))))
      have n1_ := ak_ (blk_below (pk BK271.out) hb)
      have n2_ := ak_ (bs_ (by repeat (first | exact HB.out | apply ba_ | apply bN_ | apply b1_ | refine below_set ?_ GE271.out)) hb)
      clear BK271 HB
      have HO274 := n0_; have BK271 := n1_; have HB := n2_
      clear n0_ n1_ n2_ hb ho13
      refine hK.out _ _ trivial (fun hHeld => ?_)
      clear hK K
      refine norm_ (a' := ?_) ?_ ?_
      rotate_left
      ·
       show Act.put _ (some 25) _ = _
       simp only [Act.put, setIfInBounds_toArray, set_cons_zero, set_cons_succ, i64_w, i32_w]
       rfl
      refine pure_ (i := 6) (N := some 7) (v := ?_) (a' := ?_) (mb_ 8 95) rfl rfl (any_of HT_.out (by kernel_rfl)) (fun _ _ _ h => h) (Or.inl ⟨by rfl, ?_⟩) ?_ ?_
      rotate_left
      ·
       intro w'
       go_simp
       with_reducible rfl
      rotate_left
      ·
       simp only [Act.put, setIfInBounds_toArray, set_cons_zero, set_cons_succ, i64_w, i32_w]
       rfl
      refine one_ (i := 5) (N := some 28) (mb_ 8 127) rfl rfl (one_of HT_.out (by kernel_rfl)) (by decide) (fun K hK => ?_)
      refine Kd.R_make_step (Kd.int .i64) _ 3 (by rfl) (N := 28) rfl 29 _ _ rfl ji3 rfl rfl Try.underlying29 (.int .i64 0) 8 info3 rfl (by decide) (by omega) 0 (ok := fun _ => True) (okp := fun _ => True) rfl (fun _ hk => hk) trivial (odt_ (by assumption)) (Nat.le_trans (Nat.mul_le_mul_right _ (odt_ (by assumption) : ji3.toNat ≤ 35184372088832)) (by omega)) (Below.refl _ _) (Nat.le_refl _) ?_
      intro v276 w14 ho15 hb hg_ hnew_
      clear hg_ hnew_
      (first | rw [← Ny275.out] at ho15 | (simp only [Int.reduceToNat] at ho15; rw [← Ny275.out] at ho15))
      have n0_ := ak_ (Kd.R_elder' (Kd.pR HO274.out) (Kd.R_base ho15) hb)
      have n1_ := ak_ (Kd.R_lower (Kd.R_new' ho15 (Kd.R_lt (Kd.pR HO274.out))) (bz_ (by repeat (first | exact HB.out | apply ba_ | apply bN_ | apply b1_ | refine below_set ?_ GE271.out))))
      have n2_ := ak_ (blk_below (pk BK271.out) hb)
      have n3_ := ak_ (bs_ (by repeat (first | exact HB.out | apply ba_ | apply bN_ | apply b1_ | refine below_set ?_ GE271.out)) hb)
      clear HO274 BK271 HB
      have HO274 := n0_; have HO277 := n1_; have BK271 := n2_; have HB := n3_
      clear n0_ n1_ n2_ n3_ hb ho15
      refine hK.out _ _ trivial (fun hHeld => ?_)
      clear hK K
      refine norm_ (a' := ?_) ?_ ?_
      rotate_left
      ·
       show Act.put _ (some 28) _ = _
       simp only [Act.put, setIfInBounds_toArray, set_cons_zero, set_cons_succ, i64_w, i32_w]
       rfl
      exact norm_ (by simp only [putAll, Act.put, setIfInBounds_toArray, set_cons_zero, set_cons_succ]) (hCont (v273, v276) _ ⟨(by (with_reducible repeat (first | apply Kd.R_alloc | apply Kd.R_drewN | apply Kd.R_drew)); exact Kd.R_mono HO274.out (fun _ hk => hk.2)), (by (with_reducible repeat (first | apply Kd.R_alloc | apply Kd.R_drewN | apply Kd.R_drew)); exact Kd.R_mono HO277.out (fun _ hk => hk.2)), (pk BK271.out), (by repeat (first | exact HB.out | apply ba_ | apply bN_ | apply b1_ | refine below_set ?_ GE271.out))⟩)
     ·
      skip
      refine Kd.R_make_step (Kd.int .i64) _ 3 (by rfl) (N := 28) rfl 29 _ _ rfl ji3 rfl rfl Try.underlying29 (.int .i64 0) 8 info3 rfl (by decide) (by omega) 0 (ok := fun _ => True) (okp := fun _ => True) rfl (fun _ hk => hk) trivial (odt_ (by assumption)) (Nat.le_trans (Nat.mul_le_mul_right _ (odt_ (by assumption) : ji3.toNat ≤ 35184372088832)) (by omega)) (Below.refl _ _) (Nat.le_refl _) ?_
      intro v276 w12 ho13 hb hg_ hnew_
      clear hg_ hnew_
      (first | rw [← Ny275.out] at ho13 | (simp only [Int.reduceToNat] at ho13; rw [← Ny275.out] at ho13))
      have n0_ := ak_ (Kd.R_lower ho13 (bz_ (by repeat (first | exact HB.out | apply ba_ | apply bN_ | apply b1_ | refine below_set ?_ GE271.out))))
      have n1_ := ak_ (blk_below (pk BK271.out) hb)
      have n2_ := ak_ (bs_ (by repeat (first | exact HB.out | apply ba_ | apply bN_ | apply b1_ | refine below_set ?_ GE271.out)) hb)
      clear BK271 HB
      have HO277 := n0_; have BK271 := n1_; have HB := n2_
      clear n0_ n1_ n2_ hb ho13
      refine hK.out _ _ trivial (fun hHeld => ?_)
      clear hK K
      refine norm_ (a' := ?_) ?_ ?_
      rotate_left
      ·
       show Act.put _ (some 28) _ = _
       simp only [Act.put, setIfInBounds_toArray, set_cons_zero, set_cons_succ, i64_w, i32_w]
       rfl
      refine one_ (i := 2) (N := some 25) (mb_ 8 63) rfl rfl (one_of HT_.out (by kernel_rfl)) (by decide) (fun K hK => ?_)
      refine Kd.R_make_step (Kd.int .i64) _ 3 (by rfl) (N := 25) rfl 29 _ _ rfl ji3 rfl rfl Try.underlying29 (.int .i64 0) 8 info3 rfl (by decide) (by omega) 0 (ok := fun _ => True) (okp := fun _ => True) rfl (fun _ hk => hk) trivial (odt_ (by assumption)) (Nat.le_trans (Nat.mul_le_mul_right _ (odt_ (by assumption) : ji3.toNat ≤ 35184372088832)) (by omega)) (Below.refl _ _) (Nat.le_refl _) ?_
      intro v273 w14 ho15 hb hg_ hnew_
      clear hg_ hnew_
      (first | rw [← Ny272.out] at ho15 | (simp only [Int.reduceToNat] at ho15; rw [← Ny272.out] at ho15))
      have n0_ := ak_ (Kd.R_elder' (Kd.pR HO277.out) (Kd.R_base ho15) hb)
      have n1_ := ak_ (Kd.R_lower (Kd.R_new' ho15 (Kd.R_lt (Kd.pR HO277.out))) (bz_ (by repeat (first | exact HB.out | apply ba_ | apply bN_ | apply b1_ | refine below_set ?_ GE271.out))))
      have n2_ := ak_ (blk_below (pk BK271.out) hb)
      have n3_ := ak_ (bs_ (by repeat (first | exact HB.out | apply ba_ | apply bN_ | apply b1_ | refine below_set ?_ GE271.out)) hb)
      clear HO277 BK271 HB
      have HO277 := n0_; have HO274 := n1_; have BK271 := n2_; have HB := n3_
      clear n0_ n1_ n2_ n3_ hb ho15
      refine hK.out _ _ trivial (fun hHeld => ?_)
      clear hK K
      refine norm_ (a' := ?_) ?_ ?_
      rotate_left
      ·
       show Act.put _ (some 25) _ = _
       simp only [Act.put, setIfInBounds_toArray, set_cons_zero, set_cons_succ, i64_w, i32_w]
       rfl
      refine pure_ (i := 6) (N := some 7) (v := ?_) (a' := ?_) (mb_ 8 127) rfl rfl (any_of HT_.out (by kernel_rfl)) (fun _ _ _ h => h) (Or.inl ⟨by rfl, ?_⟩) ?_ ?_
      rotate_left
      ·
       intro w'
       go_simp
       with_reducible rfl
      rotate_left
      ·
       simp only [Act.put, setIfInBounds_toArray, set_cons_zero, set_cons_succ, i64_w, i32_w]
       rfl
      exact norm_ (by simp only [putAll, Act.put, setIfInBounds_toArray, set_cons_zero, set_cons_succ]) (hCont (v273, v276) _ ⟨(by (with_reducible repeat (first | apply Kd.R_alloc | apply Kd.R_drewN | apply Kd.R_drew)); exact Kd.R_mono HO274.out (fun _ hk => hk.2)), (by (with_reducible repeat (first | apply Kd.R_alloc | apply Kd.R_drewN | apply Kd.R_drew)); exact Kd.R_mono HO277.out (fun _ hk => hk.2)), (pk BK271.out), (by repeat (first | exact HB.out | apply ba_ | apply bN_ | apply b1_ | refine below_set ?_ GE271.out))⟩)
    rintro ⟨v273, v276⟩ w16 ⟨h0_, h1_, h2_, h3_⟩
    have n0_ : Aside0 (Kd.R (Kd.int .i64) 3 w16 w.heap.size (fun k_ => some k_ ≠ (v276 : Value).ownBlock) v273 y272) := ⟨h0_⟩
    have n1_ : Aside0 (Kd.R (Kd.int .i64) 3 w16 w.heap.size (fun k_ => some k_ ≠ (v273 : Value).ownBlock) v276 y275) := ⟨h1_⟩
    have n2_ : Aside0 (w16.heap[gb271]? = some (.cells #[.slice A0_0 l0_0.length c0_0, .slice A0_1 l0_1.length c0_1, .int .i64 a0_2] 43 (0, 0))) := ⟨h2_⟩
    have n3_ : Aside0 (Below w.heap.size w w16) := ⟨h3_⟩
    clear BK271 HB h0_ h1_ h2_ h3_
    have HO274 := n0_; have HO277 := n1_; have BK271 := n2_; have HB := n3_
    clear n0_ n1_ n2_ n3_
    have hHeld := trivial
    refine norm_ (a' := ?_) ?_ ?_
    rotate_left
    ·
     simp only [putAll, Act.put, setIfInBounds_toArray, set_cons_zero, set_cons_succ]
     rfl
    refine pure_ (i := 7) (N := some 8) (v := ?_) (a' := ?_) (mb_ 8 255) rfl rfl (any_of HT_.out (by kernel_rfl)) (fun _ _ _ h => h) (Or.inl ⟨by rfl, ?_⟩) ?_ ?_
    rotate_left
    ·
     intro w'
     go_simp
     with_reducible rfl
    rotate_left
    ·
     simp only [Act.put, setIfInBounds_toArray, set_cons_zero, set_cons_succ, i64_w, i32_w]
     rfl
    refine done_ (done_of HT_.out (by kernel_rfl)) ?_
    try go_wp2_with (first | ((with_reducible refine gate_dst (N := 31) rfl ?_); refine Kd.R_make Kd.bool _ 4 rfl (N := 31) rfl 38 _ _ rfl ji3 rfl rfl Try.underlying38 (.bool false) 1 info4 rfl (by decide) (by omega) false (ok := fun _ => True) (okp := fun _ => True) rfl (fun _ hk => hk) trivial (odt_ (by assumption)) (Nat.le_trans (Nat.mul_le_mul_right _ (odt_ (by assumption) : ji3.toNat ≤ 281474976710656)) (by omega)) (Below.refl _ _) (Nat.le_refl _) ?_; intro v279 w17 ho18 hb hg_ hnew_; clear hg_ hnew_; (first | rw [← Ny278.out] at ho18 | (simp only [Int.reduceToNat] at ho18; rw [← Ny278.out] at ho18)); have n0_ := ak_ (Kd.R_below (Kd.pR HO274.out) hb); have n1_ := ak_ (Kd.R_below (Kd.pR HO277.out) hb); have n2_ := ak_ (Kd.R_lower ho18 (bz_ (by repeat (first | exact HB.out | apply ba_ | apply bN_ | apply b1_ | refine below_set ?_ GE271.out)))); have n3_ := ak_ (blk_below (pk BK271.out) hb); have n4_ := ak_ (bs_ (by repeat (first | exact HB.out | apply ba_ | apply bN_ | apply b1_ | refine below_set ?_ GE271.out)) hb); clear HO274; clear HO277; clear BK271; clear HB; have HO274 := n0_; have HO277 := n1_; have HO280 := n2_; have BK271 := n3_; have HB := n4_; clear n0_ n1_ n2_ n3_ n4_; clear hb ho18; obtain ⟨Ao19, co19, eo19⟩ := Kd.R_slice HO274.out; subst eo19))
    go_loopg [34] k (fun kq v34 w' => ∃ (x7_1 : List Int) (x34_1 : Int), v34 = .int .i64 x34_1 ∧ Aside0 (spec_loFar.l0 kq a1 (l0_0.length : Int) x7_1 y275 y278 (y272.length : Int) x34_1 l0_0 l0_1 a0_2 = some (r1, r2)) ∧ Aside0 (kq ≤ k) ∧ Aside0 (Kd.R (Kd.int .i64) 3 w' w.heap.size (fun k_ => some k_ ≠ (v276 : Value).ownBlock) (.slice Ao19 y272.length co19) x7_1) ∧ Aside0 (Kd.R (Kd.int .i64) 3 w' w.heap.size (fun k_ => some k_ ≠ ((.slice Ao19 y272.length co19) : Value).ownBlock) v276 y275) ∧ Aside0 (Kd.R Kd.bool 4 w' w.heap.size (fun _ => True) v279 y278) ∧ Aside0 (w'.heap[gb271]? = some (.cells #[(.slice A0_0 l0_0.length c0_0), (.slice A0_1 l0_1.length c0_1), .int .i64 a0_2] 43 (0, 0))) ∧ Aside0 (Below w.heap.size w w'))
    case atStart => exact ⟨(y272), (0), (by first | rfl | (simp; done) | (simp [*]; done)), H', ⟨Nat.le_refl _⟩, ⟨Kd.pR HO274.out⟩, ⟨Kd.pR HO277.out⟩, ⟨Kd.pR HO280.out⟩, ⟨pk BK271.out⟩, ⟨by repeat (first | exact HB.out | apply ba_ | apply bN_ | apply b1_ | refine below_set ?_ GE271.out)⟩⟩
    case round =>
     clear H'
     try clear p2
     try clear c4
     try clear c4b0
     try clear c4b1
     try clear c5
     try clear c5b0
     try clear c5b1
     try clear c6
     try clear c6b0
     try clear p6
     try clear c7
     try clear c7b0
     try clear c8
     try clear c8b0
     try clear c8b1
     try clear hcz10_0
     try clear hcz10_1
     try clear hcz10_2
     try clear hfz10_0
     try clear hfz10_1
     try clear hfz10_2
     obtain ⟨x7_1, x34_1, rfl, HA, HK1, HO_7, HO_8, HO_9, BK271, HB⟩ := hrel
     have hl7_1 := (Kd.R_reads' HO_7.out).1
     rw [hl7_1] at HO_7
     (try simp only [hl7_1])
     (try simp only [hl7_1] at BK271)
     (try simp only [hl7_1] at HO_8)
     (try simp only [hl7_1] at HO_9)
     cases gk with
     | zero => exact absurd HA.out (by simp [spec_loFar.l0])
     | succ k1 =>
      have H := HA.out
      clear HA
      simp only [spec_loFar.l0] at H
      by_cases c20 : x34_1 < (y272.length : Int)
      ·
       rw [if_pos c20] at H
       have c20b0 : decide (x34_1 < (y272.length : Int)) = true := decide_eq_true c20
       clear c20
       by_cases c21 : 0 ≤ x34_1
       ·
        rw [if_pos c21] at H
        have c21b0 : decide (0 ≤ x34_1) = true := decide_eq_true c21
        clear c21
        by_cases c22 : x34_1 < (x7_1.length : Int)
        ·
         rw [if_pos c22] at H
         have c22b0 : decide (x34_1 < (x7_1.length : Int)) = true := decide_eq_true c22
         clear c22
         obtain ⟨y281, hy281⟩ : ∃ y_ : List Int, y_ = (x7_1.set (x34_1 : Int).toNat (-1)) := ⟨_, rfl⟩
         replace H : (spec_loFar.l0 k1 a1 (l0_0.length : Int) y281 y275 y278 (y272.length : Int) (wrap64 (x34_1 + 1)) l0_0 l0_1 a0_2) = some (r1, r2) := by first | (rw [hy281]; exact H) | exact H
         have Ny281 := ak_ hy281
         clear hy281
         have H' := ak_ H
         clear H
         have p23 : 0 ≤ (x34_1 : Int) := odt_ (by assumption)
         have q23 : (x34_1 : Int) < ((x7_1.length : Int) : Int) := odt_ (by assumption)
         obtain ⟨go23, co23, eo23, gb23, gl23, cl23, HG23⟩ := Kd.R_form HO_7.out (by omega)
         (first | cases eo23 | (injection eo23 with ea_ en_ ec_; (first | subst ea_ | (injection ea_ with ea_; subst ea_)); subst ec_; clear en_))
         have GB23 := ak_ gb23
         have GG23 := ak_ HG23
         clear gb23 gl23 HG23
         obtain ⟨hx23_0, hf23_0⟩ := Kd.R_celln 0 HO_7.out (x34_1 : Int) p23 q23
         replace p23 := eq_true p23
         replace q23 := eq_true q23
         have HP24 := Kd.R_putg HO_7.out (x34_1 : Int) (-1)
         go_wp2_with (first | ((with_reducible refine gate_store (t := 3) (p := 39) rfl ?_); refine store_event (t := 3) (p := 39) (v := ?vo_w25) (w1 := (wr.setCell ⟨go23, (x34_1 : Int).toNat, none⟩ (.int .i64 (-1)))) ?hg ?ho ?hn ?hr ?_; (case ho => rfl); (case hg => rfl); (case hn => rfl); (case hr => go_simp <;> rfl); intro w25 hw; have hg : wr.grownBy w25 (some go23) := (by rw [hw]; exact HP24.2); have hp_ : Kd.R (Kd.int .i64) 3 w25 w.heap.size (fun k_ => some k_ ≠ (v276 : Value).ownBlock) (.slice (some ⟨go23, 0, none⟩) x7_1.length co19) y281 := (by rw [hw, Ny281.out]; exact HP24.1); clear HP24; have n0_ := ak_ (hp_); have n1_ := ak_ (Kd.R_after (v := (.slice (some ⟨go23, 0, none⟩) x7_1.length co19)) (v1 := (.slice (some ⟨go23, 0, none⟩) x7_1.length co19)) (ok := (fun _ => True)) (by (with_reducible repeat (first | apply Kd.R_alloc | apply Kd.R_drewN | apply Kd.R_drew)); exact Kd.R_mono HO_8.out (fun _ hk => ⟨trivial, hk⟩)) hg (.inl rfl)); have n2_ := ak_ (Kd.R_over' (v := (.slice (some ⟨go23, 0, none⟩) x7_1.length co19)) (Kd.pR HO_9.out) (Kd.R_typed HO_7.out) (by decide) hg); have n3_ := ak_ (blk_grown (pk BK271.out) hg (Kd.R_ne HO_7.out BK271.out (by decide))); have n4_ := ak_ ((by rw [hw]; exact below_set (HB.out) GB23.out : Below w.heap.size w w25)); clear HO_7; clear HO_8; clear HO_9; clear BK271; clear HB; have HO_7 := n0_; have HO_8 := n1_; have HO_9 := n2_; have BK271 := n3_; have HB := n4_; clear n0_ n1_ n2_ n3_ n4_; clear hg hw hp_))
         (try simp only [← hl7_1])
         go_roundg k1
         case measure => have := HK1.out; omega
         case rel => exact ⟨(y281), (wrap64 (x34_1 + 1)), (by first | rfl | (simp; done) | (simp [*]; done)), H', ⟨by have := HK1.out; omega⟩, ⟨by (try simp only [hl7_1]); exact Kd.pR HO_7.out⟩, ⟨by (try simp only [hl7_1]); (with_reducible repeat (first | apply Kd.R_alloc | apply Kd.R_drewN | apply Kd.R_drew)); exact Kd.R_mono HO_8.out (fun _ hk => hk.2)⟩, ⟨by (try simp only [hl7_1]); exact Kd.pR HO_9.out⟩, ⟨by (try simp only [hl7_1]); exact pk BK271.out⟩, ⟨by repeat (first | exact HB.out | apply ba_ | apply bN_ | apply b1_ | refine below_set ?_ GE271.out)⟩⟩
        ·
         rw [if_neg c22] at H
         exact absurd H (by simp)
       ·
        rw [if_neg c21] at H
        exact absurd H (by simp)
      ·
       rw [if_neg c20] at H
       have c20b0 : decide (x34_1 < (y272.length : Int)) = false := decide_eq_false c20
       have c20b9 := c20b0; (try rw [hl7_1] at c20b9)
       clear c20
       replace H := Option.bind_eq_some_iff.mp H
       obtain ⟨⟨t282, t285⟩, A260, H⟩ := H
       replace H : ((spec_paLast.f k1 t282 t285).bind fun bt286 => ((spec_seIndex.f k1 bt286.1 bt286.2).bind fun t290 => (if 0 ≤ t290 then (if t290 < (x7_1.length : Int) then (if t290 < (y275.length : Int) then (spec_loFar.l1 k1 a1 (l0_0.length : Int) (x7_1.set (t290 : Int).toNat 0) (y275.set (t290 : Int).toNat 1) y278 l0_0 l0_1 a0_2) else (none)) else (none)) else (none)))) = some (r1, r2) := H
       have A26 := ak_ A260
       clear A260
       replace H := Option.bind_eq_some_iff.mp H
       obtain ⟨⟨t286, t289⟩, A270, H⟩ := H
       replace H : ((spec_seIndex.f k1 t286 t289).bind fun t290 => (if 0 ≤ t290 then (if t290 < (x7_1.length : Int) then (if t290 < (y275.length : Int) then (spec_loFar.l1 k1 a1 (l0_0.length : Int) (x7_1.set (t290 : Int).toNat 0) (y275.set (t290 : Int).toNat 1) y278 l0_0 l0_1 a0_2) else (none)) else (none)) else (none))) = some (r1, r2) := H
       have A27 := ak_ A270
       clear A270
       replace H := Option.bind_eq_some_iff.mp H
       obtain ⟨t290, A280, H⟩ := H
       replace H : (if 0 ≤ t290 then (if t290 < (x7_1.length : Int) then (if t290 < (y275.length : Int) then (spec_loFar.l1 k1 a1 (l0_0.length : Int) (x7_1.set (t290 : Int).toNat 0) (y275.set (t290 : Int).toNat 1) y278 l0_0 l0_1 a0_2) else (none)) else (none)) else (none)) = some (r1, r2) := H
       have A28 := ak_ A280
       clear A280
       by_cases c29 : 0 ≤ t290
       ·
        rw [if_pos c29] at H
        have c29b0 : decide (0 ≤ t290) = true := decide_eq_true c29
        clear c29
        by_cases c30 : t290 < (x7_1.length : Int)
        ·
         rw [if_pos c30] at H
         have c30b0 : decide (t290 < (x7_1.length : Int)) = true := decide_eq_true c30
         clear c30
         obtain ⟨y291, hy291⟩ : ∃ y_ : List Int, y_ = (x7_1.set (t290 : Int).toNat 0) := ⟨_, rfl⟩
         replace H : (if t290 < (y275.length : Int) then (spec_loFar.l1 k1 a1 (l0_0.length : Int) y291 (y275.set (t290 : Int).toNat 1) y278 l0_0 l0_1 a0_2) else (none)) = some (r1, r2) := by first | (rw [hy291]; exact H) | exact H
         have Ny291 := ak_ hy291
         clear hy291
         by_cases c32 : t290 < (y275.length : Int)
         ·
          rw [if_pos c32] at H
          have c32b0 : decide (t290 < (y275.length : Int)) = true := decide_eq_true c32
          clear c32
          obtain ⟨y292, hy292⟩ : ∃ y_ : List Int, y_ = (y275.set (t290 : Int).toNat 1) := ⟨_, rfl⟩
          replace H : (spec_loFar.l1 k1 a1 (l0_0.length : Int) y291 y292 y278 l0_0 l0_1 a0_2) = some (r1, r2) := by first | (rw [hy292]; exact H) | exact H
          have Ny292 := ak_ hy292
          clear hy292
          have H' := ak_ H
          clear H
          have hcz34_0 : wr.cell? ⟨gb271, 0, none⟩ = some (.slice A0_0 l0_0.length c0_0) := (blk_cell BK271.out 0).trans rfl
          have hcz34_1 : wr.cell? ⟨gb271, 1, none⟩ = some (.slice A0_1 l0_1.length c0_1) := (blk_cell BK271.out 1).trans rfl
          have hcz34_2 : wr.cell? ⟨gb271, 2, none⟩ = some (.int .i64 a0_2) := (blk_cell BK271.out 2).trans rfl
          have hfz34_0 := blk_frozen BK271.out 0
          have hfz34_1 := blk_frozen BK271.out 1
          have hfz34_2 := blk_frozen BK271.out 2
          go_wp2_with (first | ((with_reducible refine gate_callee (f := 99) rfl ?_); refine goesL_ (some 42) rfl rfl Try.func99 (by kernel_rfl) rfl #[.agg #[.slice A0_0 l0_0.length c0_0, .slice A0_1 l0_1.length c0_1, .int .i64 a0_2]] rfl (by first | rfl | (simp only [map_toArray, map_cons, map_nil]; try rfl)) ?_; (with_reducible refine (spec_loParty.calls (fun k_ => k_ < w.heap.size) _ _ l0_0 _ _ l0_1 a0_2 t282 t285 _ ?side1 ?side2 ?side3 A26.out).mono ?_); (case side1 => exact Kd.V_mk HC0_0.out (Kd.F_below (Kd.C_F (Kd.heap_int .i64) HR0_0.out) (by repeat (first | exact HB.out | apply ba_ | apply bN_ | apply b1_ | refine below_set ?_ GE271.out)))); (case side2 => repeat (first | exact (Kd.C_below HR0_1.out HB.out) | (with_reducible refine Kd.C_alloc ?_ _) | (with_reducible refine Kd.C_drewN ?_ _) | (with_reducible refine Kd.C_drew ?_))); (case side3 => exact HC0_1.out); rintro e w35 ⟨v283, rfl, ho0, hb⟩; refine ⟨_, rfl, ?_⟩; have n0_ := ak_ (Kd.R_below (Kd.pR HO_7.out) hb); have n1_ := ak_ (Kd.R_below (Kd.pR HO_8.out) hb); have n2_ := ak_ (Kd.R_below (Kd.pR HO_9.out) hb); have n3_ := ak_ (Kd.V_lower (Kd.V_mono (ok' := fun k_ => some k_ ≠ (.slice Ao19 x7_1.length co19 : Value).ownBlock ∧ some k_ ≠ (v276 : Value).ownBlock ∧ some k_ ≠ (v279 : Value).ownBlock ∧ k_ ≠ gb271) ho0 (fun k_ hk_ => ⟨Or.elim hk_ (fun hs_ => fun e_ => Nat.not_le.2 hs_ (Kd.R_base HO_7.out k_ e_.symm)) (fun hn_ => (Kd.fresh' (Kd.R_lt (Kd.pR HO_7.out)) k_ hn_)), Or.elim hk_ (fun hs_ => fun e_ => Nat.not_le.2 hs_ (Kd.R_base HO_8.out k_ e_.symm)) (fun hn_ => (Kd.fresh' (Kd.R_lt (Kd.pR HO_8.out)) k_ hn_)), Or.elim hk_ (fun hs_ => fun e_ => Nat.not_le.2 hs_ (Kd.R_base HO_9.out k_ e_.symm)) (fun hn_ => (Kd.fresh' (Kd.R_lt (Kd.pR HO_9.out)) k_ hn_)), Or.elim hk_ (fun hs_ => fun e_ => Nat.not_le.2 hs_ (by rw [e_]; exact GW271.out)) (fun hn_ => (Kd.freshB (pk BK271.out) k_ hn_))⟩)) (bz_ (by repeat (first | exact HB.out | apply ba_ | apply bN_ | apply b1_ | refine below_set ?_ GE271.out)))); have n4_ := ak_ (blk_below (pk BK271.out) hb); have n5_ := ak_ (bs_ (by repeat (first | exact HB.out | apply ba_ | apply bN_ | apply b1_ | refine below_set ?_ GE271.out)) hb); clear HO_7; clear HO_8; clear HO_9; clear BK271; clear HB; have HO_7 := n0_; have HO_8 := n1_; have HO_9 := n2_; have HO284 := n3_; have BK271 := n4_; have HB := n5_; clear n0_ n1_ n2_ n3_ n4_ n5_; (try clear hb); (try clear hb2); (try clear hk); (try clear hi); (try clear ho0); obtain ⟨Ao36, co36, eo36⟩ := Kd.V_slice HO284.out; subst eo36) | ((with_reducible refine gate_callee (f := 92) rfl ?_); refine goesL_ (some 43) rfl rfl Try.func92 (by kernel_rfl) rfl #[.agg #[.slice Ao36 t282.length co36, .int .i64 t285]] rfl (by first | rfl | (simp only [map_toArray, map_cons, map_nil]; try rfl)) ?_; (with_reducible refine (spec_paLast.calls k1 _ _ t282 t285 t286 t289 _ ?side1 ?side2 A27.out).mono ?_); (case side1 => repeat (first | exact (Kd.V_reads' HO284.out).2.2 | (with_reducible refine Kd.C_alloc ?_ _) | (with_reducible refine Kd.C_drewN ?_ _) | (with_reducible refine Kd.C_drew ?_))); (case side2 => exact (Kd.V_reads' HO284.out).2.1); rintro e w37 ⟨v287, rfl, ho0, hb⟩; refine ⟨_, rfl, ?_⟩; have n0_ := ak_ (Kd.R_below (Kd.pR HO_7.out) hb); have n1_ := ak_ (Kd.R_below (Kd.pR HO_8.out) hb); have n2_ := ak_ (Kd.R_elder' (Kd.pR HO_9.out) (Kd.R_base ho0) hb); have n3_ := ak_ (Kd.V_elder' (Kd.pV HO284.out) (Kd.R_base ho0) hb); have n4_ := ak_ (Kd.R_lower (Kd.R_new' ho0 (Kd.R_lt (Kd.pR HO_9.out))) (bz_ (by repeat (first | exact HB.out | apply ba_ | apply bN_ | apply b1_ | refine below_set ?_ GE271.out)))); have n5_ := ak_ (blk_below (pk BK271.out) hb); have n6_ := ak_ (bs_ (by repeat (first | exact HB.out | apply ba_ | apply bN_ | apply b1_ | refine below_set ?_ GE271.out)) hb); clear HO_7; clear HO_8; clear HO_9; clear HO284; clear BK271; clear HB; have HO_7 := n0_; have HO_8 := n1_; have HO_9 := n2_; have HO284 := n3_; have HO288 := n4_; have BK271 := n5_; have HB := n6_; clear n0_ n1_ n2_ n3_ n4_ n5_ n6_; (try clear hb); (try clear hb2); (try clear hk); (try clear hi); (try clear ho0); obtain ⟨Ao38, co38, eo38⟩ := Kd.R_slice HO288.out; subst eo38) | ((with_reducible refine gate_callee (f := 91) rfl ?_); refine goesL_ (some 44) rfl rfl Try.func91 (by kernel_rfl) rfl #[.agg #[.slice Ao38 t286.length co38, .bool t289]] rfl (by first | rfl | (simp only [map_toArray, map_cons, map_nil]; try rfl)) ?_; (with_reducible refine (spec_seIndex.calls k1 _ _ t286 t289 t290 _ ?side1 ?side2 A28.out).mono ?_); (case side1 => repeat (first | exact (Kd.R_reads' HO288.out).2.2 | (with_reducible refine Kd.C_alloc ?_ _) | (with_reducible refine Kd.C_drewN ?_ _) | (with_reducible refine Kd.C_drew ?_))); (case side2 => exact (Kd.R_reads' HO288.out).2.1); rintro e w39 ⟨rfl, hb⟩; refine ⟨_, rfl, ?_⟩; have n0_ := ak_ (Kd.R_below (Kd.pR HO_7.out) hb); have n1_ := ak_ (Kd.R_below (Kd.pR HO_8.out) hb); have n2_ := ak_ (Kd.R_below (Kd.pR HO_9.out) hb); have n3_ := ak_ (Kd.V_below (Kd.pV HO284.out) hb); have n4_ := ak_ (Kd.R_below (Kd.pR HO288.out) hb); have n5_ := ak_ (blk_below (pk BK271.out) hb); have n6_ := ak_ (bs_ (by repeat (first | exact HB.out | apply ba_ | apply bN_ | apply b1_ | refine below_set ?_ GE271.out)) hb); clear HO_7; clear HO_8; clear HO_9; clear HO284; clear HO288; clear BK271; clear HB; have HO_7 := n0_; have HO_8 := n1_; have HO_9 := n2_; have HO284 := n3_; have HO288 := n4_; have BK271 := n5_; have HB := n6_; clear n0_ n1_ n2_ n3_ n4_ n5_ n6_; (try clear hb); (try clear hb2); (try clear hk); (try clear hi); have p31 : 0 ≤ (t290 : Int) := odt_ (by assumption); have q31 : (t290 : Int) < ((x7_1.length : Int) : Int) := odt_ (by assumption); obtain ⟨go31, co31, eo31, gb31, gl31, cl31, HG31⟩ := Kd.R_form HO_7.out (by omega); (first | cases eo31 | (injection eo31 with ea_ en_ ec_; (first | subst ea_ | (injection ea_ with ea_; subst ea_)); subst ec_; clear en_)); have GB31 := ak_ gb31; have GG31 := ak_ HG31; clear gb31 gl31 HG31; obtain ⟨hx31_0, hf31_0⟩ := Kd.R_celln 0 HO_7.out (t290 : Int) p31 q31; replace p31 := eq_true p31; replace q31 := eq_true q31; obtain ⟨hy40_, hz40_⟩ := Kd.R_celln 0 HO_7.out (t290 : Int) (odt_ (by assumption)) (odt_ (by assumption)); have HP40 := Kd.R_putg HO_7.out (t290 : Int) 0) | ((with_reducible refine gate_store (t := 3) (p := 47) rfl ?_); refine store_event (t := 3) (p := 47) (v := ?vo_w41) (w1 := (w39.setCell ⟨go31, (t290 : Int).toNat, none⟩ (.int .i64 0))) ?hg ?ho ?hn ?hr ?_; (case ho => rfl); (case hg => rfl); (case hn => rfl); (case hr => go_simp <;> rfl); intro w41 hw; have hg : w39.grownBy w41 (some go31) := (by rw [hw]; exact HP40.2); have hp_ : Kd.R (Kd.int .i64) 3 w41 w.heap.size (fun k_ => some k_ ≠ (v276 : Value).ownBlock) (.slice (some ⟨go31, 0, none⟩) x7_1.length co19) y291 := (by rw [hw, Ny291.out]; exact HP40.1); clear HP40; have n0_ := ak_ (hp_); have n1_ := ak_ (Kd.R_after (v := (.slice (some ⟨go31, 0, none⟩) x7_1.length co19)) (v1 := (.slice (some ⟨go31, 0, none⟩) x7_1.length co19)) (ok := (fun _ => True)) (by (with_reducible repeat (first | apply Kd.R_alloc | apply Kd.R_drewN | apply Kd.R_drew)); exact Kd.R_mono HO_8.out (fun _ hk => ⟨trivial, hk⟩)) hg (.inl rfl)); have n2_ := ak_ (Kd.R_over' (v := (.slice (some ⟨go31, 0, none⟩) x7_1.length co19)) (Kd.pR HO_9.out) (Kd.R_typed HO_7.out) (by decide) hg); have n3_ := ak_ (blk_grown (pk BK271.out) hg (Kd.R_ne HO_7.out BK271.out (by decide))); have n4_ := ak_ (Kd.V_afterv (v := (.slice (some ⟨go31, 0, none⟩) x7_1.length co19)) (v1 := (.slice (some ⟨go31, 0, none⟩) x7_1.length co19)) (ok := (fun k_ => some k_ ≠ (v276 : Value).ownBlock ∧ some k_ ≠ (v279 : Value).ownBlock ∧ some k_ ≠ (.slice Ao38 t286.length co38 : Value).ownBlock ∧ k_ ≠ gb271)) (by (with_reducible repeat (first | apply Kd.V_alloc | apply Kd.V_drewN | apply Kd.V_drew)); exact Kd.V_mono HO284.out (fun _ hk => ⟨⟨hk.1.2.1, ⟨hk.1.2.2.1, ⟨hk.2, hk.1.2.2.2⟩⟩⟩, hk.1.1⟩)) hg (.inl rfl)); have n5_ := ak_ (Kd.R_over' (v := (.slice (some ⟨go31, 0, none⟩) x7_1.length co19)) (Kd.pR HO288.out) (Kd.R_typed HO_7.out) (by decide) hg); have n6_ := ak_ ((by rw [hw]; exact below_set (HB.out) GB31.out : Below w.heap.size w w41)); clear HO_7; clear HO_8; clear HO_9; clear BK271; clear HO284; clear HO288; clear HB; have HO_7 := n0_; have HO_8 := n1_; have HO_9 := n2_; have BK271 := n3_; have HO284 := n4_; have HO288 := n5_; have HB := n6_; clear n0_ n1_ n2_ n3_ n4_ n5_ n6_; clear hg hw hp_; have p33 : 0 ≤ (t290 : Int) := odt_ (by assumption); have q33 : (t290 : Int) < ((y275.length : Int) : Int) := odt_ (by assumption); obtain ⟨go33, co33, eo33, gb33, gl33, cl33, HG33⟩ := Kd.R_form HO_8.out (by omega); (first | cases eo33 | (injection eo33 with ea_ en_ ec_; (first | subst ea_ | (injection ea_ with ea_; subst ea_)); subst ec_; clear en_)); have GB33 := ak_ gb33; have GG33 := ak_ HG33; clear gb33 gl33 HG33; obtain ⟨hx33_0, hf33_0⟩ := Kd.R_celln 0 HO_8.out (t290 : Int) p33 q33; replace p33 := eq_true p33; replace q33 := eq_true q33; have n_ := ak_ (Kd.R_mono (ok' := (fun k_ => some k_ ≠ (.slice (some ⟨go31, 0, none⟩) x7_1.length co19 : Value).ownBlock)) HO_8.out (fun k_ hk => hk.2)); clear HO_8; have HO_8 := n_; clear n_; obtain ⟨hy42_, hz42_⟩ := Kd.R_celln 0 HO_8.out (t290 : Int) (odt_ (by assumption)) (odt_ (by assumption)); have HP42 := Kd.R_putg HO_8.out (t290 : Int) 1) | ((with_reducible refine gate_store (t := 3) (p := 50) rfl ?_); refine store_event (t := 3) (p := 50) (v := ?vo_w43) (w1 := (w41.setCell ⟨go33, (t290 : Int).toNat, none⟩ (.int .i64 1))) ?hg ?ho ?hn ?hr ?_; (case ho => rfl); (case hg => rfl); (case hn => rfl); (case hr => go_simp <;> rfl); intro w43 hw; have hg : w41.grownBy w43 (some go33) := (by rw [hw]; exact HP42.2); have hp_ : Kd.R (Kd.int .i64) 3 w43 w.heap.size (fun k_ => some k_ ≠ (.slice (some ⟨go31, 0, none⟩) x7_1.length co19 : Value).ownBlock) (.slice (some ⟨go33, 0, none⟩) y275.length co33) y292 := (by rw [hw, Ny292.out]; exact HP42.1); clear HP42; have n0_ := ak_ (Kd.R_after (v := (.slice (some ⟨go33, 0, none⟩) y275.length co33)) (v1 := (.slice (some ⟨go33, 0, none⟩) y275.length co33)) (ok := (fun _ => True)) (by (with_reducible repeat (first | apply Kd.R_alloc | apply Kd.R_drewN | apply Kd.R_drew)); exact Kd.R_mono HO_7.out (fun _ hk => ⟨trivial, hk⟩)) hg (.inl rfl)); have n1_ := ak_ (hp_); have n2_ := ak_ (Kd.R_over' (v := (.slice (some ⟨go33, 0, none⟩) y275.length co33)) (Kd.pR HO_9.out) (Kd.R_typed HO_8.out) (by decide) hg); have n3_ := ak_ (blk_grown (pk BK271.out) hg (Kd.R_ne HO_8.out BK271.out (by decide))); have n4_ := ak_ (Kd.V_afterv (v := (.slice (some ⟨go33, 0, none⟩) y275.length co33)) (v1 := (.slice (some ⟨go33, 0, none⟩) y275.length co33)) (ok := (fun k_ => some k_ ≠ (.slice (some ⟨go31, 0, none⟩) x7_1.length co19 : Value).ownBlock ∧ some k_ ≠ (v279 : Value).ownBlock ∧ some k_ ≠ (.slice Ao38 t286.length co38 : Value).ownBlock ∧ k_ ≠ gb271)) (by (with_reducible repeat (first | apply Kd.V_alloc | apply Kd.V_drewN | apply Kd.V_drew)); exact Kd.V_mono HO284.out (fun _ hk => ⟨⟨hk.2, ⟨hk.1.2.1, ⟨hk.1.2.2.1, hk.1.2.2.2⟩⟩⟩, hk.1.1⟩)) hg (.inl rfl)); have n5_ := ak_ (Kd.R_over' (v := (.slice (some ⟨go33, 0, none⟩) y275.length co33)) (Kd.pR HO288.out) (Kd.R_typed HO_8.out) (by decide) hg); have n6_ := ak_ ((by rw [hw]; exact below_set (HB.out) GB33.out : Below w.heap.size w w43)); clear HO_7; clear HO_8; clear HO_9; clear BK271; clear HO284; clear HO288; clear HB; have HO_7 := n0_; have HO_8 := n1_; have HO_9 := n2_; have BK271 := n3_; have HO284 := n4_; have HO288 := n5_; have HB := n6_; clear n0_ n1_ n2_ n3_ n4_ n5_ n6_; clear hg hw hp_))
          go_loopg [] k1 (fun kq w' => ∃ (x7_2 : List Int) (x8_2 : List Int) (x9_2 : List Bool), Aside0 (spec_loFar.l1 kq a1 (l0_0.length : Int) x7_2 x8_2 x9_2 l0_0 l0_1 a0_2 = some (r1, r2)) ∧ Aside0 (kq ≤ k1) ∧ Aside0 (Kd.R (Kd.int .i64) 3 w' w.heap.size (fun k_ => some k_ ≠ ((.slice (some ⟨go33, 0, none⟩) y275.length co33) : Value).ownBlock) (.slice (some ⟨go31, 0, none⟩) x7_1.length co19) x7_2) ∧ Aside0 (Kd.R (Kd.int .i64) 3 w' w.heap.size (fun k_ => some k_ ≠ ((.slice (some ⟨go31, 0, none⟩) x7_1.length co19) : Value).ownBlock) (.slice (some ⟨go33, 0, none⟩) y275.length co33) x8_2) ∧ Aside0 (Kd.R Kd.bool 4 w' w.heap.size (fun _ => True) v279 x9_2) ∧ Aside0 (w'.heap[gb271]? = some (.cells #[(.slice A0_0 l0_0.length c0_0), (.slice A0_1 l0_1.length c0_1), .int .i64 a0_2] 43 (0, 0))) ∧ Aside0 (Below w.heap.size w w'))
          case atStart => exact ⟨(y291), (y292), (y278), H', ⟨Nat.le_refl _⟩, ⟨by (try simp only [hl7_1]); (with_reducible repeat (first | apply Kd.R_alloc | apply Kd.R_drewN | apply Kd.R_drew)); exact Kd.R_mono HO_7.out (fun _ hk => hk.2)⟩, ⟨by (try simp only [hl7_1]); exact Kd.pR HO_8.out⟩, ⟨by (try simp only [hl7_1]); (with_reducible repeat (first | apply Kd.R_alloc | apply Kd.R_drewN | apply Kd.R_drew)); exact Kd.R_mono HO_9.out (fun _ hk => trivial)⟩, ⟨by (try simp only [hl7_1]); exact pk BK271.out⟩, ⟨by repeat (first | exact HB.out | apply ba_ | apply bN_ | apply b1_ | refine below_set ?_ GE271.out)⟩⟩
          case round =>
           clear H'
           try clear c2
           try clear p2
           try clear q2
           try clear hx2
           try clear hf2
           try clear c3
           try clear p3
           try clear q3
           try clear hx3
           try clear hf3
           try clear c4
           try clear c4b0
           try clear c4b1
           try clear c5
           try clear c5b0
           try clear c5b1
           try clear c6
           try clear c6b0
           try clear p6
           try clear c7
           try clear c7b0
           try clear c8
           try clear c8b0
           try clear c8b1
           try clear c9
           try clear c20
           try clear c20b0
           try clear c21
           try clear c21b0
           try clear c22
           try clear c22b0
           try clear p23
           try clear q23
           try clear hx23
           try clear hf23
           try clear c29
           try clear c29b0
           try clear c30
           try clear c30b0
           try clear p31
           try clear q31
           try clear hx31
           try clear hf31
           try clear c32
           try clear c32b0
           try clear p33
           try clear q33
           try clear hx33
           try clear hf33
           try clear hcz10_0
           try clear hcz10_1
           try clear hcz10_2
           try clear hcz34_0
           try clear hcz34_1
           try clear hcz34_2
           try clear hfz10_0
           try clear hfz10_1
           try clear hfz10_2
           try clear hfz34_0
           try clear hfz34_1
           try clear hfz34_2
           try clear hx23_0
           try clear hx31_0
           try clear hx33_0
           try clear p2
           try clear p23
           try clear p31
           try clear p33
           try clear p6
           try clear q23
           try clear q31
           try clear q33
           obtain ⟨x7_2, x8_2, x9_2, HA, HK2, HO_7, HO_8, HO_9, BK271, HB⟩ := hrel
           have hl7_2 := (Kd.R_reads' HO_7.out).1
           rw [hl7_2] at HO_7
           (try simp only [hl7_2])
           (try simp only [hl7_2] at BK271)
           (try simp only [hl7_2] at HO_8)
           (try simp only [hl7_2] at HO_9)
           have hl8_2 := (Kd.R_reads' HO_8.out).1
           rw [hl8_2] at HO_8
           (try simp only [hl8_2])
           (try simp only [hl8_2] at BK271)
           (try simp only [hl8_2] at HO_7)
           (try simp only [hl8_2] at HO_9)
           cases gk with
           | zero => exact absurd HA.out (by simp [spec_loFar.l1])
           | succ k2 =>
            have H := HA.out
            clear HA
            simp only [spec_loFar.l1] at H
            have H' := ak_ H
            clear H
            go_wp2
            go_loopg [12, 53] k2 (fun kq v12 v53 w' => ∃ (x12_3 : Int) (x53_3 : Int), v12 = .int .i64 x12_3 ∧ v53 = .int .i64 x53_3 ∧ Aside0 (spec_loFar.l2 kq a1 (l0_0.length : Int) x7_2 x8_2 x9_2 x12_3 x7_2 (x7_2.length : Int) x53_3 l0_0 l0_1 a0_2 = some (r1, r2)) ∧ Aside0 (kq ≤ k2) ∧ Aside0 (Kd.R (Kd.int .i64) 3 w' w.heap.size (fun k_ => some k_ ≠ ((.slice (some ⟨go33, 0, none⟩) x8_2.length co33) : Value).ownBlock) (.slice (some ⟨go31, 0, none⟩) x7_2.length co19) x7_2) ∧ Aside0 (Kd.R (Kd.int .i64) 3 w' w.heap.size (fun k_ => some k_ ≠ ((.slice (some ⟨go31, 0, none⟩) x7_2.length co19) : Value).ownBlock ∧ some k_ ≠ ((.slice (some ⟨go31, 0, none⟩) x7_2.length co19) : Value).ownBlock) (.slice (some ⟨go33, 0, none⟩) x8_2.length co33) x8_2) ∧ Aside0 (Kd.R Kd.bool 4 w' w.heap.size (fun _ => True) v279 x9_2) ∧ Aside0 (Kd.R (Kd.int .i64) 3 w' w.heap.size (fun k_ => some k_ ≠ ((.slice (some ⟨go33, 0, none⟩) x8_2.length co33) : Value).ownBlock) (.slice (some ⟨go31, 0, none⟩) x7_2.length co19) x7_2) ∧ Aside0 (w'.heap[gb271]? = some (.cells #[(.slice A0_0 l0_0.length c0_0), (.slice A0_1 l0_1.length c0_1), .int .i64 a0_2] 43 (0, 0))) ∧ Aside0 (Below w.heap.size w w'))
            case atStart => exact ⟨((-1)), (0), (by first | rfl | (simp; done) | (simp [*]; done)), (by first | rfl | (simp; done) | (simp [*]; done)), H', ⟨Nat.le_refl _⟩, ⟨by (try simp only [hl7_1, hl7_2, hl8_2]); exact Kd.pR HO_7.out⟩, ⟨by (try simp only [hl7_1, hl7_2, hl8_2]); (with_reducible repeat (first | apply Kd.R_alloc | apply Kd.R_drewN | apply Kd.R_drew)); exact Kd.R_mono HO_8.out (fun _ hk => ⟨hk, hk⟩)⟩, ⟨by (try simp only [hl7_1, hl7_2, hl8_2]); exact Kd.pR HO_9.out⟩, ⟨by (try simp only [hl7_1, hl7_2, hl8_2]); exact Kd.pR HO_7.out⟩, ⟨by (try simp only [hl7_1, hl7_2, hl8_2]); exact pk BK271.out⟩, ⟨by repeat (first | exact HB.out | apply ba_ | apply bN_ | apply b1_ | refine below_set ?_ GE271.out)⟩⟩
            case round =>
             clear H'
             try clear c2
             try clear p2
             try clear q2
             try clear hx2
             try clear hf2
             try clear c3
             try clear p3
             try clear q3
             try clear hx3
             try clear hf3
             try clear c4
             try clear c4b0
             try clear c4b1
             try clear c5
             try clear c5b0
             try clear c5b1
             try clear c6
             try clear c6b0
             try clear p6
             try clear c7
             try clear c7b0
             try clear c8
             try clear c8b0
             try clear c8b1
             try clear c9
             try clear c20
             try clear c20b0
             try clear c21
             try clear c21b0
             try clear c22
             try clear c22b0
             try clear p23
             try clear q23
             try clear hx23
             try clear hf23
             try clear c29
             try clear c29b0
             try clear c30
             try clear c30b0
             try clear p31
             try clear q31
             try clear hx31
             try clear hf31
             try clear c32
             try clear c32b0
             try clear p33
             try clear q33
             try clear hx33
             try clear hf33
             try clear hcz10_0
             try clear hcz10_1
             try clear hcz10_2
             try clear hcz34_0
             try clear hcz34_1
             try clear hcz34_2
             try clear hfz10_0
             try clear hfz10_1
             try clear hfz10_2
             try clear hfz34_0
             try clear hfz34_1
             try clear hfz34_2
             try clear hx23_0
             try clear hx31_0
             try clear hx33_0
             try clear p2
             try clear p23
             try clear p3
             try clear p31
             try clear p33
             try clear p6
             try clear q2
             try clear q23
             try clear q3
             try clear q31
             try clear q33
             obtain ⟨x12_3, x53_3, rfl, rfl, HA, HK3, HO_7, HO_8, HO_9, HO_51, BK271, HB⟩ := hrel
             cases gk with
             | zero => exact absurd HA.out (by simp [spec_loFar.l2])
             | succ k3 =>
              have H := HA.out
              clear HA
              simp only [spec_loFar.l2] at H
              by_cases c44 : x53_3 < (x7_2.length : Int)
              ·
               rw [if_pos c44] at H
               have c44b0 : decide (x53_3 < (x7_2.length : Int)) = true := decide_eq_true c44
               clear c44
               by_cases c45 : 0 ≤ x53_3
               ·
                rw [if_pos c45] at H
                have c45b0 : decide (0 ≤ x53_3) = true := decide_eq_true c45
                clear c45
                by_cases c46 : x53_3 < (x7_2.length : Int)
                ·
                 rw [if_pos c46] at H
                 have c46b0 : decide (x53_3 < (x7_2.length : Int)) = true := decide_eq_true c46
                 clear c46
                 have HC47 := ak_ H
                 clear H
                 have p293 : 0 ≤ (x53_3 : Int) := odt_ (by assumption)
                 have q293 : x53_3 < (x7_2.length : Int) := odt_ (by assumption)
                 obtain ⟨ad293, e293, hx293_0⟩ := Kd.at_int (Kd.R_reads' HO_51.out).2.2 x53_3 p293 q293
                 obtain rfl : (⟨go31, 0, none⟩ : Addr) = ad293 := (by injection e293)
                 (first | simp only [add_plain] at hx293_0 | simp only [add_at] at hx293_0 | simp only [Addr.add, Nat.zero_add] at hx293_0 | skip)
                 replace p293 := eq_true p293
                 replace q293 := eq_true q293
                 go_upto_region 16 with (fail)
                 have H := HC47.out
                 clear HC47
                 by_cases c48 : x53_3 < (x9_2.length : Int)
                 ·
                  rw [if_pos c48] at H
                  have c48b0 : decide (x53_3 < (x9_2.length : Int)) = true := decide_eq_true c48
                  clear c48
                  obtain ⟨bq49, hbq49⟩ : ∃ b_ : Bool, b_ = (rdOf false x9_2 x53_3) := ⟨_, rfl⟩
                  replace H : (if bq49 = true then (spec_loFar.l2 k3 a1 (l0_0.length : Int) x7_2 x8_2 x9_2 x12_3 x7_2 (x7_2.length : Int) (wrap64 (x53_3 + 1)) l0_0 l0_1 a0_2) else (if (rd x7_2 x53_3) ≥ 0 then (if x12_3 < 0 then (spec_loFar.l2 k3 a1 (l0_0.length : Int) x7_2 x8_2 x9_2 x53_3 x7_2 (x7_2.length : Int) (wrap64 (x53_3 + 1)) l0_0 l0_1 a0_2) else (if 0 ≤ x12_3 then (if x12_3 < (x7_2.length : Int) then (if (rd x7_2 x53_3) < (rd x7_2 x12_3) then (spec_loFar.l2 k3 a1 (l0_0.length : Int) x7_2 x8_2 x9_2 x53_3 x7_2 (x7_2.length : Int) (wrap64 (x53_3 + 1)) l0_0 l0_1 a0_2) else (spec_loFar.l2 k3 a1 (l0_0.length : Int) x7_2 x8_2 x9_2 x12_3 x7_2 (x7_2.length : Int) (wrap64 (x53_3 + 1)) l0_0 l0_1 a0_2)) else (none)) else (none))) else (spec_loFar.l2 k3 a1 (l0_0.length : Int) x7_2 x8_2 x9_2 x12_3 x7_2 (x7_2.length : Int) (wrap64 (x53_3 + 1)) l0_0 l0_1 a0_2))) = some (r1, r2) := by rw [← hbq49] at H; exact H
                  have Nbq49 := ak_ hbq49
                  clear hbq49
                  by_cases c50 : bq49 = true
                  ·
                   subst c50
                   have H1 : (spec_loFar.l2 k3 a1 (l0_0.length : Int) x7_2 x8_2 x9_2 x12_3 x7_2 (x7_2.length : Int) (wrap64 (x53_3 + 1)) l0_0 l0_1 a0_2) = some (r1, r2) := by rw [if_pos rfl] at H; exact H
                   clear H
                   have H := H1
                   clear H1
                   have H' := ak_ H
                   clear H
                   obtain ⟨Ao51, co51, eo51⟩ := Kd.R_slice HO_9.out
                   subst eo51
                   have p294 : 0 ≤ (x53_3 : Int) := odt_ (by assumption)
                   have q294 : x53_3 < (x9_2.length : Int) := odt_ (by assumption)
                   obtain ⟨ad294, e294, hx294_0⟩ := Kd.at_bool (Kd.R_reads' HO_9.out).2.2 x53_3 p294 q294
                   (try rw [← Nbq49.out] at hx294_0)
                   cases e294
                   replace p294 := eq_true p294
                   replace q294 := eq_true q294
                   go_wp2
                   go_roundg k3
                   case measure => have := HK1.out; have := HK2.out; have := HK3.out; omega
                   case rel => exact ⟨(x12_3), (wrap64 (x53_3 + 1)), (by first | rfl | (simp; done) | (simp [*]; done)), (by first | rfl | (simp; done) | (simp [*]; done)), H', ⟨by have := HK1.out; have := HK2.out; have := HK3.out; omega⟩, ⟨by (try simp only [hl7_1, hl7_2, hl8_2]); exact Kd.pR HO_7.out⟩, ⟨by (try simp only [hl7_1, hl7_2, hl8_2]); exact Kd.pR HO_8.out⟩, ⟨by (try simp only [hl7_1, hl7_2, hl8_2]); exact Kd.pR HO_9.out⟩, ⟨by (try simp only [hl7_1, hl7_2, hl8_2]); exact Kd.pR HO_51.out⟩, ⟨by (try simp only [hl7_1, hl7_2, hl8_2]); exact pk BK271.out⟩, ⟨by repeat (first | exact HB.out | apply ba_ | apply bN_ | apply b1_ | refine below_set ?_ GE271.out)⟩⟩
                  ·
                   replace c50 := Bool.eq_false_iff.mpr c50
                   subst c50
                   have H1 : (if (rd x7_2 x53_3) ≥ 0 then (if x12_3 < 0 then (spec_loFar.l2 k3 a1 (l0_0.length : Int) x7_2 x8_2 x9_2 x53_3 x7_2 (x7_2.length : Int) (wrap64 (x53_3 + 1)) l0_0 l0_1 a0_2) else (if 0 ≤ x12_3 then (if x12_3 < (x7_2.length : Int) then (if (rd x7_2 x53_3) < (rd x7_2 x12_3) then (spec_loFar.l2 k3 a1 (l0_0.length : Int) x7_2 x8_2 x9_2 x53_3 x7_2 (x7_2.length : Int) (wrap64 (x53_3 + 1)) l0_0 l0_1 a0_2) else (spec_loFar.l2 k3 a1 (l0_0.length : Int) x7_2 x8_2 x9_2 x12_3 x7_2 (x7_2.length : Int) (wrap64 (x53_3 + 1)) l0_0 l0_1 a0_2)) else (none)) else (none))) else (spec_loFar.l2 k3 a1 (l0_0.length : Int) x7_2 x8_2 x9_2 x12_3 x7_2 (x7_2.length : Int) (wrap64 (x53_3 + 1)) l0_0 l0_1 a0_2)) = some (r1, r2) := by rw [if_neg (show ¬ (false = true) by decide)] at H; exact H
                   clear H
                   have H := H1
                   clear H1
                   by_cases c52 : (rd x7_2 x53_3) ≥ 0
                   ·
                    rw [if_pos c52] at H
                    have c52b0 : decide (0 ≤ (rd x7_2 x53_3)) = true := decide_eq_true c52
                    clear c52
                    by_cases c53 : x12_3 < 0
                    ·
                     rw [if_pos c53] at H
                     have c53b0 : decide (x12_3 < 0) = true := decide_eq_true c53
                     clear c53
                     have H' := ak_ H
                     clear H
                     obtain ⟨Ao54, co54, eo54⟩ := Kd.R_slice HO_9.out
                     subst eo54
                     have p294 : 0 ≤ (x53_3 : Int) := odt_ (by assumption)
                     have q294 : x53_3 < (x9_2.length : Int) := odt_ (by assumption)
                     obtain ⟨ad294, e294, hx294_0⟩ := Kd.at_bool (Kd.R_reads' HO_9.out).2.2 x53_3 p294 q294
                     (try rw [← Nbq49.out] at hx294_0)
                     cases e294
                     replace p294 := eq_true p294
                     replace q294 := eq_true q294
                     go_wp2
                     go_roundg k3
                     case measure => have := HK1.out; have := HK2.out; have := HK3.out; omega
                     case rel => exact ⟨(x53_3), (wrap64 (x53_3 + 1)), (by first | rfl | (simp; done) | (simp [*]; done)), (by first | rfl | (simp; done) | (simp [*]; done)), H', ⟨by have := HK1.out; have := HK2.out; have := HK3.out; omega⟩, ⟨by (try simp only [hl7_1, hl7_2, hl8_2]); exact Kd.pR HO_7.out⟩, ⟨by (try simp only [hl7_1, hl7_2, hl8_2]); exact Kd.pR HO_8.out⟩, ⟨by (try simp only [hl7_1, hl7_2, hl8_2]); exact Kd.pR HO_9.out⟩, ⟨by (try simp only [hl7_1, hl7_2, hl8_2]); exact Kd.pR HO_51.out⟩, ⟨by (try simp only [hl7_1, hl7_2, hl8_2]); exact pk BK271.out⟩, ⟨by repeat (first | exact HB.out | apply ba_ | apply bN_ | apply b1_ | refine below_set ?_ GE271.out)⟩⟩
                    ·
                     rw [if_neg c53] at H
                     have c53b0 : decide (x12_3 < 0) = false := decide_eq_false c53
                     clear c53
                     by_cases c55 : 0 ≤ x12_3
                     ·
                      rw [if_pos c55] at H
                      have c55b0 : decide (0 ≤ x12_3) = true := decide_eq_true c55
                      clear c55
                      by_cases c56 : x12_3 < (x7_2.length : Int)
                      ·
                       rw [if_pos c56] at H
                       have c56b0 : decide (x12_3 < (x7_2.length : Int)) = true := decide_eq_true c56
                       clear c56
                       have HC57 := ak_ H
                       clear H
                       obtain ⟨Ao58, co58, eo58⟩ := Kd.R_slice HO_9.out
                       subst eo58
                       have p294 : 0 ≤ (x53_3 : Int) := odt_ (by assumption)
                       have q294 : x53_3 < (x9_2.length : Int) := odt_ (by assumption)
                       obtain ⟨ad294, e294, hx294_0⟩ := Kd.at_bool (Kd.R_reads' HO_9.out).2.2 x53_3 p294 q294
                       (try rw [← Nbq49.out] at hx294_0)
                       cases e294
                       replace p294 := eq_true p294
                       replace q294 := eq_true q294
                       have p295 : 0 ≤ (x12_3 : Int) := odt_ (by assumption)
                       have q295 : x12_3 < (x7_2.length : Int) := odt_ (by assumption)
                       obtain ⟨ad295, e295, hx295_0⟩ := Kd.at_int (Kd.R_reads' HO_7.out).2.2 x12_3 p295 q295
                       obtain rfl : (⟨go31, 0, none⟩ : Addr) = ad295 := (by injection e295)
                       (first | simp only [add_plain] at hx295_0 | simp only [add_at] at hx295_0 | simp only [Addr.add, Nat.zero_add] at hx295_0 | skip)
                       replace p295 := eq_true p295
                       replace q295 := eq_true q295
                       go_upto_if 78 with (fail)
                       have H := HC57.out
                       clear HC57
                       by_cases c59 : (rd x7_2 x53_3) < (rd x7_2 x12_3)
                       ·
                        rw [if_pos c59] at H
                        have c59b0 : decide ((rd x7_2 x53_3) < (rd x7_2 x12_3)) = true := decide_eq_true c59
                        clear c59
                        (first | rw [c59b0] | (simp only [i64_w, i32_w]; rw [c59b0]) | rw [c59b1] | skip)
                        have H' := ak_ H
                        clear H
                        go_wp2
                        go_roundg k3
                        case measure => have := HK1.out; have := HK2.out; have := HK3.out; omega
                        case rel => exact ⟨(x53_3), (wrap64 (x53_3 + 1)), (by first | rfl | (simp; done) | (simp [*]; done)), (by first | rfl | (simp; done) | (simp [*]; done)), H', ⟨by have := HK1.out; have := HK2.out; have := HK3.out; omega⟩, ⟨by (try simp only [hl7_1, hl7_2, hl8_2]); exact Kd.pR HO_7.out⟩, ⟨by (try simp only [hl7_1, hl7_2, hl8_2]); exact Kd.pR HO_8.out⟩, ⟨by (try simp only [hl7_1, hl7_2, hl8_2]); exact Kd.pR HO_9.out⟩, ⟨by (try simp only [hl7_1, hl7_2, hl8_2]); exact Kd.pR HO_51.out⟩, ⟨by (try simp only [hl7_1, hl7_2, hl8_2]); exact pk BK271.out⟩, ⟨by repeat (first | exact HB.out | apply ba_ | apply bN_ | apply b1_ | refine below_set ?_ GE271.out)⟩⟩
                       ·
                        rw [if_neg c59] at H
                        have c59b0 : decide ((rd x7_2 x53_3) < (rd x7_2 x12_3)) = false := decide_eq_false c59
                        clear c59
                        (first | rw [c59b0] | (simp only [i64_w, i32_w]; rw [c59b0]) | rw [c59b1] | skip)
                        have H' := ak_ H
                        clear H
                        go_wp2
                        go_roundg k3
                        case measure => have := HK1.out; have := HK2.out; have := HK3.out; omega
                        case rel => exact ⟨(x12_3), (wrap64 (x53_3 + 1)), (by first | rfl | (simp; done) | (simp [*]; done)), (by first | rfl | (simp; done) | (simp [*]; done)), H', ⟨by have := HK1.out; have := HK2.out; have := HK3.out; omega⟩, ⟨by (try simp only [hl7_1, hl7_2, hl8_2]); exact Kd.pR HO_7.out⟩, ⟨by (try simp only [hl7_1, hl7_2, hl8_2]); exact Kd.pR HO_8.out⟩, ⟨by (try simp only [hl7_1, hl7_2, hl8_2]); exact Kd.pR HO_9.out⟩, ⟨by (try simp only [hl7_1, hl7_2, hl8_2]); exact Kd.pR HO_51.out⟩, ⟨by (try simp only [hl7_1, hl7_2, hl8_2]); exact pk BK271.out⟩, ⟨by repeat (first | exact HB.out | apply ba_ | apply bN_ | apply b1_ | refine below_set ?_ GE271.out)⟩⟩
                      ·
                       rw [if_neg c56] at H
                       exact absurd H (by simp)
                     ·
                      rw [if_neg c55] at H
                      exact absurd H (by simp)
                   ·
                    rw [if_neg c52] at H
                    have c52b0 : decide (0 ≤ (rd x7_2 x53_3)) = false := decide_eq_false c52
                    clear c52
                    have H' := ak_ H
                    clear H
                    obtain ⟨Ao60, co60, eo60⟩ := Kd.R_slice HO_9.out
                    subst eo60
                    have p294 : 0 ≤ (x53_3 : Int) := odt_ (by assumption)
                    have q294 : x53_3 < (x9_2.length : Int) := odt_ (by assumption)
                    obtain ⟨ad294, e294, hx294_0⟩ := Kd.at_bool (Kd.R_reads' HO_9.out).2.2 x53_3 p294 q294
                    (try rw [← Nbq49.out] at hx294_0)
                    cases e294
                    replace p294 := eq_true p294
                    replace q294 := eq_true q294
                    go_wp2
                    go_roundg k3
                    case measure => have := HK1.out; have := HK2.out; have := HK3.out; omega
                    case rel => exact ⟨(x12_3), (wrap64 (x53_3 + 1)), (by first | rfl | (simp; done) | (simp [*]; done)), (by first | rfl | (simp; done) | (simp [*]; done)), H', ⟨by have := HK1.out; have := HK2.out; have := HK3.out; omega⟩, ⟨by (try simp only [hl7_1, hl7_2, hl8_2]); exact Kd.pR HO_7.out⟩, ⟨by (try simp only [hl7_1, hl7_2, hl8_2]); exact Kd.pR HO_8.out⟩, ⟨by (try simp only [hl7_1, hl7_2, hl8_2]); exact Kd.pR HO_9.out⟩, ⟨by (try simp only [hl7_1, hl7_2, hl8_2]); exact Kd.pR HO_51.out⟩, ⟨by (try simp only [hl7_1, hl7_2, hl8_2]); exact pk BK271.out⟩, ⟨by repeat (first | exact HB.out | apply ba_ | apply bN_ | apply b1_ | refine below_set ?_ GE271.out)⟩⟩
                 ·
                  rw [if_neg c48] at H
                  exact absurd H (by simp)
                ·
                 rw [if_neg c46] at H
                 exact absurd H (by simp)
               ·
                rw [if_neg c45] at H
                exact absurd H (by simp)
              ·
               rw [if_neg c44] at H
               have c44b0 : decide (x53_3 < (x7_2.length : Int)) = false := decide_eq_false c44
               clear c44
               by_cases c61 : x12_3 < 0
               ·
                rw [if_pos c61] at H
                have c61b0 : decide (x12_3 < 0) = true := decide_eq_true c61
                clear c61
                simp only [Option.some.injEq, Prod.mk.injEq] at H
                obtain ⟨rfl, rfl⟩ := H
                go_wp2
                go_ret2
                exact ⟨_, _, by first | rfl | (simp [errW_none, errW_some] <;> rfl) | (simp only [← hji3]; first | rfl | (simp [errW_none, errW_some] <;> rfl)) | (simp [*, errW_none, errW_some] <;> rfl), by (with_reducible repeat (first | apply Kd.R_alloc | apply Kd.R_drewN | apply Kd.R_drew)); exact HO_7.out, by (with_reducible repeat (first | apply Kd.R_alloc | apply Kd.R_drewN | apply Kd.R_drew)); exact Kd.R_mono HO_8.out (fun _ hk => hk.1), by repeat (first | exact HB.out | apply ba_ | apply bN_ | apply b1_ | refine below_set ?_ GE271.out)⟩
               ·
                rw [if_neg c61] at H
                have c61b0 : decide (x12_3 < 0) = false := decide_eq_false c61
                clear c61
                by_cases c62 : 0 ≤ x12_3
                ·
                 rw [if_pos c62] at H
                 have c62b0 : decide (0 ≤ x12_3) = true := decide_eq_true c62
                 clear c62
                 by_cases c63 : x12_3 < (x9_2.length : Int)
                 ·
                  rw [if_pos c63] at H
                  have c63b0 : decide (x12_3 < (x9_2.length : Int)) = true := decide_eq_true c63
                  clear c63
                  obtain ⟨y296, hy296⟩ : ∃ y_ : List Bool, y_ = (x9_2.set (x12_3 : Int).toNat true) := ⟨_, rfl⟩
                  replace H : ((spec_seState.f k3 x12_3 (l0_0.length : Int)).bind fun bt297 => ((spec_loRides.f k3 l0_0 l0_1 a0_2 bt297.1 bt297.2).bind fun t302 => (spec_loFar.l3 k3 a1 (l0_0.length : Int) x7_2 x8_2 y296 x12_3 t302 (t302.length : Int) 0 l0_0 l0_1 a0_2 bt297.1 bt297.2))) = some (r1, r2) := by first | (rw [hy296]; exact H) | exact H
                  have Ny296 := ak_ hy296
                  clear hy296
                  replace H := Option.bind_eq_some_iff.mp H
                  obtain ⟨⟨t297, t300⟩, A650, H⟩ := H
                  replace H : ((spec_loRides.f k3 l0_0 l0_1 a0_2 t297 t300).bind fun t302 => (spec_loFar.l3 k3 a1 (l0_0.length : Int) x7_2 x8_2 y296 x12_3 t302 (t302.length : Int) 0 l0_0 l0_1 a0_2 t297 t300)) = some (r1, r2) := H
                  have A65 := ak_ A650
                  clear A650
                  replace H := Option.bind_eq_some_iff.mp H
                  obtain ⟨t302, A660, H⟩ := H
                  replace H : (spec_loFar.l3 k3 a1 (l0_0.length : Int) x7_2 x8_2 y296 x12_3 t302 (t302.length : Int) 0 l0_0 l0_1 a0_2 t297 t300) = some (r1, r2) := H
                  have A66 := ak_ A660
                  clear A660
                  have H' := ak_ H
                  clear H
                  have p64 : 0 ≤ (x12_3 : Int) := odt_ (by assumption)
                  have q64 : (x12_3 : Int) < ((x9_2.length : Int) : Int) := odt_ (by assumption)
                  obtain ⟨go64, co64, eo64, gb64, gl64, cl64, HG64⟩ := Kd.R_form HO_9.out (by omega)
                  (first | cases eo64 | (injection eo64 with ea_ en_ ec_; (first | subst ea_ | (injection ea_ with ea_; subst ea_)); subst ec_; clear en_))
                  have GB64 := ak_ gb64
                  have GG64 := ak_ HG64
                  clear gb64 gl64 HG64
                  obtain ⟨hx64_0, hf64_0⟩ := Kd.R_celln false HO_9.out (x12_3 : Int) p64 q64
                  replace p64 := eq_true p64
                  replace q64 := eq_true q64
                  have HP67 := Kd.R_putg HO_9.out (x12_3 : Int) true
                  go_wp2_with (first | ((with_reducible refine gate_store (t := 4) (p := 87) rfl ?_); refine store_event (t := 4) (p := 87) (v := ?vo_w68) (w1 := (wr.setCell ⟨go64, (x12_3 : Int).toNat, none⟩ (.bool true))) ?hg ?ho ?hn ?hr ?_; (case ho => rfl); (case hg => rfl); (case hn => rfl); (case hr => go_simp <;> rfl); intro w68 hw; have hg : wr.grownBy w68 (some go64) := (by rw [hw]; exact HP67.2); have hp_ : Kd.R Kd.bool 4 w68 w.heap.size (fun _ => True) (.slice (some ⟨go64, 0, none⟩) x9_2.length co64) y296 := (by rw [hw, Ny296.out]; exact HP67.1); clear HP67; have n0_ := ak_ (Kd.R_over' (v := (.slice (some ⟨go64, 0, none⟩) x9_2.length co64)) (Kd.pR HO_7.out) (Kd.R_typed HO_9.out) (by decide) hg); have n1_ := ak_ (Kd.R_over' (v := (.slice (some ⟨go64, 0, none⟩) x9_2.length co64)) (Kd.pR HO_8.out) (Kd.R_typed HO_9.out) (by decide) hg); have n2_ := ak_ (hp_); have n3_ := ak_ (Kd.R_over' (v := (.slice (some ⟨go64, 0, none⟩) x9_2.length co64)) (Kd.pR HO_51.out) (Kd.R_typed HO_9.out) (by decide) hg); have n4_ := ak_ (blk_grown (pk BK271.out) hg (Kd.R_ne HO_9.out BK271.out (by decide))); have n5_ := ak_ ((by rw [hw]; exact below_set (HB.out) GB64.out : Below w.heap.size w w68)); clear HO_7; clear HO_8; clear HO_9; clear HO_51; clear BK271; clear HB; have HO_7 := n0_; have HO_8 := n1_; have HO_9 := n2_; have HO_51 := n3_; have BK271 := n4_; have HB := n5_; clear n0_ n1_ n2_ n3_ n4_ n5_; clear hg hw hp_) | ((with_reducible refine gate_callee (f := 94) rfl ?_); refine goesL_ (some 90) rfl rfl Try.func94 (by kernel_rfl) rfl #[.int .i64 x12_3, .int .i64 (l0_0.length : Int)] rfl (by first | rfl | (simp only [map_toArray, map_cons, map_nil]; try rfl)) ?_; (with_reducible refine (spec_seState.calls k3 x12_3 (l0_0.length : Int) t297 t300 _ A65.out).mono ?_); rintro e w69 ⟨v298, rfl, ho0, hb⟩; refine ⟨_, rfl, ?_⟩; have n0_ := ak_ (Kd.R_below (Kd.pR HO_7.out) hb); have n1_ := ak_ (Kd.R_below (Kd.pR HO_8.out) hb); have n2_ := ak_ (Kd.R_elder' (Kd.pR HO_9.out) (Kd.R_base ho0) hb); have n3_ := ak_ (Kd.R_below (Kd.pR HO_51.out) hb); have n4_ := ak_ (Kd.R_lower (Kd.R_new' ho0 (Kd.R_lt (Kd.pR HO_9.out))) (bz_ (by repeat (first | exact HB.out | apply ba_ | apply bN_ | apply b1_ | refine below_set ?_ GE271.out)))); have n5_ := ak_ (blk_below (pk BK271.out) hb); have n6_ := ak_ (bs_ (by repeat (first | exact HB.out | apply ba_ | apply bN_ | apply b1_ | refine below_set ?_ GE271.out)) hb); clear HO_7; clear HO_8; clear HO_9; clear HO_51; clear BK271; clear HB; have HO_7 := n0_; have HO_8 := n1_; have HO_9 := n2_; have HO_51 := n3_; have HO299 := n4_; have BK271 := n5_; have HB := n6_; clear n0_ n1_ n2_ n3_ n4_ n5_ n6_; (try clear hb); (try clear hb2); (try clear hk); (try clear hi); (try clear ho0)) | ((with_reducible refine gate_dst (N := 15) rfl ?_); refine box_event ?hg (N := 15) ?hd (cs := #[.slice none 0 0, .bool false]) (t := 115) ?hr ?_; (case hd => rfl); (case hg => rfl); (case hr => go_simp <;> rfl); intro gb301 hg w70 hbox hb; have n0_ := ak_ (Kd.R_below (Kd.pR HO_7.out) hb); have n1_ := ak_ (Kd.R_below (Kd.pR HO_8.out) hb); have n2_ := ak_ (Kd.R_below (Kd.pR HO_9.out) hb); have n3_ := ak_ (Kd.R_below (Kd.pR HO_51.out) hb); have n4_ := ak_ (Kd.R_below (Kd.pR HO299.out) hb); have n5_ := ak_ (blk_below (pk BK271.out) hb); have n6_ := ak_ (bs_ (by repeat (first | exact HB.out | apply ba_ | apply bN_ | apply b1_ | refine below_set ?_ GE271.out)) hb); have n7_ := ak_ (hbox); have n8_ := ak_ ((by rw [hg]; exact (bz_ (by repeat (first | exact HB.out | apply ba_ | apply bN_ | apply b1_ | refine below_set ?_ GE271.out))) : w.heap.size ≤ gb301)); have n9_ := n8_; have n10_ := ak_ ((by rw [hg]; exact Nat.ne_of_lt (blk_lt (pk BK271.out)) : gb271 ≠ gb301)); have n11_ := ak_ n10_.out.symm; clear HO_7; clear HO_8; clear HO_9; clear HO_51; clear HO299; clear BK271; clear HB; have HO_7 := n0_; have HO_8 := n1_; have HO_9 := n2_; have HO_51 := n3_; have HO299 := n4_; have BK271 := n5_; have HB := n6_; have BK301 := n7_; have GW301 := n8_; have GE301 := n9_; have NB271_301 := n10_; have NB301_271 := n11_; clear n0_ n1_ n2_ n3_ n4_ n5_ n6_ n7_ n8_ n9_ n10_ n11_; clear hb hbox hg; obtain ⟨Ao71, co71, eo71⟩ := Kd.R_slice HO299.out; subst eo71; have hnb72 := NB301_271.out; have hnc72 := NB271_301.out; have hcz73_0 : w70.cell? ⟨gb301, 0, none⟩ = some (.slice none 0 0) := (blk_cell BK301.out 0).trans rfl; have hcz73_1 : w70.cell? ⟨gb301, 1, none⟩ = some (.bool false) := (blk_cell BK301.out 1).trans rfl; have hfz73_0 := blk_frozen BK301.out 0; have hfz73_1 := blk_frozen BK301.out 1; have hcz74_0 : w70.cell? ⟨gb271, 0, none⟩ = some (.slice A0_0 l0_0.length c0_0) := (blk_cell BK271.out 0).trans rfl; have hcz74_1 : w70.cell? ⟨gb271, 1, none⟩ = some (.slice A0_1 l0_1.length c0_1) := (blk_cell BK271.out 1).trans rfl; have hcz74_2 : w70.cell? ⟨gb271, 2, none⟩ = some (.int .i64 a0_2) := (blk_cell BK271.out 2).trans rfl; have hfz74_0 := blk_frozen BK271.out 0; have hfz74_1 := blk_frozen BK271.out 1; have hfz74_2 := blk_frozen BK271.out 2) | ((with_reducible refine gate_callee (f := 100) rfl ?_); refine goesL_ (some 93) rfl rfl Try.func100 (by kernel_rfl) rfl #[.agg #[.slice A0_0 l0_0.length c0_0, .slice A0_1 l0_1.length c0_1, .int .i64 a0_2], .agg #[.slice Ao71 t297.length co71, .bool t300]] rfl (by first | rfl | (simp only [map_toArray, map_cons, map_nil]; try rfl)) ?_; (with_reducible refine (spec_loRides.calls k3 _ _ l0_0 _ _ l0_1 a0_2 _ _ t297 t300 t302 _ ?side1 ?side2 ?side3 ?side4 ?side5 ?side6 A66.out).mono ?_); (case side1 => exact Kd.C_below HR0_0.out (by repeat (first | exact HB.out | apply ba_ | apply bN_ | apply b1_ | refine below_set ?_ (Aside0.out (by assumption))))); (case side2 => exact HC0_0.out); (case side3 => exact Kd.C_below HR0_1.out (by repeat (first | exact HB.out | apply ba_ | apply bN_ | apply b1_ | refine below_set ?_ (Aside0.out (by assumption))))); (case side4 => exact HC0_1.out); (case side5 => refine (Kd.R_reads' (e := 4) (base := w.heap.size) (ok := fun k_ => (True ∧ some k_ ≠ (.slice (some ⟨go64, 0, none⟩) x9_2.length co64 : Value).ownBlock)) (n := t297.length) (c := co71) ?_).2.2; exact (by (with_reducible repeat (first | apply Kd.R_alloc | apply Kd.R_drewN | apply Kd.R_drew)); exact (Kd.R_mono (Kd.R_far (p := ⟨gb301, 1, none⟩) (Kd.R_far (p := ⟨gb301, 0, none⟩) (Kd.R_types HO299.out BK301.out (by decide)) (fun _ hk => hk.2) (.slice Ao71 t297.length co71)) (fun _ hk => hk.2) (.bool t300)) (fun _ h_ => h_.1)))); (case side6 => exact (Kd.R_reads' HO299.out).2.1); rintro e w75 ⟨v303, rfl, ho0, hb⟩; refine ⟨_, rfl, ?_⟩; have n0_ := ak_ (Kd.R_below (by (with_reducible repeat (first | apply Kd.R_alloc | apply Kd.R_drewN | apply Kd.R_drew)); exact (Kd.R_mono (Kd.R_far (p := ⟨gb301, 1, none⟩) (Kd.R_far (p := ⟨gb301, 0, none⟩) (Kd.R_types HO_7.out BK301.out (by decide)) (fun _ hk => hk.2) (.slice Ao71 t297.length co71)) (fun _ hk => hk.2) (.bool t300)) (fun _ h_ => h_.1))) hb); have n1_ := ak_ (Kd.R_below (by (with_reducible repeat (first | apply Kd.R_alloc | apply Kd.R_drewN | apply Kd.R_drew)); exact (Kd.R_mono (Kd.R_far (p := ⟨gb301, 1, none⟩) (Kd.R_far (p := ⟨gb301, 0, none⟩) (Kd.R_types HO_8.out BK301.out (by decide)) (fun _ hk => hk.2) (.slice Ao71 t297.length co71)) (fun _ hk => hk.2) (.bool t300)) (fun _ h_ => h_.1))) hb); have n2_ := ak_ (Kd.R_below (by (with_reducible repeat (first | apply Kd.R_alloc | apply Kd.R_drewN | apply Kd.R_drew)); exact (Kd.R_mono (Kd.R_far (p := ⟨gb301, 1, none⟩) (Kd.R_far (p := ⟨gb301, 0, none⟩) (Kd.R_types HO_9.out BK301.out (by decide)) (fun _ hk => hk.2) (.slice Ao71 t297.length co71)) (fun _ hk => hk.2) (.bool t300)) (fun _ h_ => h_.1))) hb); have n3_ := ak_ (Kd.R_below (by (with_reducible repeat (first | apply Kd.R_alloc | apply Kd.R_drewN | apply Kd.R_drew)); exact (Kd.R_mono (Kd.R_far (p := ⟨gb301, 1, none⟩) (Kd.R_far (p := ⟨gb301, 0, none⟩) (Kd.R_types HO_51.out BK301.out (by decide)) (fun _ hk => hk.2) (.slice Ao71 t297.length co71)) (fun _ hk => hk.2) (.bool t300)) (fun _ h_ => h_.1))) hb); have n4_ := ak_ (Kd.R_below (by (with_reducible repeat (first | apply Kd.R_alloc | apply Kd.R_drewN | apply Kd.R_drew)); exact (Kd.R_mono (Kd.R_far (p := ⟨gb301, 1, none⟩) (Kd.R_far (p := ⟨gb301, 0, none⟩) (Kd.R_types HO299.out BK301.out (by decide)) (fun _ hk => hk.2) (.slice Ao71 t297.length co71)) (fun _ hk => hk.2) (.bool t300)) (fun _ h_ => h_.1))) hb); have n5_ := ak_ (Kd.N_lower (Kd.N_mono (ok' := fun k_ => some k_ ≠ (.slice (some ⟨go31, 0, none⟩) x7_2.length co19 : Value).ownBlock ∧ some k_ ≠ (.slice (some ⟨go33, 0, none⟩) x8_2.length co33 : Value).ownBlock ∧ some k_ ≠ (.slice (some ⟨go64, 0, none⟩) x9_2.length co64 : Value).ownBlock ∧ some k_ ≠ (.slice (some ⟨go31, 0, none⟩) x7_2.length co19 : Value).ownBlock ∧ some k_ ≠ (.slice Ao71 t297.length co71 : Value).ownBlock ∧ k_ ≠ gb271 ∧ k_ ≠ gb301) ho0 (fun k_ hk_ => ⟨(Kd.fresh' (Kd.R_lt (by (with_reducible repeat (first | apply Kd.R_alloc | apply Kd.R_drewN | apply Kd.R_drew)); exact (Kd.R_mono (Kd.R_far (p := ⟨gb301, 1, none⟩) (Kd.R_far (p := ⟨gb301, 0, none⟩) (Kd.R_types HO_7.out BK301.out (by decide)) (fun _ hk => hk.2) (.slice Ao71 t297.length co71)) (fun _ hk => hk.2) (.bool t300)) (fun _ h_ => h_.1)))) k_ hk_), (Kd.fresh' (Kd.R_lt (by (with_reducible repeat (first | apply Kd.R_alloc | apply Kd.R_drewN | apply Kd.R_drew)); exact (Kd.R_mono (Kd.R_far (p := ⟨gb301, 1, none⟩) (Kd.R_far (p := ⟨gb301, 0, none⟩) (Kd.R_types HO_8.out BK301.out (by decide)) (fun _ hk => hk.2) (.slice Ao71 t297.length co71)) (fun _ hk => hk.2) (.bool t300)) (fun _ h_ => h_.1)))) k_ hk_), (Kd.fresh' (Kd.R_lt (by (with_reducible repeat (first | apply Kd.R_alloc | apply Kd.R_drewN | apply Kd.R_drew)); exact (Kd.R_mono (Kd.R_far (p := ⟨gb301, 1, none⟩) (Kd.R_far (p := ⟨gb301, 0, none⟩) (Kd.R_types HO_9.out BK301.out (by decide)) (fun _ hk => hk.2) (.slice Ao71 t297.length co71)) (fun _ hk => hk.2) (.bool t300)) (fun _ h_ => h_.1)))) k_ hk_), (Kd.fresh' (Kd.R_lt (by (with_reducible repeat (first | apply Kd.R_alloc | apply Kd.R_drewN | apply Kd.R_drew)); exact (Kd.R_mono (Kd.R_far (p := ⟨gb301, 1, none⟩) (Kd.R_far (p := ⟨gb301, 0, none⟩) (Kd.R_types HO_51.out BK301.out (by decide)) (fun _ hk => hk.2) (.slice Ao71 t297.length co71)) (fun _ hk => hk.2) (.bool t300)) (fun _ h_ => h_.1)))) k_ hk_), (Kd.fresh' (Kd.R_lt (by (with_reducible repeat (first | apply Kd.R_alloc | apply Kd.R_drewN | apply Kd.R_drew)); exact (Kd.R_mono (Kd.R_far (p := ⟨gb301, 1, none⟩) (Kd.R_far (p := ⟨gb301, 0, none⟩) (Kd.R_types HO299.out BK301.out (by decide)) (fun _ hk => hk.2) (.slice Ao71 t297.length co71)) (fun _ hk => hk.2) (.bool t300)) (fun _ h_ => h_.1)))) k_ hk_), (Kd.freshB (g := gb271) (o := .cells #[.slice A0_0 l0_0.length c0_0, .slice A0_1 l0_1.length c0_1, .int .i64 a0_2] 43 (0, 0)) (by (with_reducible repeat (first | refine kN_ ?_ _ | refine k1_ ?_ | refine ka_ ?_ _)); refine blk_far ?_ NB271_301.out _; (with_reducible repeat (first | refine kN_ ?_ _ | refine k1_ ?_ | refine ka_ ?_ _)); refine blk_far ?_ NB271_301.out _; exact pk BK271.out) k_ hk_), (Kd.freshB (g := gb301) (o := .cells #[.slice Ao71 t297.length co71, .bool t300] 115 (0, 0)) (by (with_reducible repeat (first | refine kN_ ?_ _ | refine k1_ ?_ | refine ka_ ?_ _)); refine blk_put (cs := #[.slice Ao71 t297.length co71, .bool false]) ?_ 1 _ rfl; (with_reducible repeat (first | refine kN_ ?_ _ | refine k1_ ?_ | refine ka_ ?_ _)); refine blk_put (cs := #[.slice none 0 0, .bool false]) ?_ 0 _ rfl; exact pk BK301.out) k_ hk_)⟩)) (bz_ (by repeat (first | exact HB.out | apply ba_ | apply bN_ | apply b1_ | refine below_set ?_ (Aside0.out (by assumption)))))); have n6_ := ak_ (blk_below (g := gb271) (o := .cells #[.slice A0_0 l0_0.length c0_0, .slice A0_1 l0_1.length c0_1, .int .i64 a0_2] 43 (0, 0)) (by (with_reducible repeat (first | refine kN_ ?_ _ | refine k1_ ?_ | refine ka_ ?_ _)); refine blk_far ?_ NB271_301.out _; (with_reducible repeat (first | refine kN_ ?_ _ | refine k1_ ?_ | refine ka_ ?_ _)); refine blk_far ?_ NB271_301.out _; exact pk BK271.out) hb); have n7_ := ak_ (blk_below (g := gb301) (o := .cells #[.slice Ao71 t297.length co71, .bool t300] 115 (0, 0)) (by (with_reducible repeat (first | refine kN_ ?_ _ | refine k1_ ?_ | refine ka_ ?_ _)); refine blk_put (cs := #[.slice Ao71 t297.length co71, .bool false]) ?_ 1 _ rfl; (with_reducible repeat (first | refine kN_ ?_ _ | refine k1_ ?_ | refine ka_ ?_ _)); refine blk_put (cs := #[.slice none 0 0, .bool false]) ?_ 0 _ rfl; exact pk BK301.out) hb); have n8_ := ak_ (bs_ (by repeat (first | exact HB.out | apply ba_ | apply bN_ | apply b1_ | refine below_set ?_ (Aside0.out (by assumption)))) hb); clear HO_7; clear HO_8; clear HO_9; clear HO_51; clear HO299; clear BK271; clear BK301; clear HB; have HO_7 := n0_; have HO_8 := n1_; have HO_9 := n2_; have HO_51 := n3_; have HO299 := n4_; have HO304 := n5_; have BK271 := n6_; have BK301 := n7_; have HB := n8_; clear n0_ n1_ n2_ n3_ n4_ n5_ n6_ n7_ n8_; (try clear hb); (try clear hb2); (try clear hk); (try clear hi); (try clear ho0); obtain ⟨Ao76, co76, eo76⟩ := Kd.N_slice HO304.out; subst eo76))
                  go_loopg [95] k3 (fun kq v95 w' => ∃ (x7_4 : List Int) (x8_4 : List Int) (x95_4 : Int), v95 = .int .i64 x95_4 ∧ Aside0 (spec_loFar.l3 kq a1 (l0_0.length : Int) x7_4 x8_4 y296 x12_3 t302 (t302.length : Int) x95_4 l0_0 l0_1 a0_2 t297 t300 = some (r1, r2)) ∧ Aside0 (kq ≤ k3) ∧ Aside0 (Kd.R (Kd.int .i64) 3 w' w.heap.size (fun k_ => some k_ ≠ ((.slice (some ⟨go33, 0, none⟩) x8_2.length co33) : Value).ownBlock) (.slice (some ⟨go31, 0, none⟩) x7_2.length co19) x7_4) ∧ Aside0 (Kd.R (Kd.int .i64) 3 w' w.heap.size (fun k_ => some k_ ≠ ((.slice (some ⟨go31, 0, none⟩) x7_2.length co19) : Value).ownBlock) (.slice (some ⟨go33, 0, none⟩) x8_2.length co33) x8_4) ∧ Aside0 (Kd.R Kd.bool 4 w' w.heap.size (fun k_ => some k_ ≠ ((.slice Ao71 t297.length co71) : Value).ownBlock) (.slice (some ⟨go64, 0, none⟩) x9_2.length co64) y296) ∧ Aside0 (Kd.N (Kd.slice 3 (Kd.int .i64)) 29 w' w.heap.size (fun k_ => some k_ ≠ ((.slice (some ⟨go31, 0, none⟩) x7_2.length co19) : Value).ownBlock ∧ some k_ ≠ ((.slice (some ⟨go33, 0, none⟩) x8_2.length co33) : Value).ownBlock ∧ some k_ ≠ ((.slice (some ⟨go64, 0, none⟩) x9_2.length co64) : Value).ownBlock ∧ some k_ ≠ ((.slice Ao71 t297.length co71) : Value).ownBlock ∧ k_ ≠ gb271 ∧ k_ ≠ gb301) (.slice Ao76 t302.length co76) t302) ∧ Aside0 (Kd.R Kd.bool 4 w' w.heap.size (fun k_ => some k_ ≠ ((.slice (some ⟨go64, 0, none⟩) x9_2.length co64) : Value).ownBlock) (.slice Ao71 t297.length co71) t297) ∧ Aside0 (w'.heap[gb271]? = some (.cells #[(.slice A0_0 l0_0.length c0_0), (.slice A0_1 l0_1.length c0_1), .int .i64 a0_2] 43 (0, 0))) ∧ Aside0 (w'.heap[gb301]? = some (.cells #[(.slice Ao71 t297.length co71), .bool t300] 115 (0, 0))) ∧ Aside0 (Below w.heap.size w w'))
                  case atStart => exact ⟨(x7_2), (x8_2), (0), (by first | rfl | (simp; done) | (simp [*]; done)), H', ⟨Nat.le_refl _⟩, ⟨by (try simp only [hl7_1, hl7_2, hl8_2]); exact Kd.pR HO_7.out⟩, ⟨by (try simp only [hl7_1, hl7_2, hl8_2]); (with_reducible repeat (first | apply Kd.R_alloc | apply Kd.R_drewN | apply Kd.R_drew)); exact Kd.R_mono HO_8.out (fun _ hk => hk.1)⟩, ⟨by (try simp only [hl7_1, hl7_2, hl8_2]); (with_reducible repeat (first | apply Kd.R_alloc | apply Kd.R_drewN | apply Kd.R_drew)); exact Kd.R_mono HO_9.out (fun _ hk => hk.2)⟩, ⟨by (try simp only [hl7_1, hl7_2, hl8_2]); (with_reducible repeat (first | apply Kd.N_alloc | apply Kd.N_drewN | apply Kd.N_drew)); exact Kd.N_mono HO304.out (fun _ hk => ⟨hk.1, ⟨hk.2.1, ⟨hk.2.2.1, ⟨hk.2.2.2.2.1, ⟨hk.2.2.2.2.2.1, hk.2.2.2.2.2.2⟩⟩⟩⟩⟩)⟩, ⟨by (try simp only [hl7_1, hl7_2, hl8_2]); (with_reducible repeat (first | apply Kd.R_alloc | apply Kd.R_drewN | apply Kd.R_drew)); exact Kd.R_mono HO299.out (fun _ hk => hk.2)⟩, ⟨by (try simp only [hl7_1, hl7_2, hl8_2]); exact pk BK271.out⟩, ⟨by (try simp only [hl7_1, hl7_2, hl8_2]); exact pk BK301.out⟩, ⟨by repeat (first | exact HB.out | apply ba_ | apply bN_ | apply b1_ | refine below_set ?_ (Aside0.out (by assumption)))⟩⟩
                  case round =>
                   clear H'
                   try clear c1
                   try clear c2
                   try clear p2
                   try clear q2
                   try clear hx2
                   try clear hf2
                   try clear c3
                   try clear p3
                   try clear q3
                   try clear hx3
                   try clear hf3
                   try clear c4
                   try clear c4b0
                   try clear c4b1
                   try clear q4
                   try clear c5
                   try clear c5b0
                   try clear c5b1
                   try clear c6
                   try clear c6b0
                   try clear p6
                   try clear q6
                   try clear hx6
                   try clear hf6
                   try clear c7
                   try clear c7b0
                   try clear c8
                   try clear c8b0
                   try clear c8b1
                   try clear c9
                   try clear c10
                   try clear c20
                   try clear c20b0
                   try clear c21
                   try clear c21b0
                   try clear c22
                   try clear c22b0
                   try clear p23
                   try clear q23
                   try clear hx23
                   try clear hf23
                   try clear c29
                   try clear c29b0
                   try clear p29
                   try clear q29
                   try clear hx29
                   try clear c30
                   try clear c30b0
                   try clear p31
                   try clear q31
                   try clear hx31
                   try clear hf31
                   try clear c32
                   try clear c32b0
                   try clear p33
                   try clear q33
                   try clear hx33
                   try clear hf33
                   try clear c44
                   try clear c44b0
                   try clear c45
                   try clear c45b0
                   try clear c46
                   try clear c46b0
                   try clear c48
                   try clear c48b0
                   try clear q49
                   try clear c50
                   try clear c52
                   try clear c52b0
                   try clear c53
                   try clear c53b0
                   try clear c55
                   try clear c55b0
                   try clear c56
                   try clear c56b0
                   try clear c59
                   try clear c59b0
                   try clear c61
                   try clear c61b0
                   try clear c62
                   try clear c62b0
                   try clear c63
                   try clear c63b0
                   try clear p64
                   try clear q64
                   try clear hx64
                   try clear hf64
                   try clear c72
                   try clear hcz10_0
                   try clear hcz10_1
                   try clear hcz10_2
                   try clear hcz34_0
                   try clear hcz34_1
                   try clear hcz34_2
                   try clear hcz73_0
                   try clear hcz73_1
                   try clear hcz74_0
                   try clear hcz74_1
                   try clear hcz74_2
                   try clear hfz10_0
                   try clear hfz10_1
                   try clear hfz10_2
                   try clear hfz34_0
                   try clear hfz34_1
                   try clear hfz34_2
                   try clear hfz73_0
                   try clear hfz73_1
                   try clear hfz74_0
                   try clear hfz74_1
                   try clear hfz74_2
                   try clear hx23_0
                   try clear hx293_0
                   try clear hx294_0
                   try clear hx295_0
                   try clear hx31_0
                   try clear hx33_0
                   try clear hx64_0
                   try clear p2
                   try clear p23
                   try clear p293
                   try clear p294
                   try clear p295
                   try clear p3
                   try clear p31
                   try clear p33
                   try clear p6
                   try clear p64
                   try clear q2
                   try clear q23
                   try clear q293
                   try clear q294
                   try clear q295
                   try clear q3
                   try clear q31
                   try clear q33
                   try clear q64
                   obtain ⟨x7_4, x8_4, x95_4, rfl, HA, HK4, HO_7, HO_8, HO_9, HO_93, HO_302000, BK271, BK301, HB⟩ := hrel
                   have hl7_4 := (Kd.R_reads' HO_7.out).1
                   rw [hl7_4] at HO_7
                   (try simp only [hl7_4])
                   (try simp only [hl7_4] at BK271)
                   (try simp only [hl7_4] at BK301)
                   (try simp only [hl7_4] at HO_8)
                   (try simp only [hl7_4] at HO_9)
                   (try simp only [hl7_4] at HO_93)
                   (try simp only [hl7_4] at HO_302000)
                   have hl8_4 := (Kd.R_reads' HO_8.out).1
                   rw [hl8_4] at HO_8
                   (try simp only [hl8_4])
                   (try simp only [hl8_4] at BK271)
                   (try simp only [hl8_4] at BK301)
                   (try simp only [hl8_4] at HO_7)
                   (try simp only [hl8_4] at HO_9)
                   (try simp only [hl8_4] at HO_93)
                   (try simp only [hl8_4] at HO_302000)
                   have hl9_4 := (Kd.R_reads' HO_9.out).1
                   rw [hl9_4] at HO_9
                   (try simp only [hl9_4])
                   (try simp only [hl9_4] at BK271)
                   (try simp only [hl9_4] at BK301)
                   (try simp only [hl9_4] at HO_7)
                   (try simp only [hl9_4] at HO_8)
                   (try simp only [hl9_4] at HO_93)
                   (try simp only [hl9_4] at HO_302000)
                   cases gk with
                   | zero => exact absurd HA.out (by simp [spec_loFar.l3])
                   | succ k4 =>
                    have H := HA.out
                    clear HA
                    simp only [spec_loFar.l3] at H
                    by_cases c77 : x95_4 < (t302.length : Int)
                    ·
                     rw [if_pos c77] at H
                     have c77b0 : decide (x95_4 < (t302.length : Int)) = true := decide_eq_true c77
                     clear c77
                     by_cases c78 : 0 ≤ x95_4
                     ·
                      rw [if_pos c78] at H
                      have c78b0 : decide (0 ≤ x95_4) = true := decide_eq_true c78
                      clear c78
                      by_cases c79 : x95_4 < (t302.length : Int)
                      ·
                       rw [if_pos c79] at H
                       have c79b0 : decide (x95_4 < (t302.length : Int)) = true := decide_eq_true c79
                       clear c79
                       replace H := Option.bind_eq_some_iff.mp H
                       obtain ⟨⟨t306, t309⟩, A800, H⟩ := H
                       replace H : ((spec_seIndex.f k4 t306 t309).bind fun t310 => (if 0 ≤ x12_3 then (if x12_3 < (x7_4.length : Int) then ((spec_loCost.f k4 l0_0 l0_1 a0_2 (rd_L2 t302 x95_4) a1).bind fun t312 => (if 0 ≤ t310 then (if t310 < (x7_4.length : Int) then (if (rd x7_4 t310) < 0 then (spec_loFar.j4 k4 a1 (l0_0.length : Int) x7_4 x8_4 y296 x12_3 t310 (wrap64 ((rd x7_4 x12_3) + t312)) t302 (t302.length : Int) x95_4 true l0_0 l0_1 a0_2 t297 t300) else (spec_loFar.j4 k4 a1 (l0_0.length : Int) x7_4 x8_4 y296 x12_3 t310 (wrap64 ((rd x7_4 x12_3) + t312)) t302 (t302.length : Int) x95_4 (decide ((wrap64 ((rd x7_4 x12_3) + t312)) < (rd x7_4 t310))) l0_0 l0_1 a0_2 t297 t300)) else (none)) else (none))) else (none)) else (none))) = some (r1, r2) := H
                       have A80 := ak_ A800
                       clear A800
                       replace H := Option.bind_eq_some_iff.mp H
                       obtain ⟨t310, A810, H⟩ := H
                       replace H : (if 0 ≤ x12_3 then (if x12_3 < (x7_4.length : Int) then ((spec_loCost.f k4 l0_0 l0_1 a0_2 (rd_L2 t302 x95_4) a1).bind fun t312 => (if 0 ≤ t310 then (if t310 < (x7_4.length : Int) then (if (rd x7_4 t310) < 0 then (spec_loFar.j4 k4 a1 (l0_0.length : Int) x7_4 x8_4 y296 x12_3 t310 (wrap64 ((rd x7_4 x12_3) + t312)) t302 (t302.length : Int) x95_4 true l0_0 l0_1 a0_2 t297 t300) else (spec_loFar.j4 k4 a1 (l0_0.length : Int) x7_4 x8_4 y296 x12_3 t310 (wrap64 ((rd x7_4 x12_3) + t312)) t302 (t302.length : Int) x95_4 (decide ((wrap64 ((rd x7_4 x12_3) + t312)) < (rd x7_4 t310))) l0_0 l0_1 a0_2 t297 t300)) else (none)) else (none))) else (none)) else (none)) = some (r1, r2) := H
                       have A81 := ak_ A810
                       clear A810
                       by_cases c82 : 0 ≤ x12_3
                       ·
                        rw [if_pos c82] at H
                        have c82b0 : decide (0 ≤ x12_3) = true := decide_eq_true c82
                        clear c82
                        by_cases c83 : x12_3 < (x7_4.length : Int)
                        ·
                         rw [if_pos c83] at H
                         have c83b0 : decide (x12_3 < (x7_4.length : Int)) = true := decide_eq_true c83
                         clear c83
                         replace H := Option.bind_eq_some_iff.mp H
                         obtain ⟨t312, A840, H⟩ := H
                         replace H : (if 0 ≤ t310 then (if t310 < (x7_4.length : Int) then (if (rd x7_4 t310) < 0 then (spec_loFar.j4 k4 a1 (l0_0.length : Int) x7_4 x8_4 y296 x12_3 t310 (wrap64 ((rd x7_4 x12_3) + t312)) t302 (t302.length : Int) x95_4 true l0_0 l0_1 a0_2 t297 t300) else (spec_loFar.j4 k4 a1 (l0_0.length : Int) x7_4 x8_4 y296 x12_3 t310 (wrap64 ((rd x7_4 x12_3) + t312)) t302 (t302.length : Int) x95_4 (decide ((wrap64 ((rd x7_4 x12_3) + t312)) < (rd x7_4 t310))) l0_0 l0_1 a0_2 t297 t300)) else (none)) else (none)) = some (r1, r2) := H
                         have A84 := ak_ A840
                         clear A840
                         have HC85 := ak_ H
                         clear H
                         have p305 : 0 ≤ (x95_4 : Int) := odt_ (by assumption)
                         have q305 : x95_4 < (t302.length : Int) := odt_ (by assumption)
                         obtain ⟨ad305, A305_0, c305_0, e305, hx305_0, hl305_0, hi305_0⟩ := at_L2 (Kd.N_reads' HO_93.out).2.2 x95_4 p305 q305
                         cases e305
                         obtain ⟨ce305, hce305, hMe305, hcc305⟩ := Kd.N_get HO_93.out [] x95_4 p305 (by first | exact q305 | exact odt_ (by assumption) | (have e_ := (Kd.N_reads' HO_93.out).1; omega))
                         obtain ⟨ua305_0, uc305_0, rfl, ul305_0, ge305_0⟩ := Kd.FK_slice_open hMe305
                         have hv305_0 := hcc305 0 _ rfl
                         rw [Nat.add_zero, show ((Kd.slice 3 (Kd.int .i64))).sz = 1 from rfl, Nat.mul_one] at hv305_0
                         replace hv305_0 := Option.some.inj (hv305_0.symm.trans hx305_0)
                         injection hv305_0 with hva_ hvn_ hvc_
                         rw [hva_] at ge305_0
                         rw [hvc_] at ul305_0
                         have HL305_0 := ak_ (show Kd.V (Kd.int .i64) 3 _ w.heap.size _ _ (rd_L2 t302 x95_4) from Kd.V_mk ul305_0 ge305_0)
                         clear hva_ hvn_ hvc_ ge305_0 ul305_0 hcc305 hce305
                         have HR305_0 := ak_ hi305_0
                         have HC305_0 := ak_ hl305_0
                         clear hi305_0 hl305_0
                         replace p305 := eq_true p305
                         replace q305 := eq_true q305
                         have hnb86 := NB301_271.out
                         have hnc86 := NB271_301.out
                         have hcz87_0 : wr.cell? ⟨gb301, 0, none⟩ = some (.slice Ao71 t297.length co71) := (blk_cell BK301.out 0).trans rfl
                         have hcz87_1 : wr.cell? ⟨gb301, 1, none⟩ = some (.bool t300) := (blk_cell BK301.out 1).trans rfl
                         have hfz87_0 := blk_frozen BK301.out 0
                         have hfz87_1 := blk_frozen BK301.out 1
                         try go_wp2_with (first | ((with_reducible refine gate_callee (f := 96) rfl ?_); refine goesL_ (some 101) rfl rfl Try.func96 (by kernel_rfl) rfl #[.agg #[.slice Ao71 t297.length co71, .bool t300], .slice A305_0 (rd_L2 t302 x95_4).length c305_0] rfl (by first | rfl | (simp only [map_toArray, map_cons, map_nil]; try rfl)) ?_; (with_reducible refine (spec_paCross.calls k4 _ _ t297 t300 _ _ (rd_L2 t302 x95_4) t306 t309 _ ?side1 ?side2 ?side3 ?side4 A80.out).mono ?_); (case side1 => repeat (first | exact (Kd.R_reads' HO_302000.out).2.2 | (with_reducible refine Kd.C_alloc ?_ _) | (with_reducible refine Kd.C_drewN ?_ _) | (with_reducible refine Kd.C_drew ?_))); (case side2 => exact (Kd.R_reads' HO_302000.out).2.1); (case side3 => repeat (first | exact (by repeat (first | (with_reducible exact HR305_0.out) | (with_reducible refine Kd.C_alloc ?_ _) | (with_reducible refine Kd.C_drewN ?_ _) | (with_reducible refine Kd.C_drew ?_) | exact HR305_0.out)) | (with_reducible refine Kd.C_alloc ?_ _) | (with_reducible refine Kd.C_drewN ?_ _) | (with_reducible refine Kd.C_drew ?_))); (case side4 => exact HC305_0.out); rintro e w88 ⟨v307, rfl, ho0, hb⟩; refine ⟨_, rfl, ?_⟩; have n0_ := ak_ (Kd.R_below (Kd.pR HO_7.out) hb); have n1_ := ak_ (Kd.R_below (Kd.pR HO_8.out) hb); have n2_ := ak_ (Kd.R_elder' (Kd.pR HO_9.out) (Kd.R_base ho0) hb); have n3_ := ak_ (Kd.N_elder' (Kd.pN HO_93.out) (Kd.R_base ho0) hb); have n4_ := ak_ (Kd.R_elder' (Kd.pR HO_302000.out) (Kd.R_base ho0) hb); have n5_ := ak_ (Kd.V_elder' (Kd.pV HL305_0.out) (Kd.R_base ho0) hb); have n6_ := ak_ (Kd.R_lower (Kd.R_new' (Kd.R_new' ho0 (Kd.R_lt (Kd.pR HO_9.out))) (Kd.R_lt (Kd.pR HO_302000.out))) (bz_ (by repeat (first | exact HB.out | apply ba_ | apply bN_ | apply b1_ | refine below_set ?_ (Aside0.out (by assumption)))))); have n7_ := ak_ (blk_below (pk BK271.out) hb); have n8_ := ak_ (blk_below (pk BK301.out) hb); have n9_ := ak_ (Kd.C_below (by repeat (first | (with_reducible exact HR305_0.out) | (with_reducible refine Kd.C_alloc ?_ _) | (with_reducible refine Kd.C_drewN ?_ _) | (with_reducible refine Kd.C_drew ?_) | exact HR305_0.out)) hb); have n10_ := ak_ (bs_ (by repeat (first | exact HB.out | apply ba_ | apply bN_ | apply b1_ | refine below_set ?_ (Aside0.out (by assumption)))) hb); clear HO_7; clear HO_8; clear HO_9; clear HO_93; clear HO_302000; clear HL305_0; clear BK271; clear BK301; clear HR305_0; clear HB; have HO_7 := n0_; have HO_8 := n1_; have HO_9 := n2_; have HO_93 := n3_; have HO_302000 := n4_; have HL305_0 := n5_; have HO308 := n6_; have BK271 := n7_; have BK301 := n8_; have HR305_0 := n9_; have HB := n10_; clear n0_ n1_ n2_ n3_ n4_ n5_ n6_ n7_ n8_ n9_ n10_; (try clear hb); (try clear hb2); (try clear hk); (try clear hi); (try clear ho0); obtain ⟨Ao89, co89, eo89⟩ := Kd.R_slice HO308.out; subst eo89) | ((with_reducible refine gate_callee (f := 91) rfl ?_); refine goesL_ (some 102) rfl rfl Try.func91 (by kernel_rfl) rfl #[.agg #[.slice Ao89 t306.length co89, .bool t309]] rfl (by first | rfl | (simp only [map_toArray, map_cons, map_nil]; try rfl)) ?_; (with_reducible refine (spec_seIndex.calls k4 _ _ t306 t309 t310 _ ?side1 ?side2 A81.out).mono ?_); (case side1 => repeat (first | exact (Kd.R_reads' HO308.out).2.2 | (with_reducible refine Kd.C_alloc ?_ _) | (with_reducible refine Kd.C_drewN ?_ _) | (with_reducible refine Kd.C_drew ?_))); (case side2 => exact (Kd.R_reads' HO308.out).2.1); rintro e w90 ⟨rfl, hb⟩; refine ⟨_, rfl, ?_⟩; have n0_ := ak_ (Kd.R_below (Kd.pR HO_7.out) hb); have n1_ := ak_ (Kd.R_below (Kd.pR HO_8.out) hb); have n2_ := ak_ (Kd.R_below (Kd.pR HO_9.out) hb); have n3_ := ak_ (Kd.N_below (Kd.pN HO_93.out) hb); have n4_ := ak_ (Kd.R_below (Kd.pR HO_302000.out) hb); have n5_ := ak_ (Kd.V_below (Kd.pV HL305_0.out) hb); have n6_ := ak_ (Kd.R_below (Kd.pR HO308.out) hb); have n7_ := ak_ (blk_below (pk BK271.out) hb); have n8_ := ak_ (blk_below (pk BK301.out) hb); have n9_ := ak_ (Kd.C_below (by repeat (first | (with_reducible exact HR305_0.out) | (with_reducible refine Kd.C_alloc ?_ _) | (with_reducible refine Kd.C_drewN ?_ _) | (with_reducible refine Kd.C_drew ?_) | exact HR305_0.out)) hb); have n10_ := ak_ (bs_ (by repeat (first | exact HB.out | apply ba_ | apply bN_ | apply b1_ | refine below_set ?_ (Aside0.out (by assumption)))) hb); clear HO_7; clear HO_8; clear HO_9; clear HO_93; clear HO_302000; clear HL305_0; clear HO308; clear BK271; clear BK301; clear HR305_0; clear HB; have HO_7 := n0_; have HO_8 := n1_; have HO_9 := n2_; have HO_93 := n3_; have HO_302000 := n4_; have HL305_0 := n5_; have HO308 := n6_; have BK271 := n7_; have BK301 := n8_; have HR305_0 := n9_; have HB := n10_; clear n0_ n1_ n2_ n3_ n4_ n5_ n6_ n7_ n8_ n9_ n10_; (try clear hb); (try clear hb2); (try clear hk); (try clear hi)))
                         have n0_ := ak_ (Kd.R_drew HO_7.out)
                         have n1_ := ak_ (Kd.R_drew HO_8.out)
                         have n2_ := ak_ (Kd.R_drew HO_9.out)
                         have n3_ := ak_ (Kd.N_drew HO_93.out)
                         have n4_ := ak_ (Kd.R_drew HO_302000.out)
                         have n5_ := ak_ (Kd.V_drew HL305_0.out)
                         have n6_ := ak_ (Kd.R_drew HO308.out)
                         have n7_ := ak_ (k1_ BK271.out)
                         have n8_ := ak_ (k1_ BK301.out)
                         have n9_ := ak_ (Kd.C_drew HR305_0.out)
                         have n10_ := ak_ (b1_ HB.out)
                         clear HO_7 HO_8 HO_9 HO_93 HO_302000 HL305_0 HO308 BK271 BK301 HR305_0 HB
                         have HO_7 := n0_; have HO_8 := n1_; have HO_9 := n2_; have HO_93 := n3_; have HO_302000 := n4_; have HL305_0 := n5_; have HO308 := n6_; have BK271 := n7_; have BK301 := n8_; have HR305_0 := n9_; have HB := n10_
                         clear n0_ n1_ n2_ n3_ n4_ n5_ n6_ n7_ n8_ n9_ n10_
                         have p311 : 0 ≤ (x12_3 : Int) := odt_ (by assumption)
                         have q311 : x12_3 < (x7_4.length : Int) := odt_ (by assumption)
                         obtain ⟨ad311, e311, hx311_0⟩ := Kd.at_int (Kd.R_reads' HO_7.out).2.2 x12_3 p311 q311
                         obtain rfl : (⟨go31, 0, none⟩ : Addr) = ad311 := (by injection e311)
                         (first | simp only [add_plain] at hx311_0 | simp only [add_at] at hx311_0 | simp only [Addr.add, Nat.zero_add] at hx311_0 | skip)
                         replace p311 := eq_true p311
                         replace q311 := eq_true q311
                         refine start_ (n := 10) (S := fun w' => w'.cell? ⟨gb271, 0, none⟩ = some (.slice A0_0 l0_0.length c0_0) ∧ w'.cell? ⟨gb271, 1, none⟩ = some (.slice A0_1 l0_1.length c0_1) ∧ w'.cell? ⟨gb271, 2, none⟩ = some (.int .i64 a0_2) ∧ w'.cell? ⟨go31, (x12_3).toNat, none⟩ = some (.int .i64 (rd x7_4 x12_3))) (ds := []) (mb_ 10 0) (by kernel_rfl) rfl rfl ⟨(blk_cell BK271.out 0).trans rfl, (blk_cell BK271.out 1).trans rfl, (blk_cell BK271.out 2).trans rfl, hx311_0⟩ (fun hHeld => ?_); refine with_tabW spec_loFar.tab27 spec_loFar.bits27 (fun HT_ HW_ => ?_)
                         generalize w90.drew = w91 at HO_7 HO_8 HO_9 HO_93 HO_302000 HL305_0 HO308 BK271 BK301 HR305_0 HB hx311_0 hHeld ⊢
                         refine pure_ (i := 0) (N := some 103) (v := ?_) (a' := ?_) (mb_ 10 1) rfl rfl (any_of HT_.out (by kernel_rfl)) (fun _ _ _ h => h) (Or.inl ⟨by rfl, ?_⟩) ?_ ?_
                         rotate_left
                         ·
                          intro w'
                          go_simp
                          with_reducible rfl
                         rotate_left
                         ·
                          simp only [Act.put, setIfInBounds_toArray, set_cons_zero, set_cons_succ, i64_w, i32_w]
                          rfl
                         refine pure_ (i := 1) (N := some 104) (v := ?_) (a' := ?_) (mb_ 10 3) rfl rfl (any_of HT_.out (by kernel_rfl)) (fun _ _ _ h => h) (Or.inl ⟨by rfl, ?_⟩) ?_ ?_
                         rotate_left
                         ·
                          intro w'
                          go_simp
                          with_reducible rfl
                         rotate_left
                         ·
                          simp only [Act.put, setIfInBounds_toArray, set_cons_zero, set_cons_succ, i64_w, i32_w]
                          rfl
                         refine pure_ (i := 2) (N := some 105) (v := ?_) (a' := ?_) (mb_ 10 7) rfl rfl (any_of HT_.out (by kernel_rfl)) (fun _ _ _ h => h) (Or.inl ⟨by rfl, ?_⟩) ?_ ?_
                         rotate_left
                         ·
                          intro w'
                          go_simp
                          with_reducible rfl
                         rotate_left
                         ·
                          simp only [Act.put, setIfInBounds_toArray, set_cons_zero, set_cons_succ, i64_w, i32_w]
                          rfl
                         refine pure_ (i := 5) (N := some 108) (v := ?_) (a' := ?_) (mb_ 10 39) rfl rfl (any_of HT_.out (by kernel_rfl)) (fun _ _ _ h => h) (Or.inl ⟨by rfl, ?_⟩) ?_ ?_
                         rotate_left
                         ·
                          intro w'
                          go_simp
                          with_reducible rfl
                         rotate_left
                         ·
                          simp only [Act.put, setIfInBounds_toArray, set_cons_zero, set_cons_succ, i64_w, i32_w]
                          rfl
                         refine pure_ (i := 6) (N := some 109) (v := ?_) (a' := ?_) (mb_ 10 103) rfl rfl (any_of HT_.out (by kernel_rfl)) (fun _ _ _ h => h) (Or.inl ⟨by rfl, ?_⟩) ?_ ?_
                         rotate_left
                         ·
                          intro w'
                          go_simp
                          with_reducible rfl
                         rotate_left
                         ·
                          simp only [Act.put, setIfInBounds_toArray, set_cons_zero, set_cons_succ, i64_w, i32_w]
                          rfl
                         refine take_ (i := 3) (N := some 106) (v := ?_) (a' := ?_) (mb_ 10 111) rfl rfl (take_ofW HT_.out HW_.out (by kernel_rfl)) (fun _ _ _ h => h) (Or.inl ⟨by rfl, ?_⟩) hHeld ?_ ?_
                         rotate_left
                         ·
                          rintro w' ⟨s0, s1, s2, s3⟩
                          go_simp
                          with_reducible rfl
                         rotate_left
                         ·
                          simp only [Act.put, setIfInBounds_toArray, set_cons_zero, set_cons_succ, i64_w, i32_w]
                          rfl
                         refine take_ (i := 4) (N := some 107) (v := ?_) (a' := ?_) (mb_ 10 127) rfl rfl (take_ofW HT_.out HW_.out (by kernel_rfl)) (fun _ _ _ h => h) (Or.inl ⟨by rfl, ?_⟩) hHeld ?_ ?_
                         rotate_left
                         ·
                          rintro w' ⟨s0, s1, s2, s3⟩
                          go_simp
                          with_reducible rfl
                         rotate_left
                         ·
                          simp only [Act.put, setIfInBounds_toArray, set_cons_zero, set_cons_succ, i64_w, i32_w]
                          rfl
                         refine one_ (i := 7) (N := some 110) (mb_ 10 255) rfl rfl (one_of HT_.out (by kernel_rfl)) (by decide) (fun K hK => ?_)
                         refine goes_ Try.func101 (by kernel_rfl) rfl #[.agg #[.slice A0_0 l0_0.length c0_0, .slice A0_1 l0_1.length c0_1, .int .i64 a0_2], .slice A305_0 (rd_L2 t302 x95_4).length c305_0, .bool a1] (by rfl) rfl rfl (by first | rfl | (simp only [map_toArray, map_cons, map_nil]; try rfl)) ?_
                         with_reducible refine (spec_loCost.calls k4 _ _ l0_0 _ _ l0_1 a0_2 _ _ (rd_L2 t302 x95_4) a1 t312 _ ?side1 ?side2 ?side3 ?side4 ?side5 ?side6 A84.out).mono ?_
                         (case side1 => repeat (first | exact (Kd.C_below HR0_0.out HB.out) | (with_reducible refine Kd.C_alloc ?_ _) | (with_reducible refine Kd.C_drewN ?_ _) | (with_reducible refine Kd.C_drew ?_)))
                         (case side2 => exact HC0_0.out)
                         (case side3 => repeat (first | exact (Kd.C_below HR0_1.out HB.out) | (with_reducible refine Kd.C_alloc ?_ _) | (with_reducible refine Kd.C_drewN ?_ _) | (with_reducible refine Kd.C_drew ?_)))
                         (case side4 => exact HC0_1.out)
                         (case side5 => repeat (first | exact (by repeat (first | (with_reducible exact HR305_0.out) | (with_reducible refine Kd.C_alloc ?_ _) | (with_reducible refine Kd.C_drewN ?_ _) | (with_reducible refine Kd.C_drew ?_) | exact HR305_0.out)) | (with_reducible refine Kd.C_alloc ?_ _) | (with_reducible refine Kd.C_drewN ?_ _) | (with_reducible refine Kd.C_drew ?_)))
                         (case side6 => exact HC305_0.out)
                         rintro e w92 ⟨rfl, hb⟩
                         have HS3_ := (hb.cell (World.block_lt_of_cell? _ _ (hHeld.2.2.2))).trans (hHeld.2.2.2)
                         refine ⟨_, rfl, ?_⟩
                         have n0_ := ak_ (Kd.R_below (Kd.pR HO_7.out) hb)
                         have n1_ := ak_ (Kd.R_below (Kd.pR HO_8.out) hb)
                         have n2_ := ak_ (Kd.R_below (Kd.pR HO_9.out) hb)
                         have n3_ := ak_ (Kd.N_below (Kd.pN HO_93.out) hb)
                         have n4_ := ak_ (Kd.R_below (Kd.pR HO_302000.out) hb)
                         have n5_ := ak_ (Kd.V_below (Kd.pV HL305_0.out) hb)
                         have n6_ := ak_ (Kd.R_below (Kd.pR HO308.out) hb)
                         have n7_ := ak_ (blk_below (pk BK271.out) hb)
                         have n8_ := ak_ (blk_below (pk BK301.out) hb)
                         have n9_ := ak_ (Kd.C_below (by repeat (first | (with_reducible exact HR305_0.out) | (with_reducible refine Kd.C_alloc ?_ _) | (with_reducible refine Kd.C_drewN ?_ _) | (with_reducible refine Kd.C_drew ?_) | exact HR305_0.out)) hb)
                         have n10_ := ak_ (bs_ (by repeat (first | exact HB.out | apply ba_ | apply bN_ | apply b1_ | refine below_set ?_ (Aside0.out (by assumption)))) hb)
                         clear HO_7 HO_8 HO_9 HO_93 HO_302000 HL305_0 HO308 BK271 BK301 HR305_0 HB
                         have HO_7 := n0_; have HO_8 := n1_; have HO_9 := n2_; have HO_93 := n3_; have HO_302000 := n4_; have HL305_0 := n5_; have HO308 := n6_; have BK271 := n7_; have BK301 := n8_; have HR305_0 := n9_; have HB := n10_
                         clear n0_ n1_ n2_ n3_ n4_ n5_ n6_ n7_ n8_ n9_ n10_
                         (try clear hb)
                         (try clear hb2)
                         (try clear hk)
                         (try clear hi)
                         refine hK.out _ _ ⟨(blk_cell BK271.out 0).trans rfl, (blk_cell BK271.out 1).trans rfl, (blk_cell BK271.out 2).trans rfl, HS3_⟩ (fun hHeld => ?_)
                         clear hK K
                         refine norm_ (a' := ?_) ?_ ?_
                         rotate_left
                         ·
                          show Act.put _ (some 110) _ = _
                          simp only [Act.put, setIfInBounds_toArray, set_cons_zero, set_cons_succ, i64_w, i32_w]
                          rfl
                         refine pure_ (i := 8) (N := some 111) (v := ?_) (a' := ?_) (mb_ 10 511) rfl rfl (any_of HT_.out (by kernel_rfl)) (fun _ _ _ h => h) (Or.inl ⟨by rfl, ?_⟩) ?_ ?_
                         rotate_left
                         ·
                          intro w'
                          go_simp
                          with_reducible rfl
                         rotate_left
                         ·
                          simp only [Act.put, setIfInBounds_toArray, set_cons_zero, set_cons_succ, i64_w, i32_w]
                          rfl
                         refine pure_ (i := 9) (N := some 19) (v := ?_) (a' := ?_) (mb_ 10 1023) rfl rfl (any_of HT_.out (by kernel_rfl)) (fun _ _ _ h => h) (Or.inl ⟨by rfl, ?_⟩) ?_ ?_
                         rotate_left
                         ·
                          intro w'
                          go_simp
                          with_reducible rfl
                         rotate_left
                         ·
                          simp only [Act.put, setIfInBounds_toArray, set_cons_zero, set_cons_succ, i64_w, i32_w]
                          rfl
                         refine done_ (done_of HT_.out (by kernel_rfl)) ?_
                         go_upto_region 28 with (fail)
                         go_cut [124] (fun v124 wc => ∃ (kq : Nat) (x124_84 : Bool), v124 = .bool x124_84 ∧ Aside0 (spec_loFar.j4 kq a1 (l0_0.length : Int) x7_4 x8_4 y296 x12_3 t310 (wrap64 ((rd x7_4 x12_3) + t312)) t302 (t302.length : Int) x95_4 x124_84 l0_0 l0_1 a0_2 t297 t300 = some (r1, r2)) ∧ Aside0 (kq ≤ k4) ∧ Aside0 (Kd.R (Kd.int .i64) 3 wc w.heap.size (fun k_ => some k_ ≠ ((.slice (some ⟨go33, 0, none⟩) x8_4.length co33) : Value).ownBlock) (.slice (some ⟨go31, 0, none⟩) x7_4.length co19) x7_4) ∧ Aside0 (Kd.R (Kd.int .i64) 3 wc w.heap.size (fun k_ => some k_ ≠ ((.slice (some ⟨go31, 0, none⟩) x7_4.length co19) : Value).ownBlock) (.slice (some ⟨go33, 0, none⟩) x8_4.length co33) x8_4) ∧ Aside0 (Kd.R Kd.bool 4 wc w.heap.size (fun k_ => some k_ ≠ ((.slice Ao71 t297.length co71) : Value).ownBlock) (.slice (some ⟨go64, 0, none⟩) y296.length co64) y296) ∧ Aside0 (Kd.N (Kd.slice 3 (Kd.int .i64)) 29 wc w.heap.size (fun k_ => some k_ ≠ ((.slice (some ⟨go31, 0, none⟩) x7_4.length co19) : Value).ownBlock ∧ some k_ ≠ ((.slice (some ⟨go33, 0, none⟩) x8_4.length co33) : Value).ownBlock ∧ some k_ ≠ ((.slice (some ⟨go64, 0, none⟩) y296.length co64) : Value).ownBlock ∧ some k_ ≠ ((.slice Ao71 t297.length co71) : Value).ownBlock ∧ k_ ≠ gb271 ∧ k_ ≠ gb301) (.slice (some ad305) t302.length co76) t302) ∧ Aside0 (Kd.R Kd.bool 4 wc w.heap.size (fun k_ => some k_ ≠ ((.slice (some ⟨go64, 0, none⟩) y296.length co64) : Value).ownBlock) (.slice Ao71 t297.length co71) t297) ∧ Aside0 (wc.heap[gb271]? = some (.cells #[(.slice A0_0 l0_0.length c0_0), (.slice A0_1 l0_1.length c0_1), .int .i64 a0_2] 43 (0, 0))) ∧ Aside0 (wc.heap[gb301]? = some (.cells #[(.slice Ao71 t297.length co71), .bool t300] 115 (0, 0))) ∧ Aside0 (Kd.C (Kd.int .i64) wc A305_0 (rd_L2 t302 x95_4).length (rd_L2 t302 x95_4)) ∧ Aside0 (Below w.heap.size w wc))
                         case first =>
                          have H := HC85.out
                          clear HC85
                          by_cases c93 : 0 ≤ t310
                          ·
                           rw [if_pos c93] at H
                           have c93b0 : decide (0 ≤ t310) = true := decide_eq_true c93
                           clear c93
                           (first | rw [c93b0] | (simp only [i64_w, i32_w]; rw [c93b0]) | rw [c93b1] | skip)
                           by_cases c94 : t310 < (x7_4.length : Int)
                           ·
                            rw [if_pos c94] at H
                            have c94b0 : decide (t310 < (x7_4.length : Int)) = true := decide_eq_true c94
                            clear c94
                            by_cases c95 : (rd x7_4 t310) < 0
                            ·
                             rw [if_pos c95] at H
                             have c95b0 : decide ((rd x7_4 t310) < 0) = true := decide_eq_true c95
                             clear c95
                             have H' := ak_ H
                             clear H
                             have p313 : 0 ≤ (t310 : Int) := odt_ (by assumption)
                             have q313 : t310 < (x7_4.length : Int) := odt_ (by assumption)
                             obtain ⟨ad313, e313, hx313_0⟩ := Kd.at_int (Kd.R_reads' HO_7.out).2.2 t310 p313 q313
                             obtain rfl : (⟨go31, 0, none⟩ : Addr) = ad313 := (by injection e313)
                             (first | simp only [add_plain] at hx313_0 | simp only [add_at] at hx313_0 | simp only [Addr.add, Nat.zero_add] at hx313_0 | skip)
                             replace p313 := eq_true p313
                             replace q313 := eq_true q313
                             go_wp2
                             go_meet
                             case rel => exact ⟨_, (true), (by first | rfl | (simp; done) | (simp [*]; done)), H', ⟨by have := HK1.out; have := HK2.out; have := HK3.out; have := HK4.out; first | omega | exact Nat.le_refl _⟩, ⟨by (try simp only [hl7_1, hl7_2, hl8_2, hl7_4, hl8_4, hl9_4]); exact Kd.pR HO_7.out⟩, ⟨by (try simp only [hl7_1, hl7_2, hl8_2, hl7_4, hl8_4, hl9_4]); exact Kd.pR HO_8.out⟩, ⟨by (try simp only [hl7_1, hl7_2, hl8_2, hl7_4, hl8_4, hl9_4]); (with_reducible repeat (first | apply Kd.R_alloc | apply Kd.R_drewN | apply Kd.R_drew)); exact Kd.R_mono HO_9.out (fun _ hk => hk.1)⟩, ⟨by (try simp only [hl7_1, hl7_2, hl8_2, hl7_4, hl8_4, hl9_4]); (with_reducible repeat (first | apply Kd.N_alloc | apply Kd.N_drewN | apply Kd.N_drew)); exact Kd.N_mono HO_93.out (fun _ hk => ⟨hk.1.1, ⟨hk.1.2.1, ⟨hk.1.2.2.1, ⟨hk.1.2.2.2.1, ⟨hk.1.2.2.2.2.1, hk.1.2.2.2.2.2⟩⟩⟩⟩⟩)⟩, ⟨by (try simp only [hl7_1, hl7_2, hl8_2, hl7_4, hl8_4, hl9_4]); (with_reducible repeat (first | apply Kd.R_alloc | apply Kd.R_drewN | apply Kd.R_drew)); exact Kd.R_mono HO_302000.out (fun _ hk => hk.1)⟩, ⟨by (try simp only [hl7_1, hl7_2, hl8_2, hl7_4, hl8_4, hl9_4]); exact pk BK271.out⟩, ⟨by (try simp only [hl7_1, hl7_2, hl8_2, hl7_4, hl8_4, hl9_4]); exact pk BK301.out⟩, ⟨by repeat (first | (with_reducible exact HR305_0.out) | (with_reducible refine Kd.C_alloc ?_ _) | (with_reducible refine Kd.C_drewN ?_ _) | (with_reducible refine Kd.C_drew ?_) | exact HR305_0.out)⟩, ⟨by repeat (first | exact HB.out | apply ba_ | apply bN_ | apply b1_ | refine below_set ?_ (Aside0.out (by assumption)))⟩⟩
                            ·
                             rw [if_neg c95] at H
                             have c95b0 : decide ((rd x7_4 t310) < 0) = false := decide_eq_false c95
                             clear c95
                             have H' := ak_ H
                             clear H
                             have p313 : 0 ≤ (t310 : Int) := odt_ (by assumption)
                             have q313 : t310 < (x7_4.length : Int) := odt_ (by assumption)
                             obtain ⟨ad313, e313, hx313_0⟩ := Kd.at_int (Kd.R_reads' HO_7.out).2.2 t310 p313 q313
                             obtain rfl : (⟨go31, 0, none⟩ : Addr) = ad313 := (by injection e313)
                             (first | simp only [add_plain] at hx313_0 | simp only [add_at] at hx313_0 | simp only [Addr.add, Nat.zero_add] at hx313_0 | skip)
                             replace p313 := eq_true p313
                             replace q313 := eq_true q313
                             have p314 : 0 ≤ (t310 : Int) := odt_ (by assumption)
                             have q314 : t310 < (x7_4.length : Int) := odt_ (by assumption)
                             obtain ⟨ad314, e314, hx314_0⟩ := Kd.at_int (Kd.R_reads' HO_7.out).2.2 t310 p314 q314
                             obtain rfl : (⟨go31, 0, none⟩ : Addr) = ad314 := (by injection e314)
                             (first | simp only [add_plain] at hx314_0 | simp only [add_at] at hx314_0 | simp only [Addr.add, Nat.zero_add] at hx314_0 | skip)
                             replace p314 := eq_true p314
                             replace q314 := eq_true q314
                             go_wp2
                             go_meet
                             case rel => exact ⟨_, (decide ((wrap64 ((rd x7_4 x12_3) + t312)) < (rd x7_4 t310))), (by first | rfl | (simp; done) | (simp [*]; done)), H', ⟨by have := HK1.out; have := HK2.out; have := HK3.out; have := HK4.out; first | omega | exact Nat.le_refl _⟩, ⟨by (try simp only [hl7_1, hl7_2, hl8_2, hl7_4, hl8_4, hl9_4]); exact Kd.pR HO_7.out⟩, ⟨by (try simp only [hl7_1, hl7_2, hl8_2, hl7_4, hl8_4, hl9_4]); exact Kd.pR HO_8.out⟩, ⟨by (try simp only [hl7_1, hl7_2, hl8_2, hl7_4, hl8_4, hl9_4]); (with_reducible repeat (first | apply Kd.R_alloc | apply Kd.R_drewN | apply Kd.R_drew)); exact Kd.R_mono HO_9.out (fun _ hk => hk.1)⟩, ⟨by (try simp only [hl7_1, hl7_2, hl8_2, hl7_4, hl8_4, hl9_4]); (with_reducible repeat (first | apply Kd.N_alloc | apply Kd.N_drewN | apply Kd.N_drew)); exact Kd.N_mono HO_93.out (fun _ hk => ⟨hk.1.1, ⟨hk.1.2.1, ⟨hk.1.2.2.1, ⟨hk.1.2.2.2.1, ⟨hk.1.2.2.2.2.1, hk.1.2.2.2.2.2⟩⟩⟩⟩⟩)⟩, ⟨by (try simp only [hl7_1, hl7_2, hl8_2, hl7_4, hl8_4, hl9_4]); (with_reducible repeat (first | apply Kd.R_alloc | apply Kd.R_drewN | apply Kd.R_drew)); exact Kd.R_mono HO_302000.out (fun _ hk => hk.1)⟩, ⟨by (try simp only [hl7_1, hl7_2, hl8_2, hl7_4, hl8_4, hl9_4]); exact pk BK271.out⟩, ⟨by (try simp only [hl7_1, hl7_2, hl8_2, hl7_4, hl8_4, hl9_4]); exact pk BK301.out⟩, ⟨by repeat (first | (with_reducible exact HR305_0.out) | (with_reducible refine Kd.C_alloc ?_ _) | (with_reducible refine Kd.C_drewN ?_ _) | (with_reducible refine Kd.C_drew ?_) | exact HR305_0.out)⟩, ⟨by repeat (first | exact HB.out | apply ba_ | apply bN_ | apply b1_ | refine below_set ?_ (Aside0.out (by assumption)))⟩⟩
                           ·
                            rw [if_neg c94] at H
                            exact absurd H (by simp)
                          ·
                           rw [if_neg c93] at H
                           exact absurd H (by simp)
                         case rest =>
                          clear HC85
                          try clear c1
                          try clear c2
                          try clear p2
                          try clear q2
                          try clear hx2
                          try clear hf2
                          try clear c3
                          try clear p3
                          try clear q3
                          try clear hx3
                          try clear hf3
                          try clear c4
                          try clear c4b0
                          try clear c4b1
                          try clear q4
                          try clear c5
                          try clear c5b0
                          try clear c5b1
                          try clear c6
                          try clear c6b0
                          try clear p6
                          try clear q6
                          try clear hx6
                          try clear hf6
                          try clear c7
                          try clear c7b0
                          try clear c8
                          try clear c8b0
                          try clear c8b1
                          try clear c9
                          try clear c10
                          try clear c20
                          try clear c20b0
                          try clear c21
                          try clear c21b0
                          try clear c22
                          try clear c22b0
                          try clear p23
                          try clear q23
                          try clear hx23
                          try clear hf23
                          try clear c29
                          try clear c29b0
                          try clear p29
                          try clear q29
                          try clear hx29
                          try clear c30
                          try clear c30b0
                          try clear p30
                          try clear q30
                          try clear hx30
                          try clear p31
                          try clear q31
                          try clear hx31
                          try clear hf31
                          try clear c32
                          try clear c32b0
                          try clear p33
                          try clear q33
                          try clear hx33
                          try clear hf33
                          try clear c44
                          try clear c44b0
                          try clear c45
                          try clear c45b0
                          try clear c46
                          try clear c46b0
                          try clear c48
                          try clear c48b0
                          try clear q49
                          try clear c50
                          try clear c52
                          try clear c52b0
                          try clear c53
                          try clear c53b0
                          try clear c55
                          try clear c55b0
                          try clear c56
                          try clear c56b0
                          try clear c59
                          try clear c59b0
                          try clear c61
                          try clear c61b0
                          try clear c62
                          try clear c62b0
                          try clear c63
                          try clear c63b0
                          try clear p64
                          try clear q64
                          try clear hx64
                          try clear hf64
                          try clear c72
                          try clear c77
                          try clear c77b0
                          try clear c78
                          try clear c78b0
                          try clear c79
                          try clear c79b0
                          try clear c82
                          try clear c82b0
                          try clear c83
                          try clear c83b0
                          try clear c86
                          try clear c91
                          try clear c93
                          try clear c93b0
                          try clear c94
                          try clear c94b0
                          try clear c95
                          try clear c95b0
                          try clear hcz10_0
                          try clear hcz10_1
                          try clear hcz10_2
                          try clear hcz34_0
                          try clear hcz34_1
                          try clear hcz34_2
                          try clear hcz73_0
                          try clear hcz73_1
                          try clear hcz74_0
                          try clear hcz74_1
                          try clear hcz74_2
                          try clear hcz87_0
                          try clear hcz87_1
                          try clear hfz10_0
                          try clear hfz10_1
                          try clear hfz10_2
                          try clear hfz34_0
                          try clear hfz34_1
                          try clear hfz34_2
                          try clear hfz73_0
                          try clear hfz73_1
                          try clear hfz74_0
                          try clear hfz74_1
                          try clear hfz74_2
                          try clear hfz87_0
                          try clear hfz87_1
                          try clear hx23_0
                          try clear hx293_0
                          try clear hx294_0
                          try clear hx295_0
                          try clear hx305_0
                          try clear hx311_0
                          try clear hx313_0
                          try clear hx314_0
                          try clear hx31_0
                          try clear hx33_0
                          try clear hx64_0
                          try clear p2
                          try clear p23
                          try clear p29
                          try clear p293
                          try clear p294
                          try clear p295
                          try clear p3
                          try clear p305
                          try clear p31
                          try clear p311
                          try clear p313
                          try clear p314
                          try clear p33
                          try clear p6
                          try clear p64
                          try clear q2
                          try clear q23
                          try clear q29
                          try clear q293
                          try clear q294
                          try clear q295
                          try clear q3
                          try clear q305
                          try clear q31
                          try clear q311
                          try clear q313
                          try clear q314
                          try clear q33
                          try clear q4
                          try clear q49
                          try clear q6
                          try clear q64
                          obtain ⟨kq, x124_84, rfl, HA, HJ84, HO_7, HO_8, HO_9, HO_93, HO_302000, BK271, BK301, HR305_0, HB⟩ := hcut
                          cases kq with
                          | zero => exact absurd HA.out (by simp [spec_loFar.j4])
                          | succ kj84 =>
                           have H := HA.out
                           clear HA
                           simp only [spec_loFar.j4] at H
                           by_cases c96 : x124_84 = true
                           ·
                            subst c96
                            have H1 : (if 0 ≤ t310 then (if t310 < (x7_4.length : Int) then ((some (x7_4.set (t310 : Int).toNat (wrap64 ((rd x7_4 x12_3) + t312)) : List Int)).bind fun y315 => (if t310 < (x8_4.length : Int) then ((some (x8_4.set (t310 : Int).toNat 0 : List Int)).bind fun y316 => (if (wrap64 ((rd x7_4 x12_3) + t312)) = (rd y315 t310) then (if 0 ≤ x12_3 then (if x12_3 < (x8_4.length : Int) then (spec_loFar.l3 kj84 a1 (l0_0.length : Int) y315 (y316.set (t310 : Int).toNat (wrap64 ((rd y316 t310) + (rd y316 x12_3)))) y296 x12_3 t302 (t302.length : Int) (wrap64 (x95_4 + 1)) l0_0 l0_1 a0_2 t297 t300) else (none)) else (none)) else (spec_loFar.l3 kj84 a1 (l0_0.length : Int) y315 y316 y296 x12_3 t302 (t302.length : Int) (wrap64 (x95_4 + 1)) l0_0 l0_1 a0_2 t297 t300))) else (none))) else (none)) else (none)) = some (r1, r2) := by rw [if_pos rfl] at H; exact H
                            clear H
                            have H := H1
                            clear H1
                            by_cases c97 : 0 ≤ t310
                            ·
                             rw [if_pos c97] at H
                             have c97b0 : decide (0 ≤ t310) = true := decide_eq_true c97
                             clear c97
                             by_cases c98 : t310 < (x7_4.length : Int)
                             ·
                              rw [if_pos c98] at H
                              have c98b0 : decide (t310 < (x7_4.length : Int)) = true := decide_eq_true c98
                              clear c98
                              obtain ⟨y315, hy315⟩ : ∃ y_ : List Int, y_ = (x7_4.set (t310 : Int).toNat (wrap64 ((rd x7_4 x12_3) + t312))) := ⟨_, rfl⟩
                              replace H : (if t310 < (x8_4.length : Int) then ((some (x8_4.set (t310 : Int).toNat 0 : List Int)).bind fun y316 => (if (wrap64 ((rd x7_4 x12_3) + t312)) = (rd y315 t310) then (if 0 ≤ x12_3 then (if x12_3 < (x8_4.length : Int) then (spec_loFar.l3 kj84 a1 (l0_0.length : Int) y315 (y316.set (t310 : Int).toNat (wrap64 ((rd y316 t310) + (rd y316 x12_3)))) y296 x12_3 t302 (t302.length : Int) (wrap64 (x95_4 + 1)) l0_0 l0_1 a0_2 t297 t300) else (none)) else (none)) else (spec_loFar.l3 kj84 a1 (l0_0.length : Int) y315 y316 y296 x12_3 t302 (t302.length : Int) (wrap64 (x95_4 + 1)) l0_0 l0_1 a0_2 t297 t300))) else (none)) = some (r1, r2) := by first | (rw [hy315]; exact H) | exact H
                              have Ny315 := ak_ hy315
                              clear hy315
                              by_cases c100 : t310 < (x8_4.length : Int)
                              ·
                               rw [if_pos c100] at H
                               have c100b0 : decide (t310 < (x8_4.length : Int)) = true := decide_eq_true c100
                               clear c100
                               obtain ⟨y316, hy316⟩ : ∃ y_ : List Int, y_ = (x8_4.set (t310 : Int).toNat 0) := ⟨_, rfl⟩
                               replace H : (if (wrap64 ((rd x7_4 x12_3) + t312)) = (rd y315 t310) then (if 0 ≤ x12_3 then (if x12_3 < (x8_4.length : Int) then (spec_loFar.l3 kj84 a1 (l0_0.length : Int) y315 (y316.set (t310 : Int).toNat (wrap64 ((rd y316 t310) + (rd y316 x12_3)))) y296 x12_3 t302 (t302.length : Int) (wrap64 (x95_4 + 1)) l0_0 l0_1 a0_2 t297 t300) else (none)) else (none)) else (spec_loFar.l3 kj84 a1 (l0_0.length : Int) y315 y316 y296 x12_3 t302 (t302.length : Int) (wrap64 (x95_4 + 1)) l0_0 l0_1 a0_2 t297 t300)) = some (r1, r2) := by first | (rw [hy316]; exact H) | exact H
                               have Ny316 := ak_ hy316
                               clear hy316
                               have HC102 := ak_ H
                               clear H
                               have p99 : 0 ≤ (t310 : Int) := odt_ (by assumption)
                               have q99 : (t310 : Int) < ((x7_4.length : Int) : Int) := odt_ (by assumption)
                               obtain ⟨hx99_0, hf99_0⟩ := Kd.R_celln 0 HO_7.out (t310 : Int) p99 q99
                               replace p99 := eq_true p99
                               replace q99 := eq_true q99
                               have HP103 := Kd.R_putg HO_7.out (t310 : Int) (wrap64 ((rd x7_4 x12_3) + t312))
                               go_upto_if 137 with (first | ((with_reducible refine gate_store (t := 3) (p := 128) rfl ?_); refine store_event (t := 3) (p := 128) (v := ?vo_w104) (w1 := (wc.setCell ⟨go31, (t310 : Int).toNat, none⟩ (.int .i64 (wrap64 ((rd x7_4 x12_3) + t312))))) ?hg ?ho ?hn ?hr ?_; (case ho => rfl); (case hg => rfl); (case hn => rfl); (case hr => go_simp <;> rfl); intro w104 hw; have hg : wc.grownBy w104 (some go31) := (by rw [hw]; exact HP103.2); have hp_ : Kd.R (Kd.int .i64) 3 w104 w.heap.size (fun k_ => some k_ ≠ (.slice (some ⟨go33, 0, none⟩) x8_4.length co33 : Value).ownBlock) (.slice (some ⟨go31, 0, none⟩) x7_4.length co19) y315 := (by rw [hw, Ny315.out]; exact HP103.1); clear HP103; have n0_ := ak_ (hp_); have n1_ := ak_ (Kd.R_after (v := (.slice (some ⟨go31, 0, none⟩) x7_4.length co19)) (v1 := (.slice (some ⟨go31, 0, none⟩) x7_4.length co19)) (ok := (fun _ => True)) (by (with_reducible repeat (first | apply Kd.R_alloc | apply Kd.R_drewN | apply Kd.R_drew)); exact Kd.R_mono HO_8.out (fun _ hk => ⟨trivial, hk⟩)) hg (.inl rfl)); have n2_ := ak_ (Kd.R_over' (v := (.slice (some ⟨go31, 0, none⟩) x7_4.length co19)) (Kd.pR HO_9.out) (Kd.R_typed HO_7.out) (by decide) hg); have n3_ := ak_ (Kd.N_afterv (v := (.slice (some ⟨go31, 0, none⟩) x7_4.length co19)) (v1 := (.slice (some ⟨go31, 0, none⟩) x7_4.length co19)) (ok := (fun k_ => some k_ ≠ (.slice (some ⟨go33, 0, none⟩) x8_4.length co33 : Value).ownBlock ∧ some k_ ≠ (.slice (some ⟨go64, 0, none⟩) y296.length co64 : Value).ownBlock ∧ some k_ ≠ (.slice Ao71 t297.length co71 : Value).ownBlock ∧ k_ ≠ gb271 ∧ k_ ≠ gb301)) (by (with_reducible repeat (first | apply Kd.N_alloc | apply Kd.N_drewN | apply Kd.N_drew)); exact Kd.N_mono HO_93.out (fun _ hk => ⟨⟨hk.2.1, ⟨hk.2.2.1, ⟨hk.2.2.2.1, ⟨hk.2.2.2.2.1, hk.2.2.2.2.2⟩⟩⟩⟩, hk.1⟩)) hg (.inl rfl)); have n4_ := ak_ (Kd.R_over' (v := (.slice (some ⟨go31, 0, none⟩) x7_4.length co19)) (Kd.pR HO_302000.out) (Kd.R_typed HO_7.out) (by decide) hg); have n5_ := ak_ (blk_grown (pk BK271.out) hg (Kd.R_ne HO_7.out BK271.out (by decide))); have n6_ := ak_ (blk_grown (pk BK301.out) hg (Kd.R_ne HO_7.out BK301.out (by decide))); have n7_ := ak_ ((by rw [hw]; exact below_set (HB.out) GB31.out : Below w.heap.size w w104)); clear HO_7; clear HO_8; clear HO_9; clear HO_93; clear HO_302000; clear BK271; clear BK301; clear HB; have HO_7 := n0_; have HO_8 := n1_; have HO_9 := n2_; have HO_93 := n3_; have HO_302000 := n4_; have BK271 := n5_; have BK301 := n6_; have HB := n7_; clear n0_ n1_ n2_ n3_ n4_ n5_ n6_ n7_; clear hg hw hp_; have p101 : 0 ≤ (t310 : Int) := odt_ (by assumption); have q101 : (t310 : Int) < ((x8_4.length : Int) : Int) := odt_ (by assumption); obtain ⟨hx101_0, hf101_0⟩ := Kd.R_celln 0 HO_8.out (t310 : Int) p101 q101; replace p101 := eq_true p101; replace q101 := eq_true q101; have n_ := ak_ (Kd.R_mono (ok' := (fun k_ => some k_ ≠ (.slice (some ⟨go31, 0, none⟩) x7_4.length co19 : Value).ownBlock)) HO_8.out (fun k_ hk => hk.2)); clear HO_8; have HO_8 := n_; clear n_; obtain ⟨hy105_, hz105_⟩ := Kd.R_celln 0 HO_8.out (t310 : Int) (odt_ (by assumption)) (odt_ (by assumption)); have HP105 := Kd.R_putg HO_8.out (t310 : Int) 0) | ((with_reducible refine gate_store (t := 3) (p := 131) rfl ?_); refine store_event (t := 3) (p := 131) (v := ?vo_w106) (w1 := (w104.setCell ⟨go33, (t310 : Int).toNat, none⟩ (.int .i64 0))) ?hg ?ho ?hn ?hr ?_; (case ho => rfl); (case hg => rfl); (case hn => rfl); (case hr => go_simp <;> rfl); intro w106 hw; have hg : w104.grownBy w106 (some go33) := (by rw [hw]; exact HP105.2); have hp_ : Kd.R (Kd.int .i64) 3 w106 w.heap.size (fun k_ => some k_ ≠ (.slice (some ⟨go31, 0, none⟩) x7_4.length co19 : Value).ownBlock) (.slice (some ⟨go33, 0, none⟩) x8_4.length co33) y316 := (by rw [hw, Ny316.out]; exact HP105.1); clear HP105; have n0_ := ak_ (Kd.R_after (v := (.slice (some ⟨go33, 0, none⟩) x8_4.length co33)) (v1 := (.slice (some ⟨go33, 0, none⟩) x8_4.length co33)) (ok := (fun _ => True)) (by (with_reducible repeat (first | apply Kd.R_alloc | apply Kd.R_drewN | apply Kd.R_drew)); exact Kd.R_mono HO_7.out (fun _ hk => ⟨trivial, hk⟩)) hg (.inl rfl)); have n1_ := ak_ (hp_); have n2_ := ak_ (Kd.R_over' (v := (.slice (some ⟨go33, 0, none⟩) x8_4.length co33)) (Kd.pR HO_9.out) (Kd.R_typed HO_8.out) (by decide) hg); have n3_ := ak_ (Kd.N_afterv (v := (.slice (some ⟨go33, 0, none⟩) x8_4.length co33)) (v1 := (.slice (some ⟨go33, 0, none⟩) x8_4.length co33)) (ok := (fun k_ => some k_ ≠ (.slice (some ⟨go31, 0, none⟩) x7_4.length co19 : Value).ownBlock ∧ some k_ ≠ (.slice (some ⟨go64, 0, none⟩) y296.length co64 : Value).ownBlock ∧ some k_ ≠ (.slice Ao71 t297.length co71 : Value).ownBlock ∧ k_ ≠ gb271 ∧ k_ ≠ gb301)) (by (with_reducible repeat (first | apply Kd.N_alloc | apply Kd.N_drewN | apply Kd.N_drew)); exact Kd.N_mono HO_93.out (fun _ hk => ⟨⟨hk.2, ⟨hk.1.2.1, ⟨hk.1.2.2.1, ⟨hk.1.2.2.2.1, hk.1.2.2.2.2⟩⟩⟩⟩, hk.1.1⟩)) hg (.inl rfl)); have n4_ := ak_ (Kd.R_over' (v := (.slice (some ⟨go33, 0, none⟩) x8_4.length co33)) (Kd.pR HO_302000.out) (Kd.R_typed HO_8.out) (by decide) hg); have n5_ := ak_ (blk_grown (pk BK271.out) hg (Kd.R_ne HO_8.out BK271.out (by decide))); have n6_ := ak_ (blk_grown (pk BK301.out) hg (Kd.R_ne HO_8.out BK301.out (by decide))); have n7_ := ak_ ((by rw [hw]; exact below_set (HB.out) GB33.out : Below w.heap.size w w106)); clear HO_7; clear HO_8; clear HO_9; clear HO_93; clear HO_302000; clear BK271; clear BK301; clear HB; have HO_7 := n0_; have HO_8 := n1_; have HO_9 := n2_; have HO_93 := n3_; have HO_302000 := n4_; have BK271 := n5_; have BK301 := n6_; have HB := n7_; clear n0_ n1_ n2_ n3_ n4_ n5_ n6_ n7_; clear hg hw hp_; have p317 : 0 ≤ (t310 : Int) := odt_ (by assumption); have q317 : t310 < (y315.length : Int) := (by have h_ : (t310 : Int) < ((x7_4.length : Int) : Int) := odt_ (by assumption); first | (have e_ := (Kd.R_reads' HO_7.out).1; omega) | simpa only [Ny315.out, List.length_set] using h_); have ql317 : ((t310 : Int) < ((x7_4.length : Int) : Int)) = True := eq_true (odt_ (by assumption)); obtain ⟨ad317, e317, hx317_0⟩ := Kd.at_int (Kd.R_reads' HO_7.out).2.2 t310 p317 q317; obtain rfl : (⟨go31, 0, none⟩ : Addr) = ad317 := (by injection e317); (first | simp only [add_plain] at hx317_0 | simp only [add_at] at hx317_0 | simp only [Addr.add, Nat.zero_add] at hx317_0 | skip); replace p317 := eq_true p317; replace q317 := eq_true q317))
                               (try simp only [Act.put, setIfInBounds_toArray, set_cons_zero, set_cons_succ])
                               have H := HC102.out
                               clear HC102
                               by_cases c107 : (wrap64 ((rd x7_4 x12_3) + t312)) = (rd y315 t310)
                               ·
                                rw [if_pos c107] at H
                                have c107b0 : ((wrap64 ((rd x7_4 x12_3) + t312)) == (rd y315 t310)) = true := beq_iff_eq.mpr c107
                                have c107b1 : ((wrap64 ((rd x7_4 x12_3) + t312)) != (rd y315 t310)) = false := bne_eq_false_iff_eq.mpr c107
                                clear c107
                                (first | rw [c107b0] | (simp only [i64_w, i32_w]; rw [c107b0]) | rw [c107b1] | skip)
                                by_cases c108 : 0 ≤ x12_3
                                ·
                                 rw [if_pos c108] at H
                                 have c108b0 : decide (0 ≤ x12_3) = true := decide_eq_true c108
                                 clear c108
                                 by_cases c109 : x12_3 < (x8_4.length : Int)
                                 ·
                                  rw [if_pos c109] at H
                                  have c109b0 : decide (x12_3 < (x8_4.length : Int)) = true := decide_eq_true c109
                                  clear c109
                                  obtain ⟨y320, hy320⟩ : ∃ y_ : List Int, y_ = (y316.set (t310 : Int).toNat (wrap64 ((rd y316 t310) + (rd y316 x12_3)))) := ⟨_, rfl⟩
                                  replace H : (spec_loFar.l3 kj84 a1 (l0_0.length : Int) y315 y320 y296 x12_3 t302 (t302.length : Int) (wrap64 (x95_4 + 1)) l0_0 l0_1 a0_2 t297 t300) = some (r1, r2) := by first | (rw [hy320]; exact H) | exact H
                                  have Ny320 := ak_ hy320
                                  clear hy320
                                  have H' := ak_ H
                                  clear H
                                  try go_wp2
                                  have n0_ := ak_ (Kd.R_drew HO_7.out)
                                  have n1_ := ak_ (Kd.R_drew HO_8.out)
                                  have n2_ := ak_ (Kd.R_drew HO_9.out)
                                  have n3_ := ak_ (Kd.N_drew HO_93.out)
                                  have n4_ := ak_ (Kd.R_drew HO_302000.out)
                                  have n5_ := ak_ (k1_ BK271.out)
                                  have n6_ := ak_ (k1_ BK301.out)
                                  have n7_ := ak_ (b1_ HB.out)
                                  clear HO_7 HO_8 HO_9 HO_93 HO_302000 BK271 BK301 HB
                                  have HO_7 := n0_; have HO_8 := n1_; have HO_9 := n2_; have HO_93 := n3_; have HO_302000 := n4_; have BK271 := n5_; have BK301 := n6_; have HB := n7_
                                  clear n0_ n1_ n2_ n3_ n4_ n5_ n6_ n7_
                                  have p318 : 0 ≤ (t310 : Int) := odt_ (by assumption)
                                  have q318 : t310 < (y316.length : Int) := (by have h_ : (t310 : Int) < ((x8_4.length : Int) : Int) := odt_ (by assumption); first | (have e_ := (Kd.R_reads' HO_8.out).1; omega) | simpa only [Ny316.out, List.length_set] using h_)
                                  have ql318 : ((t310 : Int) < ((x8_4.length : Int) : Int)) = True := eq_true (odt_ (by assumption))
                                  obtain ⟨ad318, e318, hx318_0⟩ := Kd.at_int (Kd.R_reads' HO_8.out).2.2 t310 p318 q318
                                  obtain rfl : (⟨go33, 0, none⟩ : Addr) = ad318 := (by injection e318)
                                  (first | simp only [add_plain] at hx318_0 | simp only [add_at] at hx318_0 | simp only [Addr.add, Nat.zero_add] at hx318_0 | skip)
                                  replace p318 := eq_true p318
                                  replace q318 := eq_true q318
                                  have p319 : 0 ≤ (x12_3 : Int) := odt_ (by assumption)
                                  have q319 : x12_3 < (y316.length : Int) := (by have h_ : (x12_3 : Int) < ((x8_4.length : Int) : Int) := odt_ (by assumption); first | (have e_ := (Kd.R_reads' HO_8.out).1; omega) | simpa only [Ny316.out, List.length_set] using h_)
                                  have ql319 : ((x12_3 : Int) < ((x8_4.length : Int) : Int)) = True := eq_true (odt_ (by assumption))
                                  obtain ⟨ad319, e319, hx319_0⟩ := Kd.at_int (Kd.R_reads' HO_8.out).2.2 x12_3 p319 q319
                                  obtain rfl : (⟨go33, 0, none⟩ : Addr) = ad319 := (by injection e319)
                                  (first | simp only [add_plain] at hx319_0 | simp only [add_at] at hx319_0 | simp only [Addr.add, Nat.zero_add] at hx319_0 | skip)
                                  replace p319 := eq_true p319
                                  replace q319 := eq_true q319
                                  have p110 : 0 ≤ (t310 : Int) := odt_ (by assumption)
                                  have q110 : (t310 : Int) < ((x8_4.length : Int) : Int) := odt_ (by assumption)
                                  obtain ⟨hx110_0, hf110_0⟩ := Kd.R_celln 0 HO_8.out (t310 : Int) p110 q110
                                  replace p110 := eq_true p110
                                  replace q110 := eq_true q110
                                  have HP112 := Kd.R_putn HO_8.out (t310 : Int) (wrap64 ((rd y316 t310) + (rd y316 x12_3)))
                                  rw [← Ny320.out] at HP112
                                  have HQ112 := ak_ HP112
                                  clear HP112
                                  refine start_ (n := 11) (S := fun w' => w'.cell? ⟨go33, (t310).toNat, none⟩ = some (.int .i64 (rd y316 t310)) ∧ w'.cell? ⟨go33, (x12_3).toNat, none⟩ = some (.int .i64 (rd y316 x12_3))) (ds := [10]) (mb_ 11 0) (by kernel_rfl) rfl rfl ⟨hx318_0, hx319_0⟩ (fun hHeld => ?_); refine with_tabW spec_loFar.tab32 spec_loFar.bits32 (fun HT_ HW_ => ?_)
                                  generalize w106.drew = w111 at HO_7 HO_8 HO_9 HO_93 HO_302000 BK271 BK301 HB HQ112 hf110_0 hx110_0 hx318_0 hx319_0 hHeld ⊢
                                  refine pure_ (i := 0) (N := some 138) (v := ?_) (a' := ?_) (mb_ 11 1) rfl rfl (any_of HT_.out (by kernel_rfl)) (fun _ _ _ h => h) (Or.inl ⟨by rfl, ?_⟩) ?_ ?_
                                  rotate_left
                                  ·
                                   intro w'
                                   go_simp
                                   with_reducible rfl
                                  rotate_left
                                  ·
                                   simp only [Act.put, setIfInBounds_toArray, set_cons_zero, set_cons_succ, i64_w, i32_w]
                                   rfl
                                  refine pure_ (i := 1) (N := some 139) (v := ?_) (a' := ?_) (mb_ 11 3) rfl rfl (any_of HT_.out (by kernel_rfl)) (fun _ _ _ h => h) (Or.inl ⟨by rfl, ?_⟩) ?_ ?_
                                  rotate_left
                                  ·
                                   intro w'
                                   go_simp
                                   with_reducible rfl
                                  rotate_left
                                  ·
                                   simp only [Act.put, setIfInBounds_toArray, set_cons_zero, set_cons_succ, i64_w, i32_w]
                                   rfl
                                  refine pure_ (i := 2) (N := some 140) (v := ?_) (a' := ?_) (mb_ 11 7) rfl rfl (any_of HT_.out (by kernel_rfl)) (fun _ _ _ h => h) (Or.inl ⟨by rfl, ?_⟩) ?_ ?_
                                  rotate_left
                                  ·
                                   intro w'
                                   go_simp
                                   with_reducible rfl
                                  rotate_left
                                  ·
                                   simp only [Act.put, setIfInBounds_toArray, set_cons_zero, set_cons_succ, i64_w, i32_w]
                                   rfl
                                  refine pure_ (i := 4) (N := some 142) (v := ?_) (a' := ?_) (mb_ 11 23) rfl rfl (any_of HT_.out (by kernel_rfl)) (fun _ _ _ h => h) (Or.inl ⟨by rfl, ?_⟩) ?_ ?_
                                  rotate_left
                                  ·
                                   intro w'
                                   go_simp
                                   with_reducible rfl
                                  rotate_left
                                  ·
                                   simp only [Act.put, setIfInBounds_toArray, set_cons_zero, set_cons_succ, i64_w, i32_w]
                                   rfl
                                  refine pure_ (i := 5) (N := some 143) (v := ?_) (a' := ?_) (mb_ 11 55) rfl rfl (any_of HT_.out (by kernel_rfl)) (fun _ _ _ h => h) (Or.inl ⟨by rfl, ?_⟩) ?_ ?_
                                  rotate_left
                                  ·
                                   intro w'
                                   go_simp
                                   with_reducible rfl
                                  rotate_left
                                  ·
                                   simp only [Act.put, setIfInBounds_toArray, set_cons_zero, set_cons_succ, i64_w, i32_w]
                                   rfl
                                  refine pure_ (i := 6) (N := some 144) (v := ?_) (a' := ?_) (mb_ 11 119) rfl rfl (any_of HT_.out (by kernel_rfl)) (fun _ _ _ h => h) (Or.inl ⟨by rfl, ?_⟩) ?_ ?_
                                  rotate_left
                                  ·
                                   intro w'
                                   go_simp
                                   with_reducible rfl
                                  rotate_left
                                  ·
                                   simp only [Act.put, setIfInBounds_toArray, set_cons_zero, set_cons_succ, i64_w, i32_w]
                                   rfl
                                  refine take_ (i := 3) (N := some 141) (v := ?_) (a' := ?_) (mb_ 11 127) rfl rfl (take_ofW HT_.out HW_.out (by kernel_rfl)) (fun _ _ _ h => h) (Or.inl ⟨by rfl, ?_⟩) hHeld ?_ ?_
                                  rotate_left
                                  ·
                                   rintro w' ⟨s0, s1⟩
                                   go_simp
                                   with_reducible rfl
                                  rotate_left
                                  ·
                                   simp only [Act.put, setIfInBounds_toArray, set_cons_zero, set_cons_succ, i64_w, i32_w]
                                   rfl
                                  refine take_ (i := 7) (N := some 145) (v := ?_) (a' := ?_) (mb_ 11 255) rfl rfl (take_ofW HT_.out HW_.out (by kernel_rfl)) (fun _ _ _ h => h) (Or.inl ⟨by rfl, ?_⟩) hHeld ?_ ?_
                                  rotate_left
                                  ·
                                   rintro w' ⟨s0, s1⟩
                                   go_simp
                                   with_reducible rfl
                                  rotate_left
                                  ·
                                   simp only [Act.put, setIfInBounds_toArray, set_cons_zero, set_cons_succ, i64_w, i32_w]
                                   rfl
                                  refine pure_ (i := 8) (N := some 146) (v := ?_) (a' := ?_) (mb_ 11 511) rfl rfl (any_of HT_.out (by kernel_rfl)) (fun _ _ _ h => h) (Or.inl ⟨by rfl, ?_⟩) ?_ ?_
                                  rotate_left
                                  ·
                                   intro w'
                                   go_simp
                                   with_reducible rfl
                                  rotate_left
                                  ·
                                   simp only [Act.put, setIfInBounds_toArray, set_cons_zero, set_cons_succ, i64_w, i32_w]
                                   rfl
                                  refine pure_ (i := 9) (N := some 147) (v := ?_) (a' := ?_) (mb_ 11 1023) rfl rfl (any_of HT_.out (by kernel_rfl)) (fun _ _ _ h => h) (Or.inl ⟨by rfl, ?_⟩) ?_ ?_
                                  rotate_left
                                  ·
                                   intro w'
                                   go_simp
                                   with_reducible rfl
                                  rotate_left
                                  ·
                                   simp only [Act.put, setIfInBounds_toArray, set_cons_zero, set_cons_succ, i64_w, i32_w]
                                   rfl
                                  refine last_ (i := 10) (N := none) (mb_ 11 2047) rfl rfl (one_of HT_.out (by kernel_rfl)) (by decide) (fun K hK => ?_)
                                  refine skip_ (w1 := ?_) (by rfl) rfl ?_ ?_
                                  rotate_left
                                  ·
                                   go_simp
                                   rfl
                                  refine hK.out _ _ ?_
                                  clear hK K
                                  refine done_ (done_of HT_.out (by kernel_rfl)) ?_
                                  try go_wp2
                                  (try simp only [← hl7_4, ← hl8_4, ← hl9_4])
                                  go_roundg kj84
                                  case measure => have := HK1.out; have := HK2.out; have := HK3.out; have := HK4.out; have := HJ84.out; omega
                                  case rel => exact ⟨(y315), (y320), (wrap64 (x95_4 + 1)), (by first | rfl | (simp; done) | (simp [*]; done)), H', ⟨by have := HK1.out; have := HK2.out; have := HK3.out; have := HK4.out; have := HJ84.out; omega⟩, ⟨by (try simp only [hl7_1, hl7_2, hl8_2, hl7_4, hl8_4, hl9_4]); (with_reducible repeat (first | apply Kd.R_alloc | apply Kd.R_drewN | apply Kd.R_drew)); exact Kd.R_mono (Kd.R_far (p := ⟨go33, (t310 : Int).toNat, none⟩) (Kd.R_mono HO_7.out (fun k_ hk => (⟨hk, fun e_ => hk.2 (by rw [e_]; rfl)⟩ : _ ∧ k_ ≠ go33))) (fun _ hk => hk.2) (.int .i64 (wrap64 ((rd y316 t310) + (rd y316 x12_3))))) (fun _ hk => hk.1.2)⟩, ⟨by (try simp only [hl7_1, hl7_2, hl8_2, hl7_4, hl8_4, hl9_4]); exact Kd.pR HQ112.out⟩, ⟨by (try simp only [hl7_1, hl7_2, hl8_2, hl7_4, hl8_4, hl9_4]); (with_reducible repeat (first | apply Kd.R_alloc | apply Kd.R_drewN | apply Kd.R_drew)); exact Kd.R_mono (Kd.R_far (p := ⟨go33, (t310 : Int).toNat, none⟩) (Kd.R_types HO_9.out (Exists.choose_spec (Kd.R_typed HO_8.out go33 rfl)) (by decide)) (fun _ hk => hk.2) (.int .i64 (wrap64 ((rd y316 t310) + (rd y316 x12_3))))) (fun _ hk => hk.1)⟩, ⟨by (try simp only [hl7_1, hl7_2, hl8_2, hl7_4, hl8_4, hl9_4]); (with_reducible repeat (first | apply Kd.N_alloc | apply Kd.N_drewN | apply Kd.N_drew)); exact Kd.N_mono (Kd.N_far (p := ⟨go33, (t310 : Int).toNat, none⟩) (Kd.N_mono HO_93.out (fun k_ hk => (⟨hk, fun e_ => hk.2 (by rw [e_]; rfl)⟩ : _ ∧ k_ ≠ go33))) (fun _ hk => hk.2) (.int .i64 (wrap64 ((rd y316 t310) + (rd y316 x12_3))))) (fun _ hk => ⟨hk.1.1.1, ⟨hk.1.2, ⟨hk.1.1.2.1, ⟨hk.1.1.2.2.1, ⟨hk.1.1.2.2.2.1, hk.1.1.2.2.2.2⟩⟩⟩⟩⟩)⟩, ⟨by (try simp only [hl7_1, hl7_2, hl8_2, hl7_4, hl8_4, hl9_4]); (with_reducible repeat (first | apply Kd.R_alloc | apply Kd.R_drewN | apply Kd.R_drew)); exact Kd.R_mono (Kd.R_far (p := ⟨go33, (t310 : Int).toNat, none⟩) (Kd.R_types HO_302000.out (Exists.choose_spec (Kd.R_typed HO_8.out go33 rfl)) (by decide)) (fun _ hk => hk.2) (.int .i64 (wrap64 ((rd y316 t310) + (rd y316 x12_3))))) (fun _ hk => hk.1)⟩, ⟨by (try simp only [hl7_1, hl7_2, hl8_2, hl7_4, hl8_4, hl9_4]); (with_reducible repeat (first | refine kN_ ?_ _ | refine k1_ ?_ | refine ka_ ?_ _)); refine blk_far ?_ (by have h_ := Kd.R_ne HO_8.out BK271.out (by decide); intro e_; exact h_ (by rw [e_]; rfl)) _; exact pk BK271.out⟩, ⟨by (try simp only [hl7_1, hl7_2, hl8_2, hl7_4, hl8_4, hl9_4]); (with_reducible repeat (first | refine kN_ ?_ _ | refine k1_ ?_ | refine ka_ ?_ _)); refine blk_far ?_ (by have h_ := Kd.R_ne HO_8.out BK301.out (by decide); intro e_; exact h_ (by rw [e_]; rfl)) _; exact pk BK301.out⟩, ⟨by repeat (first | exact HB.out | apply ba_ | apply bN_ | apply b1_ | refine below_set ?_ GB33.out | refine below_set ?_ (Aside0.out (by assumption)))⟩⟩
                                 ·
                                  rw [if_neg c109] at H
                                  exact absurd H (by simp)
                                ·
                                 rw [if_neg c108] at H
                                 exact absurd H (by simp)
                               ·
                                rw [if_neg c107] at H
                                have c107b0 : ((wrap64 ((rd x7_4 x12_3) + t312)) == (rd y315 t310)) = false := beq_eq_false_iff_ne.mpr c107
                                have c107b1 : ((wrap64 ((rd x7_4 x12_3) + t312)) != (rd y315 t310)) = true := bne_iff_ne.mpr c107
                                (first | rw [c107b0] | (simp only [i64_w, i32_w]; rw [c107b0]) | rw [c107b1] | skip)
                                have H' := ak_ H
                                clear H
                                go_wp2
                                (try simp only [← hl7_4, ← hl8_4, ← hl9_4])
                                go_roundg kj84
                                case measure => have := HK1.out; have := HK2.out; have := HK3.out; have := HK4.out; have := HJ84.out; omega
                                case rel => exact ⟨(y315), (y316), (wrap64 (x95_4 + 1)), (by first | rfl | (simp; done) | (simp [*]; done)), H', ⟨by have := HK1.out; have := HK2.out; have := HK3.out; have := HK4.out; have := HJ84.out; omega⟩, ⟨by (try simp only [hl7_1, hl7_2, hl8_2, hl7_4, hl8_4, hl9_4]); (with_reducible repeat (first | apply Kd.R_alloc | apply Kd.R_drewN | apply Kd.R_drew)); exact Kd.R_mono HO_7.out (fun _ hk => hk.2)⟩, ⟨by (try simp only [hl7_1, hl7_2, hl8_2, hl7_4, hl8_4, hl9_4]); exact Kd.pR HO_8.out⟩, ⟨by (try simp only [hl7_1, hl7_2, hl8_2, hl7_4, hl8_4, hl9_4]); exact Kd.pR HO_9.out⟩, ⟨by (try simp only [hl7_1, hl7_2, hl8_2, hl7_4, hl8_4, hl9_4]); (with_reducible repeat (first | apply Kd.N_alloc | apply Kd.N_drewN | apply Kd.N_drew)); exact Kd.N_mono HO_93.out (fun _ hk => ⟨hk.1.1, ⟨hk.2, ⟨hk.1.2.1, ⟨hk.1.2.2.1, ⟨hk.1.2.2.2.1, hk.1.2.2.2.2⟩⟩⟩⟩⟩)⟩, ⟨by (try simp only [hl7_1, hl7_2, hl8_2, hl7_4, hl8_4, hl9_4]); exact Kd.pR HO_302000.out⟩, ⟨by (try simp only [hl7_1, hl7_2, hl8_2, hl7_4, hl8_4, hl9_4]); exact pk BK271.out⟩, ⟨by (try simp only [hl7_1, hl7_2, hl8_2, hl7_4, hl8_4, hl9_4]); exact pk BK301.out⟩, ⟨by repeat (first | exact HB.out | apply ba_ | apply bN_ | apply b1_ | refine below_set ?_ (Aside0.out (by assumption)))⟩⟩
                              ·
                               rw [if_neg c100] at H
                               exact absurd H (by simp)
                             ·
                              rw [if_neg c98] at H
                              exact absurd H (by simp)
                            ·
                             rw [if_neg c97] at H
                             exact absurd H (by simp)
                           ·
                            replace c96 := Bool.eq_false_iff.mpr c96
                            subst c96
                            have H1 : (if 0 ≤ t310 then (if t310 < (x7_4.length : Int) then (if (wrap64 ((rd x7_4 x12_3) + t312)) = (rd x7_4 t310) then (if t310 < (x8_4.length : Int) then (if 0 ≤ x12_3 then (if x12_3 < (x8_4.length : Int) then (spec_loFar.l3 kj84 a1 (l0_0.length : Int) x7_4 (x8_4.set (t310 : Int).toNat (wrap64 ((rd x8_4 t310) + (rd x8_4 x12_3)))) y296 x12_3 t302 (t302.length : Int) (wrap64 (x95_4 + 1)) l0_0 l0_1 a0_2 t297 t300) else (none)) else (none)) else (none)) else (spec_loFar.l3 kj84 a1 (l0_0.length : Int) x7_4 x8_4 y296 x12_3 t302 (t302.length : Int) (wrap64 (x95_4 + 1)) l0_0 l0_1 a0_2 t297 t300)) else (none)) else (none)) = some (r1, r2) := by rw [if_neg (show ¬ (false = true) by decide)] at H; exact H
                            clear H
                            have H := H1
                            clear H1
                            by_cases c113 : 0 ≤ t310
                            ·
                             rw [if_pos c113] at H
                             have c113b0 : decide (0 ≤ t310) = true := decide_eq_true c113
                             clear c113
                             by_cases c114 : t310 < (x7_4.length : Int)
                             ·
                              rw [if_pos c114] at H
                              have c114b0 : decide (t310 < (x7_4.length : Int)) = true := decide_eq_true c114
                              clear c114
                              have HC115 := ak_ H
                              clear H
                              have p321 : 0 ≤ (t310 : Int) := odt_ (by assumption)
                              have q321 : t310 < (x7_4.length : Int) := odt_ (by assumption)
                              obtain ⟨ad321, e321, hx321_0⟩ := Kd.at_int (Kd.R_reads' HO_7.out).2.2 t310 p321 q321
                              obtain rfl : (⟨go31, 0, none⟩ : Addr) = ad321 := (by injection e321)
                              (first | simp only [add_plain] at hx321_0 | simp only [add_at] at hx321_0 | simp only [Addr.add, Nat.zero_add] at hx321_0 | skip)
                              replace p321 := eq_true p321
                              replace q321 := eq_true q321
                              go_upto_if 137 with (fail)
                              have H := HC115.out
                              clear HC115
                              by_cases c116 : (wrap64 ((rd x7_4 x12_3) + t312)) = (rd x7_4 t310)
                              ·
                               rw [if_pos c116] at H
                               have c116b0 : ((wrap64 ((rd x7_4 x12_3) + t312)) == (rd x7_4 t310)) = true := beq_iff_eq.mpr c116
                               have c116b1 : ((wrap64 ((rd x7_4 x12_3) + t312)) != (rd x7_4 t310)) = false := bne_eq_false_iff_eq.mpr c116
                               clear c116
                               (first | rw [c116b0] | (simp only [i64_w, i32_w]; rw [c116b0]) | rw [c116b1] | skip)
                               by_cases c117 : t310 < (x8_4.length : Int)
                               ·
                                rw [if_pos c117] at H
                                have c117b0 : decide (t310 < (x8_4.length : Int)) = true := decide_eq_true c117
                                clear c117
                                by_cases c118 : 0 ≤ x12_3
                                ·
                                 rw [if_pos c118] at H
                                 have c118b0 : decide (0 ≤ x12_3) = true := decide_eq_true c118
                                 clear c118
                                 by_cases c119 : x12_3 < (x8_4.length : Int)
                                 ·
                                  rw [if_pos c119] at H
                                  have c119b0 : decide (x12_3 < (x8_4.length : Int)) = true := decide_eq_true c119
                                  clear c119
                                  obtain ⟨y324, hy324⟩ : ∃ y_ : List Int, y_ = (x8_4.set (t310 : Int).toNat (wrap64 ((rd x8_4 t310) + (rd x8_4 x12_3)))) := ⟨_, rfl⟩
                                  replace H : (spec_loFar.l3 kj84 a1 (l0_0.length : Int) x7_4 y324 y296 x12_3 t302 (t302.length : Int) (wrap64 (x95_4 + 1)) l0_0 l0_1 a0_2 t297 t300) = some (r1, r2) := by first | (rw [hy324]; exact H) | exact H
                                  have Ny324 := ak_ hy324
                                  clear hy324
                                  have H' := ak_ H
                                  clear H
                                  try go_wp2
                                  have n0_ := ak_ (Kd.R_drew HO_7.out)
                                  have n1_ := ak_ (Kd.R_drew HO_8.out)
                                  have n2_ := ak_ (Kd.R_drew HO_9.out)
                                  have n3_ := ak_ (Kd.N_drew HO_93.out)
                                  have n4_ := ak_ (Kd.R_drew HO_302000.out)
                                  have n5_ := ak_ (k1_ BK271.out)
                                  have n6_ := ak_ (k1_ BK301.out)
                                  have n7_ := ak_ (Kd.C_drew HR305_0.out)
                                  have n8_ := ak_ (b1_ HB.out)
                                  clear HO_7 HO_8 HO_9 HO_93 HO_302000 BK271 BK301 HR305_0 HB
                                  have HO_7 := n0_; have HO_8 := n1_; have HO_9 := n2_; have HO_93 := n3_; have HO_302000 := n4_; have BK271 := n5_; have BK301 := n6_; have HR305_0 := n7_; have HB := n8_
                                  clear n0_ n1_ n2_ n3_ n4_ n5_ n6_ n7_ n8_
                                  have p322 : 0 ≤ (t310 : Int) := odt_ (by assumption)
                                  have q322 : t310 < (x8_4.length : Int) := odt_ (by assumption)
                                  obtain ⟨ad322, e322, hx322_0⟩ := Kd.at_int (Kd.R_reads' HO_8.out).2.2 t310 p322 q322
                                  obtain rfl : (⟨go33, 0, none⟩ : Addr) = ad322 := (by injection e322)
                                  (first | simp only [add_plain] at hx322_0 | simp only [add_at] at hx322_0 | simp only [Addr.add, Nat.zero_add] at hx322_0 | skip)
                                  replace p322 := eq_true p322
                                  replace q322 := eq_true q322
                                  have p323 : 0 ≤ (x12_3 : Int) := odt_ (by assumption)
                                  have q323 : x12_3 < (x8_4.length : Int) := odt_ (by assumption)
                                  obtain ⟨ad323, e323, hx323_0⟩ := Kd.at_int (Kd.R_reads' HO_8.out).2.2 x12_3 p323 q323
                                  obtain rfl : (⟨go33, 0, none⟩ : Addr) = ad323 := (by injection e323)
                                  (first | simp only [add_plain] at hx323_0 | simp only [add_at] at hx323_0 | simp only [Addr.add, Nat.zero_add] at hx323_0 | skip)
                                  replace p323 := eq_true p323
                                  replace q323 := eq_true q323
                                  have p120 : 0 ≤ (t310 : Int) := odt_ (by assumption)
                                  have q120 : (t310 : Int) < ((x8_4.length : Int) : Int) := odt_ (by assumption)
                                  obtain ⟨hx120_0, hf120_0⟩ := Kd.R_celln 0 HO_8.out (t310 : Int) p120 q120
                                  replace p120 := eq_true p120
                                  replace q120 := eq_true q120
                                  have HP122 := Kd.R_putn HO_8.out (t310 : Int) (wrap64 ((rd x8_4 t310) + (rd x8_4 x12_3)))
                                  rw [← Ny324.out] at HP122
                                  have HQ122 := ak_ HP122
                                  clear HP122
                                  refine start_ (n := 11) (S := fun w' => w'.cell? ⟨go33, (t310).toNat, none⟩ = some (.int .i64 (rd x8_4 t310)) ∧ w'.cell? ⟨go33, (x12_3).toNat, none⟩ = some (.int .i64 (rd x8_4 x12_3))) (ds := [10]) (mb_ 11 0) (by kernel_rfl) rfl rfl ⟨hx322_0, hx323_0⟩ (fun hHeld => ?_); refine with_tabW spec_loFar.tab32 spec_loFar.bits32 (fun HT_ HW_ => ?_)
                                  generalize wc.drew = w121 at HO_7 HO_8 HO_9 HO_93 HO_302000 BK271 BK301 HR305_0 HB HQ122 hf120_0 hx120_0 hx322_0 hx323_0 hHeld ⊢
                                  refine pure_ (i := 0) (N := some 138) (v := ?_) (a' := ?_) (mb_ 11 1) rfl rfl (any_of HT_.out (by kernel_rfl)) (fun _ _ _ h => h) (Or.inl ⟨by rfl, ?_⟩) ?_ ?_
                                  rotate_left
                                  ·
                                   intro w'
                                   go_simp
                                   with_reducible rfl
                                  rotate_left
                                  ·
                                   simp only [Act.put, setIfInBounds_toArray, set_cons_zero, set_cons_succ, i64_w, i32_w]
                                   rfl
                                  refine pure_ (i := 1) (N := some 139) (v := ?_) (a' := ?_) (mb_ 11 3) rfl rfl (any_of HT_.out (by kernel_rfl)) (fun _ _ _ h => h) (Or.inl ⟨by rfl, ?_⟩) ?_ ?_
                                  rotate_left
                                  ·
                                   intro w'
                                   go_simp
                                   with_reducible rfl
                                  rotate_left
                                  ·
                                   simp only [Act.put, setIfInBounds_toArray, set_cons_zero, set_cons_succ, i64_w, i32_w]
                                   rfl
                                  refine pure_ (i := 2) (N := some 140) (v := ?_) (a' := ?_) (mb_ 11 7) rfl rfl (any_of HT_.out (by kernel_rfl)) (fun _ _ _ h => h) (Or.inl ⟨by rfl, ?_⟩) ?_ ?_
                                  rotate_left
                                  ·
                                   intro w'
                                   go_simp
                                   with_reducible rfl
                                  rotate_left
                                  ·
                                   simp only [Act.put, setIfInBounds_toArray, set_cons_zero, set_cons_succ, i64_w, i32_w]
                                   rfl
                                  refine pure_ (i := 4) (N := some 142) (v := ?_) (a' := ?_) (mb_ 11 23) rfl rfl (any_of HT_.out (by kernel_rfl)) (fun _ _ _ h => h) (Or.inl ⟨by rfl, ?_⟩) ?_ ?_
                                  rotate_left
                                  ·
                                   intro w'
                                   go_simp
                                   with_reducible rfl
                                  rotate_left
                                  ·
                                   simp only [Act.put, setIfInBounds_toArray, set_cons_zero, set_cons_succ, i64_w, i32_w]
                                   rfl
                                  refine pure_ (i := 5) (N := some 143) (v := ?_) (a' := ?_) (mb_ 11 55) rfl rfl (any_of HT_.out (by kernel_rfl)) (fun _ _ _ h => h) (Or.inl ⟨by rfl, ?_⟩) ?_ ?_
                                  rotate_left
                                  ·
                                   intro w'
                                   go_simp
                                   with_reducible rfl
                                  rotate_left
                                  ·
                                   simp only [Act.put, setIfInBounds_toArray, set_cons_zero, set_cons_succ, i64_w, i32_w]
                                   rfl
                                  refine pure_ (i := 6) (N := some 144) (v := ?_) (a' := ?_) (mb_ 11 119) rfl rfl (any_of HT_.out (by kernel_rfl)) (fun _ _ _ h => h) (Or.inl ⟨by rfl, ?_⟩) ?_ ?_
                                  rotate_left
                                  ·
                                   intro w'
                                   go_simp
                                   with_reducible rfl
                                  rotate_left
                                  ·
                                   simp only [Act.put, setIfInBounds_toArray, set_cons_zero, set_cons_succ, i64_w, i32_w]
                                   rfl
                                  refine take_ (i := 3) (N := some 141) (v := ?_) (a' := ?_) (mb_ 11 127) rfl rfl (take_ofW HT_.out HW_.out (by kernel_rfl)) (fun _ _ _ h => h) (Or.inl ⟨by rfl, ?_⟩) hHeld ?_ ?_
                                  rotate_left
                                  ·
                                   rintro w' ⟨s0, s1⟩
                                   go_simp
                                   with_reducible rfl
                                  rotate_left
                                  ·
                                   simp only [Act.put, setIfInBounds_toArray, set_cons_zero, set_cons_succ, i64_w, i32_w]
                                   rfl
                                  refine take_ (i := 7) (N := some 145) (v := ?_) (a' := ?_) (mb_ 11 255) rfl rfl (take_ofW HT_.out HW_.out (by kernel_rfl)) (fun _ _ _ h => h) (Or.inl ⟨by rfl, ?_⟩) hHeld ?_ ?_
                                  rotate_left
                                  ·
                                   rintro w' ⟨s0, s1⟩
                                   go_simp
                                   with_reducible rfl
                                  rotate_left
                                  ·
                                   simp only [Act.put, setIfInBounds_toArray, set_cons_zero, set_cons_succ, i64_w, i32_w]
                                   rfl
                                  refine pure_ (i := 8) (N := some 146) (v := ?_) (a' := ?_) (mb_ 11 511) rfl rfl (any_of HT_.out (by kernel_rfl)) (fun _ _ _ h => h) (Or.inl ⟨by rfl, ?_⟩) ?_ ?_
                                  rotate_left
                                  ·
                                   intro w'
                                   go_simp
                                   with_reducible rfl
                                  rotate_left
                                  ·
                                   simp only [Act.put, setIfInBounds_toArray, set_cons_zero, set_cons_succ, i64_w, i32_w]
                                   rfl
                                  refine pure_ (i := 9) (N := some 147) (v := ?_) (a' := ?_) (mb_ 11 1023) rfl rfl (any_of HT_.out (by kernel_rfl)) (fun _ _ _ h => h) (Or.inl ⟨by rfl, ?_⟩) ?_ ?_
                                  rotate_left
                                  ·
                                   intro w'
                                   go_simp
                                   with_reducible rfl
                                  rotate_left
                                  ·
                                   simp only [Act.put, setIfInBounds_toArray, set_cons_zero, set_cons_succ, i64_w, i32_w]
                                   rfl
                                  refine last_ (i := 10) (N := none) (mb_ 11 2047) rfl rfl (one_of HT_.out (by kernel_rfl)) (by decide) (fun K hK => ?_)
                                  refine skip_ (w1 := ?_) (by rfl) rfl ?_ ?_
                                  rotate_left
                                  ·
                                   go_simp
                                   rfl
                                  refine hK.out _ _ ?_
                                  clear hK K
                                  refine done_ (done_of HT_.out (by kernel_rfl)) ?_
                                  try go_wp2
                                  (try simp only [← hl7_4, ← hl8_4, ← hl9_4])
                                  go_roundg kj84
                                  case measure => have := HK1.out; have := HK2.out; have := HK3.out; have := HK4.out; have := HJ84.out; omega
                                  case rel => exact ⟨(x7_4), (y324), (wrap64 (x95_4 + 1)), (by first | rfl | (simp; done) | (simp [*]; done)), H', ⟨by have := HK1.out; have := HK2.out; have := HK3.out; have := HK4.out; have := HJ84.out; omega⟩, ⟨by (try simp only [hl7_1, hl7_2, hl8_2, hl7_4, hl8_4, hl9_4]); (with_reducible repeat (first | apply Kd.R_alloc | apply Kd.R_drewN | apply Kd.R_drew)); exact Kd.R_mono (Kd.R_far (p := ⟨go33, (t310 : Int).toNat, none⟩) (Kd.R_mono HO_7.out (fun k_ hk => (⟨hk, fun e_ => hk (by rw [e_]; rfl)⟩ : _ ∧ k_ ≠ go33))) (fun _ hk => hk.2) (.int .i64 (wrap64 ((rd x8_4 t310) + (rd x8_4 x12_3))))) (fun _ hk => hk.1)⟩, ⟨by (try simp only [hl7_1, hl7_2, hl8_2, hl7_4, hl8_4, hl9_4]); exact Kd.pR HQ122.out⟩, ⟨by (try simp only [hl7_1, hl7_2, hl8_2, hl7_4, hl8_4, hl9_4]); (with_reducible repeat (first | apply Kd.R_alloc | apply Kd.R_drewN | apply Kd.R_drew)); exact Kd.R_mono (Kd.R_far (p := ⟨go33, (t310 : Int).toNat, none⟩) (Kd.R_types HO_9.out (Exists.choose_spec (Kd.R_typed HO_8.out go33 rfl)) (by decide)) (fun _ hk => hk.2) (.int .i64 (wrap64 ((rd x8_4 t310) + (rd x8_4 x12_3))))) (fun _ hk => hk.1)⟩, ⟨by (try simp only [hl7_1, hl7_2, hl8_2, hl7_4, hl8_4, hl9_4]); (with_reducible repeat (first | apply Kd.N_alloc | apply Kd.N_drewN | apply Kd.N_drew)); exact Kd.N_mono (Kd.N_far (p := ⟨go33, (t310 : Int).toNat, none⟩) (Kd.N_mono HO_93.out (fun k_ hk => (⟨hk, fun e_ => hk.2.1 (by rw [e_]; rfl)⟩ : _ ∧ k_ ≠ go33))) (fun _ hk => hk.2) (.int .i64 (wrap64 ((rd x8_4 t310) + (rd x8_4 x12_3))))) (fun _ hk => ⟨hk.1.1, ⟨hk.1.2.1, ⟨hk.1.2.2.1, ⟨hk.1.2.2.2.1, ⟨hk.1.2.2.2.2.1, hk.1.2.2.2.2.2⟩⟩⟩⟩⟩)⟩, ⟨by (try simp only [hl7_1, hl7_2, hl8_2, hl7_4, hl8_4, hl9_4]); (with_reducible repeat (first | apply Kd.R_alloc | apply Kd.R_drewN | apply Kd.R_drew)); exact Kd.R_mono (Kd.R_far (p := ⟨go33, (t310 : Int).toNat, none⟩) (Kd.R_types HO_302000.out (Exists.choose_spec (Kd.R_typed HO_8.out go33 rfl)) (by decide)) (fun _ hk => hk.2) (.int .i64 (wrap64 ((rd x8_4 t310) + (rd x8_4 x12_3))))) (fun _ hk => hk.1)⟩, ⟨by (try simp only [hl7_1, hl7_2, hl8_2, hl7_4, hl8_4, hl9_4]); (with_reducible repeat (first | refine kN_ ?_ _ | refine k1_ ?_ | refine ka_ ?_ _)); refine blk_far ?_ (by have h_ := Kd.R_ne HO_8.out BK271.out (by decide); intro e_; exact h_ (by rw [e_]; rfl)) _; exact pk BK271.out⟩, ⟨by (try simp only [hl7_1, hl7_2, hl8_2, hl7_4, hl8_4, hl9_4]); (with_reducible repeat (first | refine kN_ ?_ _ | refine k1_ ?_ | refine ka_ ?_ _)); refine blk_far ?_ (by have h_ := Kd.R_ne HO_8.out BK301.out (by decide); intro e_; exact h_ (by rw [e_]; rfl)) _; exact pk BK301.out⟩, ⟨by repeat (first | exact HB.out | apply ba_ | apply bN_ | apply b1_ | refine below_set ?_ GB33.out | refine below_set ?_ (Aside0.out (by assumption)))⟩⟩
                                 ·
                                  rw [if_neg c119] at H
                                  exact absurd H (by simp)
                                ·
                                 rw [if_neg c118] at H
                                 exact absurd H (by simp)
                               ·
                                rw [if_neg c117] at H
                                exact absurd H (by simp)
                              ·
                               rw [if_neg c116] at H
                               have c116b0 : ((wrap64 ((rd x7_4 x12_3) + t312)) == (rd x7_4 t310)) = false := beq_eq_false_iff_ne.mpr c116
                               have c116b1 : ((wrap64 ((rd x7_4 x12_3) + t312)) != (rd x7_4 t310)) = true := bne_iff_ne.mpr c116
                               (first | rw [c116b0] | (simp only [i64_w, i32_w]; rw [c116b0]) | rw [c116b1] | skip)
                               have H' := ak_ H
                               clear H
                               go_wp2
                               (try simp only [← hl7_4, ← hl8_4, ← hl9_4])
                               go_roundg kj84
                               case measure => have := HK1.out; have := HK2.out; have := HK3.out; have := HK4.out; have := HJ84.out; omega
                               case rel => exact ⟨(x7_4), (x8_4), (wrap64 (x95_4 + 1)), (by first | rfl | (simp; done) | (simp [*]; done)), H', ⟨by have := HK1.out; have := HK2.out; have := HK3.out; have := HK4.out; have := HJ84.out; omega⟩, ⟨by (try simp only [hl7_1, hl7_2, hl8_2, hl7_4, hl8_4, hl9_4]); exact Kd.pR HO_7.out⟩, ⟨by (try simp only [hl7_1, hl7_2, hl8_2, hl7_4, hl8_4, hl9_4]); exact Kd.pR HO_8.out⟩, ⟨by (try simp only [hl7_1, hl7_2, hl8_2, hl7_4, hl8_4, hl9_4]); exact Kd.pR HO_9.out⟩, ⟨by (try simp only [hl7_1, hl7_2, hl8_2, hl7_4, hl8_4, hl9_4]); exact Kd.pN HO_93.out⟩, ⟨by (try simp only [hl7_1, hl7_2, hl8_2, hl7_4, hl8_4, hl9_4]); exact Kd.pR HO_302000.out⟩, ⟨by (try simp only [hl7_1, hl7_2, hl8_2, hl7_4, hl8_4, hl9_4]); exact pk BK271.out⟩, ⟨by (try simp only [hl7_1, hl7_2, hl8_2, hl7_4, hl8_4, hl9_4]); exact pk BK301.out⟩, ⟨by repeat (first | exact HB.out | apply ba_ | apply bN_ | apply b1_ | refine below_set ?_ (Aside0.out (by assumption)))⟩⟩
                             ·
                              rw [if_neg c114] at H
                              exact absurd H (by simp)
                            ·
                             rw [if_neg c113] at H
                             exact absurd H (by simp)
                        ·
                         rw [if_neg c83] at H
                         exact absurd H (by simp)
                       ·
                        rw [if_neg c82] at H
                        exact absurd H (by simp)
                      ·
                       rw [if_neg c79] at H
                       exact absurd H (by simp)
                     ·
                      rw [if_neg c78] at H
                      exact absurd H (by simp)
                    ·
                     rw [if_neg c77] at H
                     have c77b0 : decide (x95_4 < (t302.length : Int)) = false := decide_eq_false c77
                     have c77b9 := c77b0; (try rw [hl7_4] at c77b9); (try rw [hl8_4] at c77b9); (try rw [hl9_4] at c77b9)
                     clear c77
                     have H' := ak_ H
                     clear H
                     go_wp2
                     (try simp only [← hl7_2, ← hl8_2, ← hl7_4, ← hl8_4, ← hl9_4])
                     go_roundg k4
                     case measure => have := HK1.out; have := HK2.out; have := HK3.out; have := HK4.out; omega
                     case rel => exact ⟨(x7_4), (x8_4), (y296), H', ⟨by have := HK1.out; have := HK2.out; have := HK3.out; have := HK4.out; omega⟩, ⟨by (try simp only [hl7_1, hl7_2, hl8_2, hl7_4, hl8_4, hl9_4]); exact Kd.pR HO_7.out⟩, ⟨by (try simp only [hl7_1, hl7_2, hl8_2, hl7_4, hl8_4, hl9_4]); exact Kd.pR HO_8.out⟩, ⟨by (try simp only [hl7_1, hl7_2, hl8_2, hl7_4, hl8_4, hl9_4]); (with_reducible repeat (first | apply Kd.R_alloc | apply Kd.R_drewN | apply Kd.R_drew)); exact Kd.R_mono HO_9.out (fun _ hk => trivial)⟩, ⟨by (try simp only [hl7_1, hl7_2, hl8_2, hl7_4, hl8_4, hl9_4]); exact pk BK271.out⟩, ⟨by repeat (first | exact HB.out | apply ba_ | apply bN_ | apply b1_ | refine below_set ?_ (Aside0.out (by assumption)))⟩⟩
                 ·
                  rw [if_neg c63] at H
                  exact absurd H (by simp)
                ·
                 rw [if_neg c62] at H
                 exact absurd H (by simp)
         ·
          rw [if_neg c32] at H
          exact absurd H (by simp)
        ·
         rw [if_neg c30] at H
         exact absurd H (by simp)
       ·
        rw [if_neg c29] at H
        exact absurd H (by simp)
   ·
    rw [if_neg c8] at H
    exact absurd H (by simp)
  ·
   rw [if_neg c5] at H
   exact absurd H (by simp)
 ·
  rw [if_neg c4] at H
  exact absurd H (by simp)
end Go.Proofs.Ythkchdfkeieabaa.QGr
