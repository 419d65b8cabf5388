/- Contracts of functions of the given program, walked: each call returns what its Lean function says. Conditions: those that stand at each theorem. (Written by a program of this session.) -/
import Derived.Test.YthkchdfkeieabaaQGrx0
import Derived.Test.YthkchdfkeieabaaQGrx2
import Derived.Test.YthkchdfkeieabaaQGrx3
import Derived.Test.YthkchdfkeieabaaQGrx4
import Derived.Test.YthkchdfkeieabaaQGrx8
namespace Go.Proofs.Ythkchdfkeieabaa.QGr
open Go.RowKit Go.Proofs.YthkchdfkeieabaaW.PrintWords Go.Proofs.YthkchdfkeieabaaW.PrintLast Go.Proofs.YthkchdfkeieabaaW.PrintMore
open List (setIfInBounds_toArray set_cons_zero set_cons_succ map_toArray map_cons map_nil)
attribute [local go_sem] max2_int min2_int max_two min_two max_three min_three max_four min_four
set_option linter.unusedVariables false
set_option maxHeartbeats 8000000
set_option maxRecDepth 100000
set_option linter.unusedSimpArgs false
mutual
def spec_loFar.l0 : Nat → Bool → Int → List Int → List Int → List Bool → Int → Int → List Int → List Bool → Int → Option (List Int × List Int)
 | 0, _, _, _, _, _, _, _, _, _, _ => none
 | k + 1, x1, x6, x7, x8, x9, x33, x34, x299000, x299001, x299002 => if x34 < x33 then (if 0 ≤ x34 then (if x34 < (x7.length : Int) then (spec_loFar.l0 k x1 x6 (x7.set (x34 : Int).toNat (-1)) x8 x9 x33 (wrap64 (x34 + 1)) x299000 x299001 x299002) else (none)) else (none)) else ((spec_loParty.f x299000 x299001 x299002).bind fun bt309 => ((spec_paLast.f k bt309.1 bt309.2).bind fun bt313 => ((spec_seIndex.f k bt313.1 bt313.2).bind fun t317 => (if 0 ≤ t317 then (if t317 < (x7.length : Int) then (if t317 < (x8.length : Int) then (spec_loFar.l1 k x1 x6 (x7.set (t317 : Int).toNat 0) (x8.set (t317 : Int).toNat 1) x9 x299000 x299001 x299002) else (none)) else (none)) else (none)))))
def spec_loFar.l1 : Nat → Bool → Int → List Int → List Int → List Bool → List Int → List Bool → Int → Option (List Int × List Int)
 | 0, _, _, _, _, _, _, _, _ => none
 | k + 1, x1, x6, x7, x8, x9, x299000, x299001, x299002 => spec_loFar.l2 k x1 x6 x7 x8 x9 (-1) x7 (x7.length : Int) 0 x299000 x299001 x299002
def spec_loFar.l2 : Nat → Bool → Int → List Int → List Int → List Bool → Int → List Int → Int → Int → List Int → List Bool → Int → Option (List Int × List Int)
 | 0, _, _, _, _, _, _, _, _, _, _, _, _ => none
 | k + 1, x1, x6, x7, x8, x9, x12, x51, x52, x53, x299000, x299001, x299002 => if x53 < x52 then (if 0 ≤ x53 then (if x53 < (x51.length : Int) then (if x53 < (x9.length : Int) then (if rdOf false x9 x53 = true then (spec_loFar.l2 k x1 x6 x7 x8 x9 x12 x51 x52 (wrap64 (x53 + 1)) x299000 x299001 x299002) else (if (rd x51 x53) ≥ 0 then (if x12 < 0 then (spec_loFar.l2 k x1 x6 x7 x8 x9 x53 x51 x52 (wrap64 (x53 + 1)) x299000 x299001 x299002) else (if 0 ≤ x12 then (if x12 < (x7.length : Int) then (if (rd x51 x53) < (rd x7 x12) then (spec_loFar.l2 k x1 x6 x7 x8 x9 x53 x51 x52 (wrap64 (x53 + 1)) x299000 x299001 x299002) else (spec_loFar.l2 k x1 x6 x7 x8 x9 x12 x51 x52 (wrap64 (x53 + 1)) x299000 x299001 x299002)) else (none)) else (none))) else (spec_loFar.l2 k x1 x6 x7 x8 x9 x12 x51 x52 (wrap64 (x53 + 1)) x299000 x299001 x299002))) else (none)) else (none)) else (none)) else (if x12 < 0 then (some (x7, x8)) else (if 0 ≤ x12 then (if x12 < (x9.length : Int) then ((spec_seState.f k x12 x6).bind fun bt324 => ((spec_loRides.f k x299000 x299001 x299002 bt324.1 bt324.2).bind fun t329 => (spec_loFar.l3 k x1 x6 x7 x8 (x9.set (x12 : Int).toNat true) x12 t329 (t329.length : Int) 0 x299000 x299001 x299002 bt324.1 bt324.2))) else (none)) else (none)))
def spec_loFar.l3 : Nat → Bool → Int → List Int → List Int → List Bool → Int → List (List Int) → Int → Int → List Int → List Bool → Int → List Bool → Bool → Option (List Int × List Int)
 | 0, _, _, _, _, _, _, _, _, _, _, _, _, _, _ => none
 | k + 1, x1, x6, x7, x8, x9, x12, x93, x94, x95, x299000, x299001, x299002, x329000, x329001 => if x95 < x94 then (if 0 ≤ x95 then (if x95 < (x93.length : Int) then ((spec_paCross.f k x329000 x329001 (rd_L2 x93 x95)).bind fun bt333 => ((spec_seIndex.f k bt333.1 bt333.2).bind fun t337 => (if 0 ≤ x12 then (if x12 < (x7.length : Int) then ((spec_loCost.f k x299000 x299001 x299002 (rd_L2 x93 x95) x1).bind fun t339 => (if 0 ≤ t337 then (if t337 < (x7.length : Int) then (if (rd x7 t337) < 0 then (spec_loFar.j4 k x1 x6 x7 x8 x9 x12 t337 (wrap64 ((rd x7 x12) + t339)) x93 x94 x95 true x299000 x299001 x299002 x329000 x329001) else (spec_loFar.j4 k x1 x6 x7 x8 x9 x12 t337 (wrap64 ((rd x7 x12) + t339)) x93 x94 x95 (decide ((wrap64 ((rd x7 x12) + t339)) < (rd x7 t337))) x299000 x299001 x299002 x329000 x329001)) else (none)) else (none))) else (none)) else (none)))) else (none)) else (none)) else (spec_loFar.l1 k x1 x6 x7 x8 x9 x299000 x299001 x299002)
def spec_loFar.j4 : Nat → Bool → Int → List Int → List Int → List Bool → Int → Int → Int → List (List Int) → Int → Int → Bool → List Int → List Bool → Int → List Bool → Bool → Option (List Int × List Int)
 | 0, _, _, _, _, _, _, _, _, _, _, _, _, _, _, _, _, _ => none
 | k + 1, x1, x6, x7, x8, x9, x12, x18, x19, x93, x94, x95, x124, x299000, x299001, x299002, x329000, x329001 => if x124 = true then (if 0 ≤ x18 then (if x18 < (x7.length : Int) then ((some (x7.set (x18 : Int).toNat x19 : List Int)).bind fun y342 => (if x18 < (x8.length : Int) then ((some (x8.set (x18 : Int).toNat 0 : List Int)).bind fun y343 => (if x19 = (rd y342 x18) then (if 0 ≤ x12 then (if x12 < (x8.length : Int) then (spec_loFar.l3 k x1 x6 y342 (y343.set (x18 : Int).toNat (wrap64 ((rd y343 x18) + (rd y343 x12)))) x9 x12 x93 x94 (wrap64 (x95 + 1)) x299000 x299001 x299002 x329000 x329001) else (none)) else (none)) else (spec_loFar.l3 k x1 x6 y342 y343 x9 x12 x93 x94 (wrap64 (x95 + 1)) x299000 x299001 x299002 x329000 x329001))) else (none))) else (none)) else (none)) else (if 0 ≤ x18 then (if x18 < (x7.length : Int) then (if x19 = (rd x7 x18) then (if x18 < (x8.length : Int) then (if 0 ≤ x12 then (if x12 < (x8.length : Int) then (spec_loFar.l3 k x1 x6 x7 (x8.set (x18 : Int).toNat (wrap64 ((rd x8 x18) + (rd x8 x12)))) x9 x12 x93 x94 (wrap64 (x95 + 1)) x299000 x299001 x299002 x329000 x329001) else (none)) else (none)) else (none)) else (spec_loFar.l3 k x1 x6 x7 x8 x9 x12 x93 x94 (wrap64 (x95 + 1)) x299000 x299001 x299002 x329000 x329001)) else (none)) else (none))
end
def spec_loFar.f (k : Nat) (l0_0 : List Int) (l0_1 : List Bool) (a0_2 : Int) (a1 : Bool) : Option (List Int × List Int) := if 0 ≤ (shl .i64 2 (l0_0.length : Int)) then (if (shl .i64 2 (l0_0.length : Int) : Int).toNat ≤ 35184372088832 then ((some (List.replicate (shl .i64 2 (l0_0.length : Int) : Int).toNat 0 : List Int)).bind fun y299 => (if (shl .i64 2 (l0_0.length : Int) : Int).toNat ≤ 281474976710656 then (spec_loFar.l0 k a1 (l0_0.length : Int) y299 (List.replicate (shl .i64 2 (l0_0.length : Int) : Int).toNat 0) (List.replicate (shl .i64 2 (l0_0.length : Int) : Int).toNat false) (y299.length : Int) 0 l0_0 l0_1 a0_2) else (none))) else (none)) else (none)
theorem spec_loFar.mono_l : ∀ k, (∀ y0 y1 y2 y3 y4 y5 y6 y7 y8 y9, LeO (spec_loFar.l0 k y0 y1 y2 y3 y4 y5 y6 y7 y8 y9) (spec_loFar.l0 (k + 1) y0 y1 y2 y3 y4 y5 y6 y7 y8 y9)) ∧ (∀ y0 y1 y2 y3 y4 y5 y6 y7, LeO (spec_loFar.l1 k y0 y1 y2 y3 y4 y5 y6 y7) (spec_loFar.l1 (k + 1) y0 y1 y2 y3 y4 y5 y6 y7)) ∧ (∀ y0 y1 y2 y3 y4 y5 y6 y7 y8 y9 y10 y11, LeO (spec_loFar.l2 k y0 y1 y2 y3 y4 y5 y6 y7 y8 y9 y10 y11) (spec_loFar.l2 (k + 1) y0 y1 y2 y3 y4 y5 y6 y7 y8 y9 y10 y11)) ∧ (∀ y0 y1 y2 y3 y4 y5 y6 y7 y8 y9 y10 y11 y12 y13, LeO (spec_loFar.l3 k y0 y1 y2 y3 y4 y5 y6 y7 y8 y9 y10 y11 y12 y13) (spec_loFar.l3 (k + 1) y0 y1 y2 y3 y4 y5 y6 y7 y8 y9 y10 y11 y12 y13)) ∧ (∀ y0 y1 y2 y3 y4 y5 y6 y7 y8 y9 y10 y11 y12 y13 y14 y15 y16, LeO (spec_loFar.j4 k y0 y1 y2 y3 y4 y5 y6 y7 y8 y9 y10 y11 y12 y13 y14 y15 y16) (spec_loFar.j4 (k + 1) y0 y1 y2 y3 y4 y5 y6 y7 y8 y9 y10 y11 y12 y13 y14 y15 y16))
 | 0 => ⟨fun _ _ _ _ _ _ _ _ _ _ r h => by simp [spec_loFar.l0] at h, fun _ _ _ _ _ _ _ _ r h => by simp [spec_loFar.l1] at h, fun _ _ _ _ _ _ _ _ _ _ _ _ r h => by simp [spec_loFar.l2] at h, fun _ _ _ _ _ _ _ _ _ _ _ _ _ _ r h => by simp [spec_loFar.l3] at h, fun _ _ _ _ _ _ _ _ _ _ _ _ _ _ _ _ _ r h => by simp [spec_loFar.j4] at h⟩
 | k + 1 => by
  obtain ⟨ih0, ih1, ih2, ih3, ih4⟩ := spec_loFar.mono_l k
  refine ⟨?_, ?_, ?_, ?_, ?_⟩
  ·intro y0 y1 y2 y3 y4 y5 y6 y7 y8 y9
   unfold spec_loFar.l0
   repeat' first
   | (with_reducible first | exact ih0 _ _ _ _ _ _ _ _ _ _ | exact ih1 _ _ _ _ _ _ _ _ | exact ih2 _ _ _ _ _ _ _ _ _ _ _ _ | exact ih3 _ _ _ _ _ _ _ _ _ _ _ _ _ _ | exact ih4 _ _ _ _ _ _ _ _ _ _ _ _ _ _ _ _ _ | exact spec_loCost.mono _ _ _ _ _ _ | exact spec_loRides.mono _ _ _ _ _ _ | exact spec_paCross.mono _ _ _ _ | exact spec_paLast.mono _ _ _ | exact spec_seIndex.mono _ _ _ | exact spec_seState.mono _ _ _ | exact LeO.refl _ | exact LeO.none _ | refine LeO.ite ?_ ?_ | refine LeO.bind ?_ (fun _ => ?_))
   | exact ih0 _ _ _ _ _ _ _ _ _ _
   | exact ih1 _ _ _ _ _ _ _ _
   | exact ih2 _ _ _ _ _ _ _ _ _ _ _ _
   | exact ih3 _ _ _ _ _ _ _ _ _ _ _ _ _ _
   | exact ih4 _ _ _ _ _ _ _ _ _ _ _ _ _ _ _ _ _
   | exact spec_loCost.mono _ _ _ _ _ _
   | exact spec_loRides.mono _ _ _ _ _ _
   | exact spec_paCross.mono _ _ _ _
   | exact spec_paLast.mono _ _ _
   | exact spec_seIndex.mono _ _ _
   | exact spec_seState.mono _ _ _
   | exact LeO.none _
   | refine LeO.ite ?_ ?_
   | refine LeO.bind ?_ (fun _ => ?_)
  ·intro y0 y1 y2 y3 y4 y5 y6 y7
   unfold spec_loFar.l1
   repeat' first
   | (with_reducible first | exact ih0 _ _ _ _ _ _ _ _ _ _ | exact ih1 _ _ _ _ _ _ _ _ | exact ih2 _ _ _ _ _ _ _ _ _ _ _ _ | exact ih3 _ _ _ _ _ _ _ _ _ _ _ _ _ _ | exact ih4 _ _ _ _ _ _ _ _ _ _ _ _ _ _ _ _ _ | exact spec_loCost.mono _ _ _ _ _ _ | exact spec_loRides.mono _ _ _ _ _ _ | exact spec_paCross.mono _ _ _ _ | exact spec_paLast.mono _ _ _ | exact spec_seIndex.mono _ _ _ | exact spec_seState.mono _ _ _ | exact LeO.refl _ | exact LeO.none _ | refine LeO.ite ?_ ?_ | refine LeO.bind ?_ (fun _ => ?_))
   | exact ih0 _ _ _ _ _ _ _ _ _ _
   | exact ih1 _ _ _ _ _ _ _ _
   | exact ih2 _ _ _ _ _ _ _ _ _ _ _ _
   | exact ih3 _ _ _ _ _ _ _ _ _ _ _ _ _ _
   | exact ih4 _ _ _ _ _ _ _ _ _ _ _ _ _ _ _ _ _
   | exact spec_loCost.mono _ _ _ _ _ _
   | exact spec_loRides.mono _ _ _ _ _ _
   | exact spec_paCross.mono _ _ _ _
   | exact spec_paLast.mono _ _ _
   | exact spec_seIndex.mono _ _ _
   | exact spec_seState.mono _ _ _
   | exact LeO.none _
   | refine LeO.ite ?_ ?_
   | refine LeO.bind ?_ (fun _ => ?_)
  ·intro y0 y1 y2 y3 y4 y5 y6 y7 y8 y9 y10 y11
   unfold spec_loFar.l2
   repeat' first
   | (with_reducible first | exact ih0 _ _ _ _ _ _ _ _ _ _ | exact ih1 _ _ _ _ _ _ _ _ | exact ih2 _ _ _ _ _ _ _ _ _ _ _ _ | exact ih3 _ _ _ _ _ _ _ _ _ _ _ _ _ _ | exact ih4 _ _ _ _ _ _ _ _ _ _ _ _ _ _ _ _ _ | exact spec_loCost.mono _ _ _ _ _ _ | exact spec_loRides.mono _ _ _ _ _ _ | exact spec_paCross.mono _ _ _ _ | exact spec_paLast.mono _ _ _ | exact spec_seIndex.mono _ _ _ | exact spec_seState.mono _ _ _ | exact LeO.refl _ | exact LeO.none _ | refine LeO.ite ?_ ?_ | refine LeO.bind ?_ (fun _ => ?_))
   | exact ih0 _ _ _ _ _ _ _ _ _ _
   | exact ih1 _ _ _ _ _ _ _ _
   | exact ih2 _ _ _ _ _ _ _ _ _ _ _ _
   | exact ih3 _ _ _ _ _ _ _ _ _ _ _ _ _ _
   | exact ih4 _ _ _ _ _ _ _ _ _ _ _ _ _ _ _ _ _
   | exact spec_loCost.mono _ _ _ _ _ _
   | exact spec_loRides.mono _ _ _ _ _ _
   | exact spec_paCross.mono _ _ _ _
   | exact spec_paLast.mono _ _ _
   | exact spec_seIndex.mono _ _ _
   | exact spec_seState.mono _ _ _
   | exact LeO.none _
   | refine LeO.ite ?_ ?_
   | refine LeO.bind ?_ (fun _ => ?_)
  ·intro y0 y1 y2 y3 y4 y5 y6 y7 y8 y9 y10 y11 y12 y13
   unfold spec_loFar.l3
   repeat' first
   | (with_reducible first | exact ih0 _ _ _ _ _ _ _ _ _ _ | exact ih1 _ _ _ _ _ _ _ _ | exact ih2 _ _ _ _ _ _ _ _ _ _ _ _ | exact ih3 _ _ _ _ _ _ _ _ _ _ _ _ _ _ | exact ih4 _ _ _ _ _ _ _ _ _ _ _ _ _ _ _ _ _ | exact spec_loCost.mono _ _ _ _ _ _ | exact spec_loRides.mono _ _ _ _ _ _ | exact spec_paCross.mono _ _ _ _ | exact spec_paLast.mono _ _ _ | exact spec_seIndex.mono _ _ _ | exact spec_seState.mono _ _ _ | exact LeO.refl _ | exact LeO.none _ | refine LeO.ite ?_ ?_ | refine LeO.bind ?_ (fun _ => ?_))
   | exact ih0 _ _ _ _ _ _ _ _ _ _
   | exact ih1 _ _ _ _ _ _ _ _
   | exact ih2 _ _ _ _ _ _ _ _ _ _ _ _
   | exact ih3 _ _ _ _ _ _ _ _ _ _ _ _ _ _
   | exact ih4 _ _ _ _ _ _ _ _ _ _ _ _ _ _ _ _ _
   | exact spec_loCost.mono _ _ _ _ _ _
   | exact spec_loRides.mono _ _ _ _ _ _
   | exact spec_paCross.mono _ _ _ _
   | exact spec_paLast.mono _ _ _
   | exact spec_seIndex.mono _ _ _
   | exact spec_seState.mono _ _ _
   | exact LeO.none _
   | refine LeO.ite ?_ ?_
   | refine LeO.bind ?_ (fun _ => ?_)
  ·intro y0 y1 y2 y3 y4 y5 y6 y7 y8 y9 y10 y11 y12 y13 y14 y15 y16
   unfold spec_loFar.j4
   repeat' first
   | (with_reducible first | exact ih0 _ _ _ _ _ _ _ _ _ _ | exact ih1 _ _ _ _ _ _ _ _ | exact ih2 _ _ _ _ _ _ _ _ _ _ _ _ | exact ih3 _ _ _ _ _ _ _ _ _ _ _ _ _ _ | exact ih4 _ _ _ _ _ _ _ _ _ _ _ _ _ _ _ _ _ | exact spec_loCost.mono _ _ _ _ _ _ | exact spec_loRides.mono _ _ _ _ _ _ | exact spec_paCross.mono _ _ _ _ | exact spec_paLast.mono _ _ _ | exact spec_seIndex.mono _ _ _ | exact spec_seState.mono _ _ _ | exact LeO.refl _ | exact LeO.none _ | refine LeO.ite ?_ ?_ | refine LeO.bind ?_ (fun _ => ?_))
   | exact ih0 _ _ _ _ _ _ _ _ _ _
   | exact ih1 _ _ _ _ _ _ _ _
   | exact ih2 _ _ _ _ _ _ _ _ _ _ _ _
   | exact ih3 _ _ _ _ _ _ _ _ _ _ _ _ _ _
   | exact ih4 _ _ _ _ _ _ _ _ _ _ _ _ _ _ _ _ _
   | exact spec_loCost.mono _ _ _ _ _ _
   | exact spec_loRides.mono _ _ _ _ _ _
   | exact spec_paCross.mono _ _ _ _
   | exact spec_paLast.mono _ _ _
   | exact spec_seIndex.mono _ _ _
   | exact spec_seState.mono _ _ _
   | exact LeO.none _
   | refine LeO.ite ?_ ?_
   | refine LeO.bind ?_ (fun _ => ?_)
theorem spec_loFar.mono : ∀ a0 a1 a2 a3 k, LeO (spec_loFar.f k a0 a1 a2 a3) (spec_loFar.f (k + 1) a0 a1 a2 a3) := by
 intro a0 a1 a2 a3 k
 obtain ⟨ih0, ih1, ih2, ih3, ih4⟩ := spec_loFar.mono_l k
 unfold spec_loFar.f
 repeat' first
  | (with_reducible first | exact ih0 _ _ _ _ _ _ _ _ _ _ | exact ih1 _ _ _ _ _ _ _ _ | exact ih2 _ _ _ _ _ _ _ _ _ _ _ _ | exact ih3 _ _ _ _ _ _ _ _ _ _ _ _ _ _ | exact ih4 _ _ _ _ _ _ _ _ _ _ _ _ _ _ _ _ _ | exact spec_loCost.mono _ _ _ _ _ _ | exact spec_loRides.mono _ _ _ _ _ _ | exact spec_paCross.mono _ _ _ _ | exact spec_paLast.mono _ _ _ | exact spec_seIndex.mono _ _ _ | exact spec_seState.mono _ _ _ | exact LeO.refl _ | exact LeO.none _ | refine LeO.ite ?_ ?_ | refine LeO.bind ?_ (fun _ => ?_))
  | exact ih0 _ _ _ _ _ _ _ _ _ _
  | exact ih1 _ _ _ _ _ _ _ _
  | exact ih2 _ _ _ _ _ _ _ _ _ _ _ _
  | exact ih3 _ _ _ _ _ _ _ _ _ _ _ _ _ _
  | exact ih4 _ _ _ _ _ _ _ _ _ _ _ _ _ _ _ _ _
  | exact spec_loCost.mono _ _ _ _ _ _
  | exact spec_loRides.mono _ _ _ _ _ _
  | exact spec_paCross.mono _ _ _ _
  | exact spec_paLast.mono _ _ _
  | exact spec_seIndex.mono _ _ _
  | exact spec_seState.mono _ _ _
  | exact LeO.none _
  | refine LeO.ite ?_ ?_
  | refine LeO.bind ?_ (fun _ => ?_)
def spec_loFar.T2 : Bool × List (List Nat × List Nat) := (true, [([], []), ([0], [0]), ([1, 1], [1]), ([], []), ([3], [3]), ([4, 4], [4]), ([2, 0, 1, 2], [2]), ([5, 6, 0, 1, 2, 3, 4, 5, 6], [5])])
def spec_loFar.B2 : List Nat := [0, 1, 3, 0, 8, 24, 7, 127]
theorem spec_loFar.tab2 : rtab .any (opsOf Try.f54 2) = spec_loFar.T2 := by kernel_rfl
theorem spec_loFar.bits2 : waitsOk spec_loFar.T2.2 spec_loFar.B2 = true := by kernel_rfl
def spec_loFar.T27 : Bool × List (List Nat × List Nat) := (true, [([], []), ([], []), ([0, 1], [0, 1]), ([2], [2]), ([], []), ([], []), ([], []), ([4, 5, 6], [4, 5, 6]), ([3, 7], [3, 7]), ([8, 7, 0, 1, 2, 3, 4, 5, 6, 7, 8], [8])])
def spec_loFar.B27 : List Nat := [0, 0, 3, 7, 0, 0, 0, 112, 255, 511]
theorem spec_loFar.tab27 : rtab .any (opsOf Try.f54 27) = spec_loFar.T27 := by kernel_rfl
theorem spec_loFar.bits27 : waitsOk spec_loFar.T27.2 spec_loFar.B27 = true := by kernel_rfl
def spec_loFar.T32 : Bool × List (List Nat × List Nat) := (true, [([], []), ([], []), ([0, 1], [0, 1]), ([2], [2]), ([], []), ([], []), ([4, 5], [4, 5]), ([6], [6]), ([3, 7], [3, 7]), ([0, 1, 0, 1, 2, 3, 4, 5, 6, 7, 8], [0, 1]), ([9, 8, 0, 1, 2, 3, 4, 5, 6, 7, 8], [8, 9])])
def spec_loFar.B32 : List Nat := [0, 0, 3, 7, 0, 0, 48, 112, 255, 511, 1023]
theorem spec_loFar.tab32 : rtab .any (opsOf Try.f54 32) = spec_loFar.T32 := by kernel_rfl
theorem spec_loFar.bits32 : waitsOk spec_loFar.T32.2 spec_loFar.B32 = true := by kernel_rfl
theorem spec_loFar.calls (k : Nat) (A0_0 : Option Addr) (c0_0 : Nat) (l0_0 : List Int) (A0_1 : Option Addr) (c0_1 : Nat) (l0_1 : List Bool) (a0_2 : Int) (a1 : Bool) (r1 : List Int) (r2 : List Int) (w : World) (hr0_0 : Kd.C (Kd.int .i64) w A0_0 l0_0.length l0_0) (hc0_0 : l0_0.length ≤ c0_0) (hr0_1 : Kd.C Kd.bool w A0_1 l0_1.length l0_1) (hc0_1 : l0_1.length ≤ c0_1) (h : spec_loFar.f k l0_0 l0_1 a0_2 a1 = some (r1, r2)) :
  Calls Try.prog 54 #[.agg #[.slice A0_0 l0_0.length c0_0, .slice A0_1 l0_1.length c0_1, .int .i64 a0_2], .bool a1] w fun e w' => ∃ v0_ v1_ : Value, e = .returned (.tuple #[v0_, v1_]) ∧ Kd.R (Kd.int .i64) 3 w' w.heap.size (fun k_ => some k_ ≠ (v1_ : Value).ownBlock) v0_ r1 ∧ Kd.R (Kd.int .i64) 3 w' w.heap.size (fun k_ => some k_ ≠ (v0_ : Value).ownBlock) v1_ r2 ∧ Below w.heap.size w w' := by
 have hu43 := Try.underlying43
 have hu115 := Try.underlying115
 have HR0_0 := ak_ hr0_0
 have HC0_0 := ak_ hc0_0
 clear hr0_0 hc0_0
 have HR0_1 := ak_ hr0_1
 have HC0_1 := ak_ hc0_1
 clear hr0_1 hc0_1
 have HB := ak_ (Below.refl w.heap.size w)
 have H : (if 0 ≤ (shl .i64 2 (l0_0.length : Int)) then (if (shl .i64 2 (l0_0.length : Int) : Int).toNat ≤ 35184372088832 then ((some (List.replicate (shl .i64 2 (l0_0.length : Int) : Int).toNat 0 : List Int)).bind fun y299 => (if (shl .i64 2 (l0_0.length : Int) : Int).toNat ≤ 281474976710656 then (spec_loFar.l0 k a1 (l0_0.length : Int) y299 (List.replicate (shl .i64 2 (l0_0.length : Int) : Int).toNat 0) (List.replicate (shl .i64 2 (l0_0.length : Int) : Int).toNat false) (y299.length : Int) 0 l0_0 l0_1 a0_2) else (none))) else (none)) else (none)) = some (r1, r2) := h
 clear h
 obtain ⟨ji3, hji3⟩ : ∃ j_ : Int, (shl .i64 2 (l0_0.length : Int)) = j_ := ⟨_, rfl⟩
 replace H : (if 0 ≤ (ji3) then (if (ji3 : Int).toNat ≤ 35184372088832 then ((some (List.replicate (ji3 : Int).toNat 0 : List Int)).bind fun y299 => (if (ji3 : Int).toNat ≤ 281474976710656 then (spec_loFar.l0 k a1 (l0_0.length : Int) y299 (List.replicate (ji3 : Int).toNat 0) (List.replicate (ji3 : Int).toNat false) (y299.length : Int) 0 l0_0 l0_1 a0_2) else (none))) else (none)) else (none)) = some (r1, r2) := by first | (rw [hji3] at H; exact H) | (simp only [hji3] at H ⊢; exact H)
 have hji3_ : (IntKind.i64.wrap (2 * 2 ^ min (l0_0.length : Int).toNat 64)) = ji3 := hji3
 have hji3z : (l0_0.length : Int) ≤ 64 → (IntKind.i64.wrap (2 * 2 ^ (l0_0.length : Int).toNat)) = ji3 := shl_small hji3
 have hji3p : (IntKind.i64.wrap (2 * 2 ^ min l0_0.length 64)) = ji3 := hji3_
 have hji3q : (l0_0.length : Int) ≤ 64 → (IntKind.i64.wrap (2 * 2 ^ l0_0.length)) = ji3 := hji3z
 have hji3y : (wrap64 (2 * 2 ^ min (l0_0.length : Int).toNat 64)) = ji3 := (i64_w _).symm.trans hji3_
 have hji3x : (l0_0.length : Int) ≤ 64 → (wrap64 (2 * 2 ^ (l0_0.length : Int).toNat)) = ji3 := fun h_ => (i64_w _).symm.trans (hji3z h_)
 by_cases c4 : 0 ≤ (ji3)
 ·
  rw [if_pos c4] at H
  have c4b0 := eq_true c4
  have c4b1 : decide (0 ≤ (ji3)) = true := decide_eq_true c4
  clear c4
  by_cases c5 : (ji3 : Int).toNat ≤ 35184372088832
  ·
   rw [if_pos c5] at H
   have c5b0 := eq_true c5
   have c5b1 : decide ((ji3 : Int).toNat ≤ 35184372088832) = true := decide_eq_true c5
   clear c5
   obtain ⟨y299, hy299⟩ : ∃ y_ : List Int, y_ = (List.replicate (ji3 : Int).toNat 0) := ⟨_, rfl⟩
   replace H : (if (ji3 : Int).toNat ≤ 281474976710656 then (spec_loFar.l0 k a1 (l0_0.length : Int) y299 (List.replicate (ji3 : Int).toNat 0) (List.replicate (ji3 : Int).toNat false) (y299.length : Int) 0 l0_0 l0_1 a0_2) else (none)) = some (r1, r2) := by first | (rw [hy299]; exact H) | exact H
   have Ny299 := ak_ hy299
   clear hy299
   obtain ⟨y302, hy302⟩ : ∃ y_ : List Int, y_ = (List.replicate (ji3 : Int).toNat 0) := ⟨_, rfl⟩
   replace H : (if (ji3 : Int).toNat ≤ 281474976710656 then (spec_loFar.l0 k a1 (l0_0.length : Int) y299 y302 (List.replicate (ji3 : Int).toNat false) (y299.length : Int) 0 l0_0 l0_1 a0_2) else (none)) = some (r1, r2) := by first | (rw [hy302]; exact H) | exact H
   have Ny302 := ak_ hy302
   clear hy302
   by_cases c8 : (ji3 : Int).toNat ≤ 281474976710656
   ·
    rw [if_pos c8] at H
    have c8b0 := eq_true c8
    have c8b1 : decide ((ji3 : Int).toNat ≤ 281474976710656) = true := decide_eq_true c8
    clear c8
    obtain ⟨y305, hy305⟩ : ∃ y_ : List Bool, y_ = (List.replicate (ji3 : Int).toNat false) := ⟨_, rfl⟩
    replace H : (spec_loFar.l0 k a1 (l0_0.length : Int) y299 y302 y305 (y299.length : Int) 0 l0_0 l0_1 a0_2) = some (r1, r2) := by first | (rw [hy305]; exact H) | exact H
    have Ny305 := ak_ hy305
    clear hy305
    have H' := ak_ H
    clear H
    go_enter Try.func54, Try.ntmps54
    try go_wp2_with (first | ((with_reducible refine gate_dst (N := 2) rfl ?_); refine bx_ 2 #[.slice A0_0 l0_0.length c0_0, .slice A0_1 l0_1.length c0_1, .int .i64 a0_2] 43 ?_; intro gb298 hg w9 hbox hb; have n0_ := ak_ (bs_ (bb_ HB.out) hb); have n1_ := ak_ (hbox); have n2_ := ak_ ((by rw [hg]; exact (bz_ (bb_ HB.out)) : w.heap.size ≤ gb298)); have n3_ := n2_; clear HB; have HB := n0_; have BK298 := n1_; have GW298 := n2_; have GE298 := n3_; clear n0_ n1_ n2_ n3_; clear hb hbox hg; have hcz10_0 : w9.cell? ⟨gb298, 0, none⟩ = some (.slice A0_0 l0_0.length c0_0) := (blk_cell BK298.out 0).trans rfl; have hcz10_1 : w9.cell? ⟨gb298, 1, none⟩ = some (.slice A0_1 l0_1.length c0_1) := (blk_cell BK298.out 1).trans rfl; have hcz10_2 : w9.cell? ⟨gb298, 2, none⟩ = some (.int .i64 a0_2) := (blk_cell BK298.out 2).trans rfl; have hfz10_0 := blk_frozen BK298.out 0; have hfz10_1 := blk_frozen BK298.out 1; have hfz10_2 := blk_frozen BK298.out 2))
    have n0_ := ak_ (k1_ BK298.out)
    have n1_ := ak_ (b1_ HB.out)
    clear BK298 HB
    have BK298 := n0_; have HB := n1_
    clear n0_ n1_
    refine start_ (n := 8) (S := fun w' => True) (ds := []) (mb_ 8 0) (by kernel_rfl) rfl rfl trivial (fun hHeld => ?_); refine with_tabW spec_loFar.tab2 spec_loFar.bits2 (fun HT_ HW_ => ?_)
    generalize w9.drew = w11 at BK298 HB hHeld ⊢
    refine pu_ 0 23 8 1 ?_
    refine pu_ 1 24 8 3 ?_
    refine pu_ 3 26 8 11 ?_
    refine pu_ 4 27 8 27 ?_
    refine join_ (σ := Value × Value) 1 (mb_ 8 127) (fun s_ => [(25, s_.1), (28, s_.2), (7, s_.1)]) (fun s_ w' => (Kd.R (Kd.int .i64) 3 w' w.heap.size (fun k_ => some k_ ≠ (s_.2 : Value).ownBlock) s_.1 y299) ∧ (Kd.R (Kd.int .i64) 3 w' w.heap.size (fun k_ => some k_ ≠ (s_.1 : Value).ownBlock) s_.2 y302) ∧ (w'.heap[gb298]? = some (.cells #[.slice A0_0 l0_0.length c0_0, .slice A0_1 l0_1.length c0_1, .int .i64 a0_2] 43 (0, 0))) ∧ (Below w.heap.size w w')) ?_ ?_
    rotate_left
    ·
     intro hCont
     refine two_ (i := 2) (j := 5) (Ni := some 25) (Nj := some 28) (mb_ 8 31) (mb_ 8 59) rfl rfl rfl rfl (two_of HT_.out (by kernel_rfl)) (by decide) (by decide) (fun K hK => ?_) (fun K hK => ?_)
     ·
      skip
      refine Kd.R_make_step (Kd.int .i64) _ 3 (by rfl) (N := 25) rfl 29 _ _ rfl ji3 rfl rfl Try.underlying29 (.int .i64 0) 8 info3 rfl (by decide) (by omega) 0 (ok := fun _ => True) (okp := fun _ => True) rfl (fun _ hk => hk) trivial (odt_ (by assumption)) (Nat.le_trans (Nat.mul_le_mul_right _ (odt_ (by assumption) : ji3.toNat ≤ 35184372088832)) (by omega)) (Below.refl _ _) (Nat.le_refl _) ?_
      intro v300 w12 ho13 hb hg_ hnew_
      clear hg_ hnew_
      (first | rw [← Ny299.out] at ho13 | (simp only [Int.reduceToNat] at ho13; rw [← Ny299.out] at ho13))
      have n0_ := ak_ (Kd.R_lower ho13 (bz_ bl_))
      have n1_ := ak_ (blk_below (pk BK298.out) hb)
      have n2_ := ak_ (bs_ bl_ hb)
      clear BK298 HB
      have HO301 := n0_; have BK298 := n1_; have HB := n2_
      clear n0_ n1_ n2_ hb ho13
      refine hK.out _ _ trivial (fun hHeld => ?_)
      clear hK K
      refine nm_ ?_
      refine pu_ 6 7 8 95 ?_
      refine on_ 5 28 8 127 (fun K hK => ?_)
      refine Kd.R_make_step (Kd.int .i64) _ 3 (by rfl) (N := 28) rfl 29 _ _ rfl ji3 rfl rfl Try.underlying29 (.int .i64 0) 8 info3 rfl (by decide) (by omega) 0 (ok := fun _ => True) (okp := fun _ => True) rfl (fun _ hk => hk) trivial (odt_ (by assumption)) (Nat.le_trans (Nat.mul_le_mul_right _ (odt_ (by assumption) : ji3.toNat ≤ 35184372088832)) (by omega)) (Below.refl _ _) (Nat.le_refl _) ?_
      intro v303 w14 ho15 hb hg_ hnew_
      clear hg_ hnew_
      (first | rw [← Ny302.out] at ho15 | (simp only [Int.reduceToNat] at ho15; rw [← Ny302.out] at ho15))
      have n0_ := ak_ (Kd.R_elder' (Kd.pR HO301.out) (Kd.R_base ho15) hb)
      have n1_ := ak_ (Kd.R_lower (Kd.R_new' ho15 (Kd.R_lt (Kd.pR HO301.out))) (bz_ bl_))
      have n2_ := ak_ (blk_below (pk BK298.out) hb)
      have n3_ := ak_ (bs_ bl_ hb)
      clear HO301 BK298 HB
      have HO301 := n0_; have HO304 := n1_; have BK298 := n2_; have HB := n3_
      clear n0_ n1_ n2_ n3_ hb ho15
      refine hK.out _ _ trivial (fun hHeld => ?_)
      clear hK K
      refine nm_ ?_
      exact norm_ (by simp only [putAll, Act.put, setIfInBounds_toArray, set_cons_zero, set_cons_succ]) (hCont (v300, v303) _ ⟨(by (with_reducible repeat (first | apply Kd.R_alloc | apply Kd.R_drewN | apply Kd.R_drew)); exact Kd.R_mono HO301.out (fun _ hk => hk.2)), (by (with_reducible repeat (first | apply Kd.R_alloc | apply Kd.R_drewN | apply Kd.R_drew)); exact Kd.R_mono HO304.out (fun _ hk => hk.2)), (pk BK298.out), bl_⟩)
     ·
      skip
      refine Kd.R_make_step (Kd.int .i64) _ 3 (by rfl) (N := 28) rfl 29 _ _ rfl ji3 rfl rfl Try.underlying29 (.int .i64 0) 8 info3 rfl (by decide) (by omega) 0 (ok := fun _ => True) (okp := fun _ => True) rfl (fun _ hk => hk) trivial (odt_ (by assumption)) (Nat.le_trans (Nat.mul_le_mul_right _ (odt_ (by assumption) : ji3.toNat ≤ 35184372088832)) (by omega)) (Below.refl _ _) (Nat.le_refl _) ?_
      intro v303 w12 ho13 hb hg_ hnew_
      clear hg_ hnew_
      (first | rw [← Ny302.out] at ho13 | (simp only [Int.reduceToNat] at ho13; rw [← Ny302.out] at ho13))
      have n0_ := ak_ (Kd.R_lower ho13 (bz_ bl_))
      have n1_ := ak_ (blk_below (pk BK298.out) hb)
      have n2_ := ak_ (bs_ bl_ hb)
      clear BK298 HB
      have HO304 := n0_; have BK298 := n1_; have HB := n2_
      clear n0_ n1_ n2_ hb ho13
      refine hK.out _ _ trivial (fun hHeld => ?_)
      clear hK K
      refine nm_ ?_
      refine on_ 2 25 8 63 (fun K hK => ?_)
      refine Kd.R_make_step (Kd.int .i64) _ 3 (by rfl) (N := 25) rfl 29 _ _ rfl ji3 rfl rfl Try.underlying29 (.int .i64 0) 8 info3 rfl (by decide) (by omega) 0 (ok := fun _ => True) (okp := fun _ => True) rfl (fun _ hk => hk) trivial (odt_ (by assumption)) (Nat.le_trans (Nat.mul_le_mul_right _ (odt_ (by assumption) : ji3.toNat ≤ 35184372088832)) (by omega)) (Below.refl _ _) (Nat.le_refl _) ?_
      intro v300 w14 ho15 hb hg_ hnew_
      clear hg_ hnew_
      (first | rw [← Ny299.out] at ho15 | (simp only [Int.reduceToNat] at ho15; rw [← Ny299.out] at ho15))
      have n0_ := ak_ (Kd.R_elder' (Kd.pR HO304.out) (Kd.R_base ho15) hb)
      have n1_ := ak_ (Kd.R_lower (Kd.R_new' ho15 (Kd.R_lt (Kd.pR HO304.out))) (bz_ bl_))
      have n2_ := ak_ (blk_below (pk BK298.out) hb)
      have n3_ := ak_ (bs_ bl_ hb)
      clear HO304 BK298 HB
      have HO304 := n0_; have HO301 := n1_; have BK298 := n2_; have HB := n3_
      clear n0_ n1_ n2_ n3_ hb ho15
      refine hK.out _ _ trivial (fun hHeld => ?_)
      clear hK K
      refine nm_ ?_
      refine pu_ 6 7 8 127 ?_
      exact norm_ (by simp only [putAll, Act.put, setIfInBounds_toArray, set_cons_zero, set_cons_succ]) (hCont (v300, v303) _ ⟨(by (with_reducible repeat (first | apply Kd.R_alloc | apply Kd.R_drewN | apply Kd.R_drew)); exact Kd.R_mono HO301.out (fun _ hk => hk.2)), (by (with_reducible repeat (first | apply Kd.R_alloc | apply Kd.R_drewN | apply Kd.R_drew)); exact Kd.R_mono HO304.out (fun _ hk => hk.2)), (pk BK298.out), bl_⟩)
    rintro ⟨v300, v303⟩ w16 ⟨h0_, h1_, h2_, h3_⟩
    have n0_ : Aside0 (Kd.R (Kd.int .i64) 3 w16 w.heap.size (fun k_ => some k_ ≠ (v303 : Value).ownBlock) v300 y299) := ⟨h0_⟩
    have n1_ : Aside0 (Kd.R (Kd.int .i64) 3 w16 w.heap.size (fun k_ => some k_ ≠ (v300 : Value).ownBlock) v303 y302) := ⟨h1_⟩
    have n2_ : Aside0 (w16.heap[gb298]? = some (.cells #[.slice A0_0 l0_0.length c0_0, .slice A0_1 l0_1.length c0_1, .int .i64 a0_2] 43 (0, 0))) := ⟨h2_⟩
    have n3_ : Aside0 (Below w.heap.size w w16) := ⟨h3_⟩
    clear BK298 HB h0_ h1_ h2_ h3_
    have HO301 := n0_; have HO304 := n1_; have BK298 := n2_; have HB := n3_
    clear n0_ n1_ n2_ n3_
    have hHeld := trivial
    refine norm_ (a' := ?_) ?_ ?_
    rotate_left
    ·
     simp only [putAll, Act.put, setIfInBounds_toArray, set_cons_zero, set_cons_succ]
     rfl
    refine pu_ 7 8 8 255 ?_
    refine done_ (done_of HT_.out (by kernel_rfl)) ?_
    try go_wp2_with (first | ((with_reducible refine gate_dst (N := 31) rfl ?_); refine Kd.R_make Kd.bool _ 4 rfl (N := 31) rfl 38 _ _ rfl ji3 rfl rfl Try.underlying38 (.bool false) 1 info4 rfl (by decide) (by omega) false (ok := fun _ => True) (okp := fun _ => True) rfl (fun _ hk => hk) trivial (odt_ (by assumption)) (Nat.le_trans (Nat.mul_le_mul_right _ (odt_ (by assumption) : ji3.toNat ≤ 281474976710656)) (by omega)) (Below.refl _ _) (Nat.le_refl _) ?_; intro v306 w17 ho18 hb hg_ hnew_; clear hg_ hnew_; (first | rw [← Ny305.out] at ho18 | (simp only [Int.reduceToNat] at ho18; rw [← Ny305.out] at ho18)); have n0_ := ak_ (Kd.R_below (Kd.pR HO301.out) hb); have n1_ := ak_ (Kd.R_below (Kd.pR HO304.out) hb); have n2_ := ak_ (Kd.R_lower ho18 (bz_ bl_)); have n3_ := ak_ (blk_below (pk BK298.out) hb); have n4_ := ak_ (bs_ bl_ hb); clear HO301; clear HO304; clear BK298; clear HB; have HO301 := n0_; have HO304 := n1_; have HO307 := n2_; have BK298 := n3_; have HB := n4_; clear n0_ n1_ n2_ n3_ n4_; clear hb ho18; obtain ⟨Ao19, co19, eo19⟩ := Kd.R_slice HO301.out; subst eo19))
    go_loopg [34] k (fun kq v34 w' => ∃ (x7_1 : List Int) (x34_1 : Int), v34 = .int .i64 x34_1 ∧ Aside0 (spec_loFar.l0 kq a1 (l0_0.length : Int) x7_1 y302 y305 (y299.length : Int) x34_1 l0_0 l0_1 a0_2 = some (r1, r2)) ∧ Aside0 (kq ≤ k) ∧ Aside0 (Kd.R (Kd.int .i64) 3 w' w.heap.size (fun k_ => some k_ ≠ (v303 : Value).ownBlock) (.slice Ao19 y299.length co19) x7_1) ∧ Aside0 (Kd.R (Kd.int .i64) 3 w' w.heap.size (fun k_ => some k_ ≠ ((.slice Ao19 y299.length co19) : Value).ownBlock) v303 y302) ∧ Aside0 (Kd.R Kd.bool 4 w' w.heap.size (fun _ => True) v306 y305) ∧ Aside0 (w'.heap[gb298]? = some (.cells #[(.slice A0_0 l0_0.length c0_0), (.slice A0_1 l0_1.length c0_1), .int .i64 a0_2] 43 (0, 0))) ∧ Aside0 (Below w.heap.size w w'))
    case atStart => exact ⟨(y299), (0), (ry_), H', ⟨Nat.le_refl _⟩, ⟨Kd.pR HO301.out⟩, ⟨Kd.pR HO304.out⟩, ⟨Kd.pR HO307.out⟩, ⟨pk BK298.out⟩, ⟨by repeat (first | exact HB.out | apply ba_ | apply bN_ | apply b1_ | refine below_set ?_ GE298.out)⟩⟩
    case round =>
     clear H'
     try clear p2
     try clear c4
     try clear c4b0
     try clear c4b1
     try clear c5
     try clear c5b0
     try clear c5b1
     try clear c6
     try clear c6b0
     try clear p6
     try clear c7
     try clear c7b0
     try clear c8
     try clear c8b0
     try clear c8b1
     try clear hcz10_0
     try clear hcz10_1
     try clear hcz10_2
     try clear hfz10_0
     try clear hfz10_1
     try clear hfz10_2
     obtain ⟨x7_1, x34_1, rfl, HA, HK1, HO_7, HO_8, HO_9, BK298, HB⟩ := hrel
     have hl7_1 := (Kd.R_reads' HO_7.out).1
     rw [hl7_1] at HO_7
     (try simp only [hl7_1])
     (try simp only [hl7_1] at BK298)
     (try simp only [hl7_1] at HO_8)
     (try simp only [hl7_1] at HO_9)
     cases gk with
     | zero => exact absurd HA.out (by simp [spec_loFar.l0])
     | succ k1 =>
      have H := HA.out
      clear HA
      simp only [spec_loFar.l0] at H
      by_cases c20 : x34_1 < (y299.length : Int)
      ·
       rw [if_pos c20] at H
       have c20b0 : decide (x34_1 < (y299.length : Int)) = true := decide_eq_true c20
       clear c20
       by_cases c21 : 0 ≤ x34_1
       ·
        rw [if_pos c21] at H
        have c21b0 : decide (0 ≤ x34_1) = true := decide_eq_true c21
        clear c21
        by_cases c22 : x34_1 < (x7_1.length : Int)
        ·
         rw [if_pos c22] at H
         have c22b0 : decide (x34_1 < (x7_1.length : Int)) = true := decide_eq_true c22
         clear c22
         obtain ⟨y308, hy308⟩ : ∃ y_ : List Int, y_ = (x7_1.set (x34_1 : Int).toNat (-1)) := ⟨_, rfl⟩
         replace H : (spec_loFar.l0 k1 a1 (l0_0.length : Int) y308 y302 y305 (y299.length : Int) (wrap64 (x34_1 + 1)) l0_0 l0_1 a0_2) = some (r1, r2) := by first | (rw [hy308]; exact H) | exact H
         have Ny308 := ak_ hy308
         clear hy308
         have H' := ak_ H
         clear H
         have p23 : 0 ≤ (x34_1 : Int) := odt_ (by assumption)
         have q23 : (x34_1 : Int) < ((x7_1.length : Int) : Int) := odt_ (by assumption)
         obtain ⟨go23, co23, eo23, gb23, gl23, cl23, HG23⟩ := Kd.R_form HO_7.out (by omega)
         (first | cases eo23 | (injection eo23 with ea_ en_ ec_; (first | subst ea_ | (injection ea_ with ea_; subst ea_)); subst ec_; clear en_))
         have GB23 := ak_ gb23
         have GG23 := ak_ HG23
         clear gb23 gl23 HG23
         obtain ⟨hx23_0, hf23_0⟩ := Kd.R_celln 0 HO_7.out (x34_1 : Int) p23 q23
         replace p23 := eq_true p23
         replace q23 := eq_true q23
         have HP24 := Kd.R_putg HO_7.out (x34_1 : Int) (-1)
         go_wp2_with (first | ((with_reducible refine gate_store (t := 3) (p := 39) rfl ?_); refine store_event (t := 3) (p := 39) (v := ?vo_w25) (w1 := (wr.setCell ⟨go23, (x34_1 : Int).toNat, none⟩ (.int .i64 (-1)))) ?hg ?ho ?hn ?hr ?_; (case ho => rfl); (case hg => rfl); (case hn => rfl); (case hr => go_simp <;> rfl); intro w25 hw; have hg : wr.grownBy w25 (some go23) := (by rw [hw]; exact HP24.2); have hp_ : Kd.R (Kd.int .i64) 3 w25 w.heap.size (fun k_ => some k_ ≠ (v303 : Value).ownBlock) (.slice (some ⟨go23, 0, none⟩) x7_1.length co19) y308 := (by rw [hw, Ny308.out]; exact HP24.1); clear HP24; have n0_ := ak_ (hp_); have n1_ := ak_ (Kd.R_after (v := (.slice (some ⟨go23, 0, none⟩) x7_1.length co19)) (v1 := (.slice (some ⟨go23, 0, none⟩) x7_1.length co19)) (ok := (fun _ => True)) (by (with_reducible repeat (first | apply Kd.R_alloc | apply Kd.R_drewN | apply Kd.R_drew)); exact Kd.R_mono HO_8.out (fun _ hk => ⟨trivial, hk⟩)) hg (.inl rfl)); have n2_ := ak_ (Kd.R_over' (v := (.slice (some ⟨go23, 0, none⟩) x7_1.length co19)) (Kd.pR HO_9.out) (Kd.R_typed HO_7.out) (by decide) hg); have n3_ := ak_ (blk_grown (pk BK298.out) hg (Kd.R_ne HO_7.out BK298.out (by decide))); have n4_ := ak_ ((by rw [hw]; exact below_set (HB.out) GB23.out : Below w.heap.size w w25)); clear HO_7; clear HO_8; clear HO_9; clear BK298; clear HB; have HO_7 := n0_; have HO_8 := n1_; have HO_9 := n2_; have BK298 := n3_; have HB := n4_; clear n0_ n1_ n2_ n3_ n4_; clear hg hw hp_))
         (try simp only [← hl7_1])
         go_roundg k1
         case measure => have := HK1.out; omega
         case rel => exact ⟨(y308), (wrap64 (x34_1 + 1)), (ry_), H', ⟨by have := HK1.out; omega⟩, ⟨by (try simp only [hl7_1]); exact Kd.pR HO_7.out⟩, ⟨by (try simp only [hl7_1]); (with_reducible repeat (first | apply Kd.R_alloc | apply Kd.R_drewN | apply Kd.R_drew)); exact Kd.R_mono HO_8.out (fun _ hk => hk.2)⟩, ⟨by (try simp only [hl7_1]); exact Kd.pR HO_9.out⟩, ⟨by (try simp only [hl7_1]); exact pk BK298.out⟩, ⟨by repeat (first | exact HB.out | apply ba_ | apply bN_ | apply b1_ | refine below_set ?_ GE298.out)⟩⟩
        ·
         rw [if_neg c22] at H
         exact absurd H (by simp)
       ·
        rw [if_neg c21] at H
        exact absurd H (by simp)
      ·
       rw [if_neg c20] at H
       have c20b0 : decide (x34_1 < (y299.length : Int)) = false := decide_eq_false c20
       have c20b9 := c20b0; (try rw [hl7_1] at c20b9)
       clear c20
       replace H := Option.bind_eq_some_iff.mp H
       obtain ⟨⟨t309, t312⟩, A260, H⟩ := H
       replace H : ((spec_paLast.f k1 t309 t312).bind fun bt313 => ((spec_seIndex.f k1 bt313.1 bt313.2).bind fun t317 => (if 0 ≤ t317 then (if t317 < (x7_1.length : Int) then (if t317 < (y302.length : Int) then (spec_loFar.l1 k1 a1 (l0_0.length : Int) (x7_1.set (t317 : Int).toNat 0) (y302.set (t317 : Int).toNat 1) y305 l0_0 l0_1 a0_2) else (none)) else (none)) else (none)))) = some (r1, r2) := H
       have A26 := ak_ A260
       clear A260
       replace H := Option.bind_eq_some_iff.mp H
       obtain ⟨⟨t313, t316⟩, A270, H⟩ := H
       replace H : ((spec_seIndex.f k1 t313 t316).bind fun t317 => (if 0 ≤ t317 then (if t317 < (x7_1.length : Int) then (if t317 < (y302.length : Int) then (spec_loFar.l1 k1 a1 (l0_0.length : Int) (x7_1.set (t317 : Int).toNat 0) (y302.set (t317 : Int).toNat 1) y305 l0_0 l0_1 a0_2) else (none)) else (none)) else (none))) = some (r1, r2) := H
       have A27 := ak_ A270
       clear A270
       replace H := Option.bind_eq_some_iff.mp H
       obtain ⟨t317, A280, H⟩ := H
       replace H : (if 0 ≤ t317 then (if t317 < (x7_1.length : Int) then (if t317 < (y302.length : Int) then (spec_loFar.l1 k1 a1 (l0_0.length : Int) (x7_1.set (t317 : Int).toNat 0) (y302.set (t317 : Int).toNat 1) y305 l0_0 l0_1 a0_2) else (none)) else (none)) else (none)) = some (r1, r2) := H
       have A28 := ak_ A280
       clear A280
       by_cases c29 : 0 ≤ t317
       ·
        rw [if_pos c29] at H
        have c29b0 : decide (0 ≤ t317) = true := decide_eq_true c29
        clear c29
        by_cases c30 : t317 < (x7_1.length : Int)
        ·
         rw [if_pos c30] at H
         have c30b0 : decide (t317 < (x7_1.length : Int)) = true := decide_eq_true c30
         clear c30
         obtain ⟨y318, hy318⟩ : ∃ y_ : List Int, y_ = (x7_1.set (t317 : Int).toNat 0) := ⟨_, rfl⟩
         replace H : (if t317 < (y302.length : Int) then (spec_loFar.l1 k1 a1 (l0_0.length : Int) y318 (y302.set (t317 : Int).toNat 1) y305 l0_0 l0_1 a0_2) else (none)) = some (r1, r2) := by first | (rw [hy318]; exact H) | exact H
         have Ny318 := ak_ hy318
         clear hy318
         by_cases c32 : t317 < (y302.length : Int)
         ·
          rw [if_pos c32] at H
          have c32b0 : decide (t317 < (y302.length : Int)) = true := decide_eq_true c32
          clear c32
          obtain ⟨y319, hy319⟩ : ∃ y_ : List Int, y_ = (y302.set (t317 : Int).toNat 1) := ⟨_, rfl⟩
          replace H : (spec_loFar.l1 k1 a1 (l0_0.length : Int) y318 y319 y305 l0_0 l0_1 a0_2) = some (r1, r2) := by first | (rw [hy319]; exact H) | exact H
          have Ny319 := ak_ hy319
          clear hy319
          have H' := ak_ H
          clear H
          have hcz34_0 : wr.cell? ⟨gb298, 0, none⟩ = some (.slice A0_0 l0_0.length c0_0) := (blk_cell BK298.out 0).trans rfl
          have hcz34_1 : wr.cell? ⟨gb298, 1, none⟩ = some (.slice A0_1 l0_1.length c0_1) := (blk_cell BK298.out 1).trans rfl
          have hcz34_2 : wr.cell? ⟨gb298, 2, none⟩ = some (.int .i64 a0_2) := (blk_cell BK298.out 2).trans rfl
          have hfz34_0 := blk_frozen BK298.out 0
          have hfz34_1 := blk_frozen BK298.out 1
          have hfz34_2 := blk_frozen BK298.out 2
          go_wp2_with (first | ((with_reducible refine gate_callee (f := 99) rfl ?_); refine goesL_ (some 42) rfl rfl Try.func99 (by kernel_rfl) rfl #[.agg #[.slice A0_0 l0_0.length c0_0, .slice A0_1 l0_1.length c0_1, .int .i64 a0_2]] rfl (by first | rfl | (simp only [map_toArray, map_cons, map_nil]; try rfl)) ?_; (with_reducible refine (spec_loParty.calls (fun k_ => k_ < w.heap.size) _ _ l0_0 _ _ l0_1 a0_2 t309 t312 _ ?side1 ?side2 ?side3 A26.out).mono ?_); (case side1 => exact Kd.V_mk HC0_0.out (Kd.F_below (Kd.C_F (Kd.heap_int .i64) HR0_0.out) bl_)); (case side2 => repeat (first | exact (Kd.C_below HR0_1.out HB.out) | (with_reducible refine Kd.C_alloc ?_ _) | (with_reducible refine Kd.C_drewN ?_ _) | (with_reducible refine Kd.C_drew ?_))); (case side3 => exact HC0_1.out); rintro e w35 ⟨v310, rfl, ho0, hb⟩; refine ⟨_, rfl, ?_⟩; have n0_ := ak_ (Kd.R_below (Kd.pR HO_7.out) hb); have n1_ := ak_ (Kd.R_below (Kd.pR HO_8.out) hb); have n2_ := ak_ (Kd.R_below (Kd.pR HO_9.out) hb); have n3_ := ak_ (Kd.V_lower (Kd.V_mono (ok' := fun k_ => some k_ ≠ (.slice Ao19 x7_1.length co19 : Value).ownBlock ∧ some k_ ≠ (v303 : Value).ownBlock ∧ some k_ ≠ (v306 : Value).ownBlock ∧ k_ ≠ gb298) ho0 (fun k_ hk_ => ⟨Or.elim hk_ (fun hs_ => fun e_ => Nat.not_le.2 hs_ (Kd.R_base HO_7.out k_ e_.symm)) (fun hn_ => (Kd.fresh' (Kd.R_lt (Kd.pR HO_7.out)) k_ hn_)), Or.elim hk_ (fun hs_ => fun e_ => Nat.not_le.2 hs_ (Kd.R_base HO_8.out k_ e_.symm)) (fun hn_ => (Kd.fresh' (Kd.R_lt (Kd.pR HO_8.out)) k_ hn_)), Or.elim hk_ (fun hs_ => fun e_ => Nat.not_le.2 hs_ (Kd.R_base HO_9.out k_ e_.symm)) (fun hn_ => (Kd.fresh' (Kd.R_lt (Kd.pR HO_9.out)) k_ hn_)), Or.elim hk_ (fun hs_ => fun e_ => Nat.not_le.2 hs_ (by rw [e_]; exact GW298.out)) (fun hn_ => (Kd.freshB (pk BK298.out) k_ hn_))⟩)) (bz_ bl_)); have n4_ := ak_ (blk_below (pk BK298.out) hb); have n5_ := ak_ (bs_ bl_ hb); clear HO_7; clear HO_8; clear HO_9; clear BK298; clear HB; have HO_7 := n0_; have HO_8 := n1_; have HO_9 := n2_; have HO311 := n3_; have BK298 := n4_; have HB := n5_; clear n0_ n1_ n2_ n3_ n4_ n5_; (try clear hb); (try clear hb2); (try clear hk); (try clear hi); (try clear ho0); obtain ⟨Ao36, co36, eo36⟩ := Kd.V_slice HO311.out; subst eo36) | ((with_reducible refine gate_callee (f := 92) rfl ?_); refine goesL_ (some 43) rfl rfl Try.func92 (by kernel_rfl) rfl #[.agg #[.slice Ao36 t309.length co36, .int .i64 t312]] rfl (by first | rfl | (simp only [map_toArray, map_cons, map_nil]; try rfl)) ?_; (with_reducible refine (spec_paLast.calls k1 _ _ t309 t312 t313 t316 _ ?side1 ?side2 A27.out).mono ?_); (case side1 => repeat (first | exact (Kd.V_reads' HO311.out).2.2 | (with_reducible refine Kd.C_alloc ?_ _) | (with_reducible refine Kd.C_drewN ?_ _) | (with_reducible refine Kd.C_drew ?_))); (case side2 => exact (Kd.V_reads' HO311.out).2.1); rintro e w37 ⟨v314, rfl, ho0, hb⟩; refine ⟨_, rfl, ?_⟩; have n0_ := ak_ (Kd.R_below (Kd.pR HO_7.out) hb); have n1_ := ak_ (Kd.R_below (Kd.pR HO_8.out) hb); have n2_ := ak_ (Kd.R_elder' (Kd.pR HO_9.out) (Kd.R_base ho0) hb); have n3_ := ak_ (Kd.V_elder' (Kd.pV HO311.out) (Kd.R_base ho0) hb); have n4_ := ak_ (Kd.R_lower (Kd.R_new' ho0 (Kd.R_lt (Kd.pR HO_9.out))) (bz_ bl_)); have n5_ := ak_ (blk_below (pk BK298.out) hb); have n6_ := ak_ (bs_ bl_ hb); clear HO_7; clear HO_8; clear HO_9; clear HO311; clear BK298; clear HB; have HO_7 := n0_; have HO_8 := n1_; have HO_9 := n2_; have HO311 := n3_; have HO315 := n4_; have BK298 := n5_; have HB := n6_; clear n0_ n1_ n2_ n3_ n4_ n5_ n6_; (try clear hb); (try clear hb2); (try clear hk); (try clear hi); (try clear ho0); obtain ⟨Ao38, co38, eo38⟩ := Kd.R_slice HO315.out; subst eo38) | ((with_reducible refine gate_callee (f := 91) rfl ?_); refine goesL_ (some 44) rfl rfl Try.func91 (by kernel_rfl) rfl #[.agg #[.slice Ao38 t313.length co38, .bool t316]] rfl (by first | rfl | (simp only [map_toArray, map_cons, map_nil]; try rfl)) ?_; (with_reducible refine (spec_seIndex.calls k1 _ _ t313 t316 t317 _ ?side1 ?side2 A28.out).mono ?_); (case side1 => repeat (first | exact (Kd.R_reads' HO315.out).2.2 | (with_reducible refine Kd.C_alloc ?_ _) | (with_reducible refine Kd.C_drewN ?_ _) | (with_reducible refine Kd.C_drew ?_))); (case side2 => exact (Kd.R_reads' HO315.out).2.1); rintro e w39 ⟨rfl, hb⟩; refine ⟨_, rfl, ?_⟩; have n0_ := ak_ (Kd.R_below (Kd.pR HO_7.out) hb); have n1_ := ak_ (Kd.R_below (Kd.pR HO_8.out) hb); have n2_ := ak_ (Kd.R_below (Kd.pR HO_9.out) hb); have n3_ := ak_ (Kd.V_below (Kd.pV HO311.out) hb); have n4_ := ak_ (Kd.R_below (Kd.pR HO315.out) hb); have n5_ := ak_ (blk_below (pk BK298.out) hb); have n6_ := ak_ (bs_ bl_ hb); clear HO_7; clear HO_8; clear HO_9; clear HO311; clear HO315; clear BK298; clear HB; have HO_7 := n0_; have HO_8 := n1_; have HO_9 := n2_; have HO311 := n3_; have HO315 := n4_; have BK298 := n5_; have HB := n6_; clear n0_ n1_ n2_ n3_ n4_ n5_ n6_; (try clear hb); (try clear hb2); (try clear hk); (try clear hi); have p31 : 0 ≤ (t317 : Int) := odt_ (by assumption); have q31 : (t317 : Int) < ((x7_1.length : Int) : Int) := odt_ (by assumption); obtain ⟨go31, co31, eo31, gb31, gl31, cl31, HG31⟩ := Kd.R_form HO_7.out (by omega); (first | cases eo31 | (injection eo31 with ea_ en_ ec_; (first | subst ea_ | (injection ea_ with ea_; subst ea_)); subst ec_; clear en_)); have GB31 := ak_ gb31; have GG31 := ak_ HG31; clear gb31 gl31 HG31; obtain ⟨hx31_0, hf31_0⟩ := Kd.R_celln 0 HO_7.out (t317 : Int) p31 q31; replace p31 := eq_true p31; replace q31 := eq_true q31; obtain ⟨hy40_, hz40_⟩ := Kd.R_celln 0 HO_7.out (t317 : Int) (odt_ (by assumption)) (odt_ (by assumption)); have HP40 := Kd.R_putg HO_7.out (t317 : Int) 0) | ((with_reducible refine gate_store (t := 3) (p := 47) rfl ?_); refine store_event (t := 3) (p := 47) (v := ?vo_w41) (w1 := (w39.setCell ⟨go31, (t317 : Int).toNat, none⟩ (.int .i64 0))) ?hg ?ho ?hn ?hr ?_; (case ho => rfl); (case hg => rfl); (case hn => rfl); (case hr => go_simp <;> rfl); intro w41 hw; have hg : w39.grownBy w41 (some go31) := (by rw [hw]; exact HP40.2); have hp_ : Kd.R (Kd.int .i64) 3 w41 w.heap.size (fun k_ => some k_ ≠ (v303 : Value).ownBlock) (.slice (some ⟨go31, 0, none⟩) x7_1.length co19) y318 := (by rw [hw, Ny318.out]; exact HP40.1); clear HP40; have n0_ := ak_ (hp_); have n1_ := ak_ (Kd.R_after (v := (.slice (some ⟨go31, 0, none⟩) x7_1.length co19)) (v1 := (.slice (some ⟨go31, 0, none⟩) x7_1.length co19)) (ok := (fun _ => True)) (by (with_reducible repeat (first | apply Kd.R_alloc | apply Kd.R_drewN | apply Kd.R_drew)); exact Kd.R_mono HO_8.out (fun _ hk => ⟨trivial, hk⟩)) hg (.inl rfl)); have n2_ := ak_ (Kd.R_over' (v := (.slice (some ⟨go31, 0, none⟩) x7_1.length co19)) (Kd.pR HO_9.out) (Kd.R_typed HO_7.out) (by decide) hg); have n3_ := ak_ (blk_grown (pk BK298.out) hg (Kd.R_ne HO_7.out BK298.out (by decide))); have n4_ := ak_ (Kd.V_afterv (v := (.slice (some ⟨go31, 0, none⟩) x7_1.length co19)) (v1 := (.slice (some ⟨go31, 0, none⟩) x7_1.length co19)) (ok := (fun k_ => some k_ ≠ (v303 : Value).ownBlock ∧ some k_ ≠ (v306 : Value).ownBlock ∧ some k_ ≠ (.slice Ao38 t313.length co38 : Value).ownBlock ∧ k_ ≠ gb298)) (by (with_reducible repeat (first | apply Kd.V_alloc | apply Kd.V_drewN | apply Kd.V_drew)); exact Kd.V_mono HO311.out (fun _ hk => ⟨⟨hk.1.2.1, ⟨hk.1.2.2.1, ⟨hk.2, hk.1.2.2.2⟩⟩⟩, hk.1.1⟩)) hg (.inl rfl)); have n5_ := ak_ (Kd.R_over' (v := (.slice (some ⟨go31, 0, none⟩) x7_1.length co19)) (Kd.pR HO315.out) (Kd.R_typed HO_7.out) (by decide) hg); have n6_ := ak_ ((by rw [hw]; exact below_set (HB.out) GB31.out : Below w.heap.size w w41)); clear HO_7; clear HO_8; clear HO_9; clear BK298; clear HO311; clear HO315; clear HB; have HO_7 := n0_; have HO_8 := n1_; have HO_9 := n2_; have BK298 := n3_; have HO311 := n4_; have HO315 := n5_; have HB := n6_; clear n0_ n1_ n2_ n3_ n4_ n5_ n6_; clear hg hw hp_; have p33 : 0 ≤ (t317 : Int) := odt_ (by assumption); have q33 : (t317 : Int) < ((y302.length : Int) : Int) := odt_ (by assumption); obtain ⟨go33, co33, eo33, gb33, gl33, cl33, HG33⟩ := Kd.R_form HO_8.out (by omega); (first | cases eo33 | (injection eo33 with ea_ en_ ec_; (first | subst ea_ | (injection ea_ with ea_; subst ea_)); subst ec_; clear en_)); have GB33 := ak_ gb33; have GG33 := ak_ HG33; clear gb33 gl33 HG33; obtain ⟨hx33_0, hf33_0⟩ := Kd.R_celln 0 HO_8.out (t317 : Int) p33 q33; replace p33 := eq_true p33; replace q33 := eq_true q33; have n_ := ak_ (Kd.R_mono (ok' := (fun k_ => some k_ ≠ (.slice (some ⟨go31, 0, none⟩) x7_1.length co19 : Value).ownBlock)) HO_8.out (fun k_ hk => hk.2)); clear HO_8; have HO_8 := n_; clear n_; obtain ⟨hy42_, hz42_⟩ := Kd.R_celln 0 HO_8.out (t317 : Int) (odt_ (by assumption)) (odt_ (by assumption)); have HP42 := Kd.R_putg HO_8.out (t317 : Int) 1) | ((with_reducible refine gate_store (t := 3) (p := 50) rfl ?_); refine store_event (t := 3) (p := 50) (v := ?vo_w43) (w1 := (w41.setCell ⟨go33, (t317 : Int).toNat, none⟩ (.int .i64 1))) ?hg ?ho ?hn ?hr ?_; (case ho => rfl); (case hg => rfl); (case hn => rfl); (case hr => go_simp <;> rfl); intro w43 hw; have hg : w41.grownBy w43 (some go33) := (by rw [hw]; exact HP42.2); have hp_ : Kd.R (Kd.int .i64) 3 w43 w.heap.size (fun k_ => some k_ ≠ (.slice (some ⟨go31, 0, none⟩) x7_1.length co19 : Value).ownBlock) (.slice (some ⟨go33, 0, none⟩) y302.length co33) y319 := (by rw [hw, Ny319.out]; exact HP42.1); clear HP42; have n0_ := ak_ (Kd.R_after (v := (.slice (some ⟨go33, 0, none⟩) y302.length co33)) (v1 := (.slice (some ⟨go33, 0, none⟩) y302.length co33)) (ok := (fun _ => True)) (by (with_reducible repeat (first | apply Kd.R_alloc | apply Kd.R_drewN | apply Kd.R_drew)); exact Kd.R_mono HO_7.out (fun _ hk => ⟨trivial, hk⟩)) hg (.inl rfl)); have n1_ := ak_ (hp_); have n2_ := ak_ (Kd.R_over' (v := (.slice (some ⟨go33, 0, none⟩) y302.length co33)) (Kd.pR HO_9.out) (Kd.R_typed HO_8.out) (by decide) hg); have n3_ := ak_ (blk_grown (pk BK298.out) hg (Kd.R_ne HO_8.out BK298.out (by decide))); have n4_ := ak_ (Kd.V_afterv (v := (.slice (some ⟨go33, 0, none⟩) y302.length co33)) (v1 := (.slice (some ⟨go33, 0, none⟩) y302.length co33)) (ok := (fun k_ => some k_ ≠ (.slice (some ⟨go31, 0, none⟩) x7_1.length co19 : Value).ownBlock ∧ some k_ ≠ (v306 : Value).ownBlock ∧ some k_ ≠ (.slice Ao38 t313.length co38 : Value).ownBlock ∧ k_ ≠ gb298)) (by (with_reducible repeat (first | apply Kd.V_alloc | apply Kd.V_drewN | apply Kd.V_drew)); exact Kd.V_mono HO311.out (fun _ hk => ⟨⟨hk.2, ⟨hk.1.2.1, ⟨hk.1.2.2.1, hk.1.2.2.2⟩⟩⟩, hk.1.1⟩)) hg (.inl rfl)); have n5_ := ak_ (Kd.R_over' (v := (.slice (some ⟨go33, 0, none⟩) y302.length co33)) (Kd.pR HO315.out) (Kd.R_typed HO_8.out) (by decide) hg); have n6_ := ak_ ((by rw [hw]; exact below_set (HB.out) GB33.out : Below w.heap.size w w43)); clear HO_7; clear HO_8; clear HO_9; clear BK298; clear HO311; clear HO315; clear HB; have HO_7 := n0_; have HO_8 := n1_; have HO_9 := n2_; have BK298 := n3_; have HO311 := n4_; have HO315 := n5_; have HB := n6_; clear n0_ n1_ n2_ n3_ n4_ n5_ n6_; clear hg hw hp_))
          go_loopg [] k1 (fun kq w' => ∃ (x7_2 : List Int) (x8_2 : List Int) (x9_2 : List Bool), Aside0 (spec_loFar.l1 kq a1 (l0_0.length : Int) x7_2 x8_2 x9_2 l0_0 l0_1 a0_2 = some (r1, r2)) ∧ Aside0 (kq ≤ k1) ∧ Aside0 (Kd.R (Kd.int .i64) 3 w' w.heap.size (fun k_ => some k_ ≠ ((.slice (some ⟨go33, 0, none⟩) y302.length co33) : Value).ownBlock) (.slice (some ⟨go31, 0, none⟩) x7_1.length co19) x7_2) ∧ Aside0 (Kd.R (Kd.int .i64) 3 w' w.heap.size (fun k_ => some k_ ≠ ((.slice (some ⟨go31, 0, none⟩) x7_1.length co19) : Value).ownBlock) (.slice (some ⟨go33, 0, none⟩) y302.length co33) x8_2) ∧ Aside0 (Kd.R Kd.bool 4 w' w.heap.size (fun _ => True) v306 x9_2) ∧ Aside0 (w'.heap[gb298]? = some (.cells #[(.slice A0_0 l0_0.length c0_0), (.slice A0_1 l0_1.length c0_1), .int .i64 a0_2] 43 (0, 0))) ∧ Aside0 (Below w.heap.size w w'))
          case atStart => exact ⟨(y318), (y319), (y305), H', ⟨Nat.le_refl _⟩, ⟨by (try simp only [hl7_1]); (with_reducible repeat (first | apply Kd.R_alloc | apply Kd.R_drewN | apply Kd.R_drew)); exact Kd.R_mono HO_7.out (fun _ hk => hk.2)⟩, ⟨by (try simp only [hl7_1]); exact Kd.pR HO_8.out⟩, ⟨by (try simp only [hl7_1]); (with_reducible repeat (first | apply Kd.R_alloc | apply Kd.R_drewN | apply Kd.R_drew)); exact Kd.R_mono HO_9.out (fun _ hk => trivial)⟩, ⟨by (try simp only [hl7_1]); exact pk BK298.out⟩, ⟨by repeat (first | exact HB.out | apply ba_ | apply bN_ | apply b1_ | refine below_set ?_ GE298.out)⟩⟩
          case round =>
           clear H'
           try clear c2
           try clear p2
           try clear q2
           try clear hx2
           try clear hf2
           try clear c3
           try clear p3
           try clear q3
           try clear hx3
           try clear hf3
           try clear c4
           try clear c4b0
           try clear c4b1
           try clear c5
           try clear c5b0
           try clear c5b1
           try clear c6
           try clear c6b0
           try clear p6
           try clear c7
           try clear c7b0
           try clear c8
           try clear c8b0
           try clear c8b1
           try clear c9
           try clear c20
           try clear c20b0
           try clear c21
           try clear c21b0
           try clear c22
           try clear c22b0
           try clear p23
           try clear q23
           try clear hx23
           try clear hf23
           try clear c29
           try clear c29b0
           try clear c30
           try clear c30b0
           try clear p31
           try clear q31
           try clear hx31
           try clear hf31
           try clear c32
           try clear c32b0
           try clear p33
           try clear q33
           try clear hx33
           try clear hf33
           try clear hcz10_0
           try clear hcz10_1
           try clear hcz10_2
           try clear hcz34_0
           try clear hcz34_1
           try clear hcz34_2
           try clear hfz10_0
           try clear hfz10_1
           try clear hfz10_2
           try clear hfz34_0
           try clear hfz34_1
           try clear hfz34_2
           try clear hx23_0
           try clear hx31_0
           try clear hx33_0
           try clear p2
           try clear p23
           try clear p31
           try clear p33
           try clear p6
           try clear q23
           try clear q31
           try clear q33
           obtain ⟨x7_2, x8_2, x9_2, HA, HK2, HO_7, HO_8, HO_9, BK298, HB⟩ := hrel
           have hl7_2 := (Kd.R_reads' HO_7.out).1
           rw [hl7_2] at HO_7
           (try simp only [hl7_2])
           (try simp only [hl7_2] at BK298)
           (try simp only [hl7_2] at HO_8)
           (try simp only [hl7_2] at HO_9)
           have hl8_2 := (Kd.R_reads' HO_8.out).1
           rw [hl8_2] at HO_8
           (try simp only [hl8_2])
           (try simp only [hl8_2] at BK298)
           (try simp only [hl8_2] at HO_7)
           (try simp only [hl8_2] at HO_9)
           cases gk with
           | zero => exact absurd HA.out (by simp [spec_loFar.l1])
           | succ k2 =>
            have H := HA.out
            clear HA
            simp only [spec_loFar.l1] at H
            have H' := ak_ H
            clear H
            go_wp2
            go_loopg [12, 53] k2 (fun kq v12 v53 w' => ∃ (x12_3 : Int) (x53_3 : Int), v12 = .int .i64 x12_3 ∧ v53 = .int .i64 x53_3 ∧ Aside0 (spec_loFar.l2 kq a1 (l0_0.length : Int) x7_2 x8_2 x9_2 x12_3 x7_2 (x7_2.length : Int) x53_3 l0_0 l0_1 a0_2 = some (r1, r2)) ∧ Aside0 (kq ≤ k2) ∧ Aside0 (Kd.R (Kd.int .i64) 3 w' w.heap.size (fun k_ => some k_ ≠ ((.slice (some ⟨go33, 0, none⟩) x8_2.length co33) : Value).ownBlock) (.slice (some ⟨go31, 0, none⟩) x7_2.length co19) x7_2) ∧ Aside0 (Kd.R (Kd.int .i64) 3 w' w.heap.size (fun k_ => some k_ ≠ ((.slice (some ⟨go31, 0, none⟩) x7_2.length co19) : Value).ownBlock ∧ some k_ ≠ ((.slice (some ⟨go31, 0, none⟩) x7_2.length co19) : Value).ownBlock) (.slice (some ⟨go33, 0, none⟩) x8_2.length co33) x8_2) ∧ Aside0 (Kd.R Kd.bool 4 w' w.heap.size (fun _ => True) v306 x9_2) ∧ Aside0 (Kd.R (Kd.int .i64) 3 w' w.heap.size (fun k_ => some k_ ≠ ((.slice (some ⟨go33, 0, none⟩) x8_2.length co33) : Value).ownBlock) (.slice (some ⟨go31, 0, none⟩) x7_2.length co19) x7_2) ∧ Aside0 (w'.heap[gb298]? = some (.cells #[(.slice A0_0 l0_0.length c0_0), (.slice A0_1 l0_1.length c0_1), .int .i64 a0_2] 43 (0, 0))) ∧ Aside0 (Below w.heap.size w w'))
            case atStart => exact ⟨((-1)), (0), (ry_), (ry_), H', ⟨Nat.le_refl _⟩, ⟨by (try simp only [hl7_1, hl7_2, hl8_2]); exact Kd.pR HO_7.out⟩, ⟨by (try simp only [hl7_1, hl7_2, hl8_2]); (with_reducible repeat (first | apply Kd.R_alloc | apply Kd.R_drewN | apply Kd.R_drew)); exact Kd.R_mono HO_8.out (fun _ hk => ⟨hk, hk⟩)⟩, ⟨by (try simp only [hl7_1, hl7_2, hl8_2]); exact Kd.pR HO_9.out⟩, ⟨by (try simp only [hl7_1, hl7_2, hl8_2]); exact Kd.pR HO_7.out⟩, ⟨by (try simp only [hl7_1, hl7_2, hl8_2]); exact pk BK298.out⟩, ⟨by repeat (first | exact HB.out | apply ba_ | apply bN_ | apply b1_ | refine below_set ?_ GE298.out)⟩⟩
            case round =>
             clear H'
             try clear c2
             try clear p2
             try clear q2
             try clear hx2
             try clear hf2
             try clear c3
             try clear p3
             try clear q3
             try clear hx3
             try clear hf3
             try clear c4
             try clear c4b0
             try clear c4b1
             try clear c5
             try clear c5b0
             try clear c5b1
             try clear c6
             try clear c6b0
             try clear p6
             try clear c7
             try clear c7b0
             try clear c8
             try clear c8b0
             try clear c8b1
             try clear c9
             try clear c20
             try clear c20b0
             try clear c21
             try clear c21b0
             try clear c22
             try clear c22b0
             try clear p23
             try clear q23
             try clear hx23
             try clear hf23
             try clear c29
             try clear c29b0
             try clear c30
             try clear c30b0
             try clear p31
             try clear q31
             try clear hx31
             try clear hf31
             try clear c32
             try clear c32b0
             try clear p33
             try clear q33
             try clear hx33
             try clear hf33
             try clear hcz10_0
             try clear hcz10_1
             try clear hcz10_2
             try clear hcz34_0
             try clear hcz34_1
             try clear hcz34_2
             try clear hfz10_0
             try clear hfz10_1
             try clear hfz10_2
             try clear hfz34_0
             try clear hfz34_1
             try clear hfz34_2
             try clear hx23_0
             try clear hx31_0
             try clear hx33_0
             try clear p2
             try clear p23
             try clear p3
             try clear p31
             try clear p33
             try clear p6
             try clear q2
             try clear q23
             try clear q3
             try clear q31
             try clear q33
             obtain ⟨x12_3, x53_3, rfl, rfl, HA, HK3, HO_7, HO_8, HO_9, HO_51, BK298, HB⟩ := hrel
             cases gk with
             | zero => exact absurd HA.out (by simp [spec_loFar.l2])
             | succ k3 =>
              have H := HA.out
              clear HA
              simp only [spec_loFar.l2] at H
              by_cases c44 : x53_3 < (x7_2.length : Int)
              ·
               rw [if_pos c44] at H
               have c44b0 : decide (x53_3 < (x7_2.length : Int)) = true := decide_eq_true c44
               clear c44
               by_cases c45 : 0 ≤ x53_3
               ·
                rw [if_pos c45] at H
                have c45b0 : decide (0 ≤ x53_3) = true := decide_eq_true c45
                clear c45
                by_cases c46 : x53_3 < (x7_2.length : Int)
                ·
                 rw [if_pos c46] at H
                 have c46b0 : decide (x53_3 < (x7_2.length : Int)) = true := decide_eq_true c46
                 clear c46
                 have HC47 := ak_ H
                 clear H
                 have p320 : 0 ≤ (x53_3 : Int) := odt_ (by assumption)
                 have q320 : x53_3 < (x7_2.length : Int) := odt_ (by assumption)
                 obtain ⟨ad320, e320, hx320_0⟩ := Kd.at_int (Kd.R_reads' HO_51.out).2.2 x53_3 p320 q320
                 obtain rfl : (⟨go31, 0, none⟩ : Addr) = ad320 := (by injection e320)
                 (first | simp only [add_plain] at hx320_0 | simp only [add_at] at hx320_0 | simp only [Addr.add, Nat.zero_add] at hx320_0 | skip)
                 replace p320 := eq_true p320
                 replace q320 := eq_true q320
                 go_upto_region 16 with (fail)
                 have H := HC47.out
                 clear HC47
                 by_cases c48 : x53_3 < (x9_2.length : Int)
                 ·
                  rw [if_pos c48] at H
                  have c48b0 : decide (x53_3 < (x9_2.length : Int)) = true := decide_eq_true c48
                  clear c48
                  obtain ⟨bq49, hbq49⟩ : ∃ b_ : Bool, b_ = (rdOf false x9_2 x53_3) := ⟨_, rfl⟩
                  replace H : (if bq49 = true then (spec_loFar.l2 k3 a1 (l0_0.length : Int) x7_2 x8_2 x9_2 x12_3 x7_2 (x7_2.length : Int) (wrap64 (x53_3 + 1)) l0_0 l0_1 a0_2) else (if (rd x7_2 x53_3) ≥ 0 then (if x12_3 < 0 then (spec_loFar.l2 k3 a1 (l0_0.length : Int) x7_2 x8_2 x9_2 x53_3 x7_2 (x7_2.length : Int) (wrap64 (x53_3 + 1)) l0_0 l0_1 a0_2) else (if 0 ≤ x12_3 then (if x12_3 < (x7_2.length : Int) then (if (rd x7_2 x53_3) < (rd x7_2 x12_3) then (spec_loFar.l2 k3 a1 (l0_0.length : Int) x7_2 x8_2 x9_2 x53_3 x7_2 (x7_2.length : Int) (wrap64 (x53_3 + 1)) l0_0 l0_1 a0_2) else (spec_loFar.l2 k3 a1 (l0_0.length : Int) x7_2 x8_2 x9_2 x12_3 x7_2 (x7_2.length : Int) (wrap64 (x53_3 + 1)) l0_0 l0_1 a0_2)) else (none)) else (none))) else (spec_loFar.l2 k3 a1 (l0_0.length : Int) x7_2 x8_2 x9_2 x12_3 x7_2 (x7_2.length : Int) (wrap64 (x53_3 + 1)) l0_0 l0_1 a0_2))) = some (r1, r2) := by rw [← hbq49] at H; exact H
                  have Nbq49 := ak_ hbq49
                  clear hbq49
                  by_cases c50 : bq49 = true
                  ·
                   subst c50
                   have H1 : (spec_loFar.l2 k3 a1 (l0_0.length : Int) x7_2 x8_2 x9_2 x12_3 x7_2 (x7_2.length : Int) (wrap64 (x53_3 + 1)) l0_0 l0_1 a0_2) = some (r1, r2) := by rw [if_pos rfl] at H; exact H
                   clear H
                   have H := H1
                   clear H1
                   have H' := ak_ H
                   clear H
                   obtain ⟨Ao51, co51, eo51⟩ := Kd.R_slice HO_9.out
                   subst eo51
                   have p321 : 0 ≤ (x53_3 : Int) := odt_ (by assumption)
                   have q321 : x53_3 < (x9_2.length : Int) := odt_ (by assumption)
                   obtain ⟨ad321, e321, hx321_0⟩ := Kd.at_bool (Kd.R_reads' HO_9.out).2.2 x53_3 p321 q321
                   (try rw [← Nbq49.out] at hx321_0)
                   cases e321
                   replace p321 := eq_true p321
                   replace q321 := eq_true q321
                   go_wp2
                   go_roundg k3
                   case measure => have := HK1.out; have := HK2.out; have := HK3.out; omega
                   case rel => exact ⟨(x12_3), (wrap64 (x53_3 + 1)), (ry_), (ry_), H', ⟨by have := HK1.out; have := HK2.out; have := HK3.out; omega⟩, ⟨by (try simp only [hl7_1, hl7_2, hl8_2]); exact Kd.pR HO_7.out⟩, ⟨by (try simp only [hl7_1, hl7_2, hl8_2]); exact Kd.pR HO_8.out⟩, ⟨by (try simp only [hl7_1, hl7_2, hl8_2]); exact Kd.pR HO_9.out⟩, ⟨by (try simp only [hl7_1, hl7_2, hl8_2]); exact Kd.pR HO_51.out⟩, ⟨by (try simp only [hl7_1, hl7_2, hl8_2]); exact pk BK298.out⟩, ⟨by repeat (first | exact HB.out | apply ba_ | apply bN_ | apply b1_ | refine below_set ?_ GE298.out)⟩⟩
                  ·
                   replace c50 := Bool.eq_false_iff.mpr c50
                   subst c50
                   have H1 : (if (rd x7_2 x53_3) ≥ 0 then (if x12_3 < 0 then (spec_loFar.l2 k3 a1 (l0_0.length : Int) x7_2 x8_2 x9_2 x53_3 x7_2 (x7_2.length : Int) (wrap64 (x53_3 + 1)) l0_0 l0_1 a0_2) else (if 0 ≤ x12_3 then (if x12_3 < (x7_2.length : Int) then (if (rd x7_2 x53_3) < (rd x7_2 x12_3) then (spec_loFar.l2 k3 a1 (l0_0.length : Int) x7_2 x8_2 x9_2 x53_3 x7_2 (x7_2.length : Int) (wrap64 (x53_3 + 1)) l0_0 l0_1 a0_2) else (spec_loFar.l2 k3 a1 (l0_0.length : Int) x7_2 x8_2 x9_2 x12_3 x7_2 (x7_2.length : Int) (wrap64 (x53_3 + 1)) l0_0 l0_1 a0_2)) else (none)) else (none))) else (spec_loFar.l2 k3 a1 (l0_0.length : Int) x7_2 x8_2 x9_2 x12_3 x7_2 (x7_2.length : Int) (wrap64 (x53_3 + 1)) l0_0 l0_1 a0_2)) = some (r1, r2) := by rw [if_neg (show ¬ (false = true) by decide)] at H; exact H
                   clear H
                   have H := H1
                   clear H1
                   by_cases c52 : (rd x7_2 x53_3) ≥ 0
                   ·
                    rw [if_pos c52] at H
                    have c52b0 : decide (0 ≤ (rd x7_2 x53_3)) = true := decide_eq_true c52
                    clear c52
                    by_cases c53 : x12_3 < 0
                    ·
                     rw [if_pos c53] at H
                     have c53b0 : decide (x12_3 < 0) = true := decide_eq_true c53
                     clear c53
                     have H' := ak_ H
                     clear H
                     obtain ⟨Ao54, co54, eo54⟩ := Kd.R_slice HO_9.out
                     subst eo54
                     have p321 : 0 ≤ (x53_3 : Int) := odt_ (by assumption)
                     have q321 : x53_3 < (x9_2.length : Int) := odt_ (by assumption)
                     obtain ⟨ad321, e321, hx321_0⟩ := Kd.at_bool (Kd.R_reads' HO_9.out).2.2 x53_3 p321 q321
                     (try rw [← Nbq49.out] at hx321_0)
                     cases e321
                     replace p321 := eq_true p321
                     replace q321 := eq_true q321
                     go_wp2
                     go_roundg k3
                     case measure => have := HK1.out; have := HK2.out; have := HK3.out; omega
                     case rel => exact ⟨(x53_3), (wrap64 (x53_3 + 1)), (ry_), (ry_), H', ⟨by have := HK1.out; have := HK2.out; have := HK3.out; omega⟩, ⟨by (try simp only [hl7_1, hl7_2, hl8_2]); exact Kd.pR HO_7.out⟩, ⟨by (try simp only [hl7_1, hl7_2, hl8_2]); exact Kd.pR HO_8.out⟩, ⟨by (try simp only [hl7_1, hl7_2, hl8_2]); exact Kd.pR HO_9.out⟩, ⟨by (try simp only [hl7_1, hl7_2, hl8_2]); exact Kd.pR HO_51.out⟩, ⟨by (try simp only [hl7_1, hl7_2, hl8_2]); exact pk BK298.out⟩, ⟨by repeat (first | exact HB.out | apply ba_ | apply bN_ | apply b1_ | refine below_set ?_ GE298.out)⟩⟩
                    ·
                     rw [if_neg c53] at H
                     have c53b0 : decide (x12_3 < 0) = false := decide_eq_false c53
                     clear c53
                     by_cases c55 : 0 ≤ x12_3
                     ·
                      rw [if_pos c55] at H
                      have c55b0 : decide (0 ≤ x12_3) = true := decide_eq_true c55
                      clear c55
                      by_cases c56 : x12_3 < (x7_2.length : Int)
                      ·
                       rw [if_pos c56] at H
                       have c56b0 : decide (x12_3 < (x7_2.length : Int)) = true := decide_eq_true c56
                       clear c56
                       have HC57 := ak_ H
                       clear H
                       obtain ⟨Ao58, co58, eo58⟩ := Kd.R_slice HO_9.out
                       subst eo58
                       have p321 : 0 ≤ (x53_3 : Int) := odt_ (by assumption)
                       have q321 : x53_3 < (x9_2.length : Int) := odt_ (by assumption)
                       obtain ⟨ad321, e321, hx321_0⟩ := Kd.at_bool (Kd.R_reads' HO_9.out).2.2 x53_3 p321 q321
                       (try rw [← Nbq49.out] at hx321_0)
                       cases e321
                       replace p321 := eq_true p321
                       replace q321 := eq_true q321
                       have p322 : 0 ≤ (x12_3 : Int) := odt_ (by assumption)
                       have q322 : x12_3 < (x7_2.length : Int) := odt_ (by assumption)
                       obtain ⟨ad322, e322, hx322_0⟩ := Kd.at_int (Kd.R_reads' HO_7.out).2.2 x12_3 p322 q322
                       obtain rfl : (⟨go31, 0, none⟩ : Addr) = ad322 := (by injection e322)
                       (first | simp only [add_plain] at hx322_0 | simp only [add_at] at hx322_0 | simp only [Addr.add, Nat.zero_add] at hx322_0 | skip)
                       replace p322 := eq_true p322
                       replace q322 := eq_true q322
                       go_upto_if 78 with (fail)
                       have H := HC57.out
                       clear HC57
                       by_cases c59 : (rd x7_2 x53_3) < (rd x7_2 x12_3)
                       ·
                        rw [if_pos c59] at H
                        have c59b0 : decide ((rd x7_2 x53_3) < (rd x7_2 x12_3)) = true := decide_eq_true c59
                        clear c59
                        (first | rw [c59b0] | (simp only [i64_w, i32_w]; rw [c59b0]) | rw [c59b1] | skip)
                        have H' := ak_ H
                        clear H
                        go_wp2
                        go_roundg k3
                        case measure => have := HK1.out; have := HK2.out; have := HK3.out; omega
                        case rel => exact ⟨(x53_3), (wrap64 (x53_3 + 1)), (ry_), (ry_), H', ⟨by have := HK1.out; have := HK2.out; have := HK3.out; omega⟩, ⟨by (try simp only [hl7_1, hl7_2, hl8_2]); exact Kd.pR HO_7.out⟩, ⟨by (try simp only [hl7_1, hl7_2, hl8_2]); exact Kd.pR HO_8.out⟩, ⟨by (try simp only [hl7_1, hl7_2, hl8_2]); exact Kd.pR HO_9.out⟩, ⟨by (try simp only [hl7_1, hl7_2, hl8_2]); exact Kd.pR HO_51.out⟩, ⟨by (try simp only [hl7_1, hl7_2, hl8_2]); exact pk BK298.out⟩, ⟨by repeat (first | exact HB.out | apply ba_ | apply bN_ | apply b1_ | refine below_set ?_ GE298.out)⟩⟩
                       ·
                        rw [if_neg c59] at H
                        have c59b0 : decide ((rd x7_2 x53_3) < (rd x7_2 x12_3)) = false := decide_eq_false c59
                        clear c59
                        (first | rw [c59b0] | (simp only [i64_w, i32_w]; rw [c59b0]) | rw [c59b1] | skip)
                        have H' := ak_ H
                        clear H
                        go_wp2
                        go_roundg k3
                        case measure => have := HK1.out; have := HK2.out; have := HK3.out; omega
                        case rel => exact ⟨(x12_3), (wrap64 (x53_3 + 1)), (ry_), (ry_), H', ⟨by have := HK1.out; have := HK2.out; have := HK3.out; omega⟩, ⟨by (try simp only [hl7_1, hl7_2, hl8_2]); exact Kd.pR HO_7.out⟩, ⟨by (try simp only [hl7_1, hl7_2, hl8_2]); exact Kd.pR HO_8.out⟩, ⟨by (try simp only [hl7_1, hl7_2, hl8_2]); exact Kd.pR HO_9.out⟩, ⟨by (try simp only [hl7_1, hl7_2, hl8_2]); exact Kd.pR HO_51.out⟩, ⟨by (try simp only [hl7_1, hl7_2, hl8_2]); exact pk BK298.out⟩, ⟨by repeat (first | exact HB.out | apply ba_ | apply bN_ | apply b1_ | refine below_set ?_ GE298.out)⟩⟩
                      ·
                       rw [if_neg c56] at H
                       exact absurd H (by simp)
                     ·
                      rw [if_neg c55] at H
                      exact absurd H (by simp)
                   ·
                    rw [if_neg c52] at H
                    have c52b0 : decide (0 ≤ (rd x7_2 x53_3)) = false := decide_eq_false c52
                    clear c52
                    have H' := ak_ H
                    clear H
                    obtain ⟨Ao60, co60, eo60⟩ := Kd.R_slice HO_9.out
                    subst eo60
                    have p321 : 0 ≤ (x53_3 : Int) := odt_ (by assumption)
                    have q321 : x53_3 < (x9_2.length : Int) := odt_ (by assumption)
                    obtain ⟨ad321, e321, hx321_0⟩ := Kd.at_bool (Kd.R_reads' HO_9.out).2.2 x53_3 p321 q321
                    (try rw [← Nbq49.out] at hx321_0)
                    cases e321
                    replace p321 := eq_true p321
                    replace q321 := eq_true q321
                    go_wp2
                    go_roundg k3
                    case measure => have := HK1.out; have := HK2.out; have := HK3.out; omega
                    case rel => exact ⟨(x12_3), (wrap64 (x53_3 + 1)), (ry_), (ry_), H', ⟨by have := HK1.out; have := HK2.out; have := HK3.out; omega⟩, ⟨by (try simp only [hl7_1, hl7_2, hl8_2]); exact Kd.pR HO_7.out⟩, ⟨by (try simp only [hl7_1, hl7_2, hl8_2]); exact Kd.pR HO_8.out⟩, ⟨by (try simp only [hl7_1, hl7_2, hl8_2]); exact Kd.pR HO_9.out⟩, ⟨by (try simp only [hl7_1, hl7_2, hl8_2]); exact Kd.pR HO_51.out⟩, ⟨by (try simp only [hl7_1, hl7_2, hl8_2]); exact pk BK298.out⟩, ⟨by repeat (first | exact HB.out | apply ba_ | apply bN_ | apply b1_ | refine below_set ?_ GE298.out)⟩⟩
                 ·
                  rw [if_neg c48] at H
                  exact absurd H (by simp)
                ·
                 rw [if_neg c46] at H
                 exact absurd H (by simp)
               ·
                rw [if_neg c45] at H
                exact absurd H (by simp)
              ·
               rw [if_neg c44] at H
               have c44b0 : decide (x53_3 < (x7_2.length : Int)) = false := decide_eq_false c44
               clear c44
               by_cases c61 : x12_3 < 0
               ·
                rw [if_pos c61] at H
                have c61b0 : decide (x12_3 < 0) = true := decide_eq_true c61
                clear c61
                simp only [Option.some.injEq, Prod.mk.injEq] at H
                obtain ⟨rfl, rfl⟩ := H
                go_wp2
                go_ret2
                exact ⟨_, _, by first | rfl | (simp [errW_none, errW_some] <;> rfl) | (simp only [← hji3]; first | rfl | (simp [errW_none, errW_some] <;> rfl)) | (simp [*, errW_none, errW_some] <;> rfl), by (with_reducible repeat (first | apply Kd.R_alloc | apply Kd.R_drewN | apply Kd.R_drew)); exact HO_7.out, by (with_reducible repeat (first | apply Kd.R_alloc | apply Kd.R_drewN | apply Kd.R_drew)); exact Kd.R_mono HO_8.out (fun _ hk => hk.1), by repeat (first | exact HB.out | apply ba_ | apply bN_ | apply b1_ | refine below_set ?_ GE298.out)⟩
               ·
                rw [if_neg c61] at H
                have c61b0 : decide (x12_3 < 0) = false := decide_eq_false c61
                clear c61
                by_cases c62 : 0 ≤ x12_3
                ·
                 rw [if_pos c62] at H
                 have c62b0 : decide (0 ≤ x12_3) = true := decide_eq_true c62
                 clear c62
                 by_cases c63 : x12_3 < (x9_2.length : Int)
                 ·
                  rw [if_pos c63] at H
                  have c63b0 : decide (x12_3 < (x9_2.length : Int)) = true := decide_eq_true c63
                  clear c63
                  obtain ⟨y323, hy323⟩ : ∃ y_ : List Bool, y_ = (x9_2.set (x12_3 : Int).toNat true) := ⟨_, rfl⟩
                  replace H : ((spec_seState.f k3 x12_3 (l0_0.length : Int)).bind fun bt324 => ((spec_loRides.f k3 l0_0 l0_1 a0_2 bt324.1 bt324.2).bind fun t329 => (spec_loFar.l3 k3 a1 (l0_0.length : Int) x7_2 x8_2 y323 x12_3 t329 (t329.length : Int) 0 l0_0 l0_1 a0_2 bt324.1 bt324.2))) = some (r1, r2) := by first | (rw [hy323]; exact H) | exact H
                  have Ny323 := ak_ hy323
                  clear hy323
                  replace H := Option.bind_eq_some_iff.mp H
                  obtain ⟨⟨t324, t327⟩, A650, H⟩ := H
                  replace H : ((spec_loRides.f k3 l0_0 l0_1 a0_2 t324 t327).bind fun t329 => (spec_loFar.l3 k3 a1 (l0_0.length : Int) x7_2 x8_2 y323 x12_3 t329 (t329.length : Int) 0 l0_0 l0_1 a0_2 t324 t327)) = some (r1, r2) := H
                  have A65 := ak_ A650
                  clear A650
                  replace H := Option.bind_eq_some_iff.mp H
                  obtain ⟨t329, A660, H⟩ := H
                  replace H : (spec_loFar.l3 k3 a1 (l0_0.length : Int) x7_2 x8_2 y323 x12_3 t329 (t329.length : Int) 0 l0_0 l0_1 a0_2 t324 t327) = some (r1, r2) := H
                  have A66 := ak_ A660
                  clear A660
                  have H' := ak_ H
                  clear H
                  have p64 : 0 ≤ (x12_3 : Int) := odt_ (by assumption)
                  have q64 : (x12_3 : Int) < ((x9_2.length : Int) : Int) := odt_ (by assumption)
                  obtain ⟨go64, co64, eo64, gb64, gl64, cl64, HG64⟩ := Kd.R_form HO_9.out (by omega)
                  (first | cases eo64 | (injection eo64 with ea_ en_ ec_; (first | subst ea_ | (injection ea_ with ea_; subst ea_)); subst ec_; clear en_))
                  have GB64 := ak_ gb64
                  have GG64 := ak_ HG64
                  clear gb64 gl64 HG64
                  obtain ⟨hx64_0, hf64_0⟩ := Kd.R_celln false HO_9.out (x12_3 : Int) p64 q64
                  replace p64 := eq_true p64
                  replace q64 := eq_true q64
                  have HP67 := Kd.R_putg HO_9.out (x12_3 : Int) true
                  go_wp2_with (first | ((with_reducible refine gate_store (t := 4) (p := 87) rfl ?_); refine store_event (t := 4) (p := 87) (v := ?vo_w68) (w1 := (wr.setCell ⟨go64, (x12_3 : Int).toNat, none⟩ (.bool true))) ?hg ?ho ?hn ?hr ?_; (case ho => rfl); (case hg => rfl); (case hn => rfl); (case hr => go_simp <;> rfl); intro w68 hw; have hg : wr.grownBy w68 (some go64) := (by rw [hw]; exact HP67.2); have hp_ : Kd.R Kd.bool 4 w68 w.heap.size (fun _ => True) (.slice (some ⟨go64, 0, none⟩) x9_2.length co64) y323 := (by rw [hw, Ny323.out]; exact HP67.1); clear HP67; have n0_ := ak_ (Kd.R_over' (v := (.slice (some ⟨go64, 0, none⟩) x9_2.length co64)) (Kd.pR HO_7.out) (Kd.R_typed HO_9.out) (by decide) hg); have n1_ := ak_ (Kd.R_over' (v := (.slice (some ⟨go64, 0, none⟩) x9_2.length co64)) (Kd.pR HO_8.out) (Kd.R_typed HO_9.out) (by decide) hg); have n2_ := ak_ (hp_); have n3_ := ak_ (Kd.R_over' (v := (.slice (some ⟨go64, 0, none⟩) x9_2.length co64)) (Kd.pR HO_51.out) (Kd.R_typed HO_9.out) (by decide) hg); have n4_ := ak_ (blk_grown (pk BK298.out) hg (Kd.R_ne HO_9.out BK298.out (by decide))); have n5_ := ak_ ((by rw [hw]; exact below_set (HB.out) GB64.out : Below w.heap.size w w68)); clear HO_7; clear HO_8; clear HO_9; clear HO_51; clear BK298; clear HB; have HO_7 := n0_; have HO_8 := n1_; have HO_9 := n2_; have HO_51 := n3_; have BK298 := n4_; have HB := n5_; clear n0_ n1_ n2_ n3_ n4_ n5_; clear hg hw hp_) | ((with_reducible refine gate_callee (f := 94) rfl ?_); refine goesL_ (some 90) rfl rfl Try.func94 (by kernel_rfl) rfl #[.int .i64 x12_3, .int .i64 (l0_0.length : Int)] rfl (by first | rfl | (simp only [map_toArray, map_cons, map_nil]; try rfl)) ?_; (with_reducible refine (spec_seState.calls k3 x12_3 (l0_0.length : Int) t324 t327 _ A65.out).mono ?_); rintro e w69 ⟨v325, rfl, ho0, hb⟩; refine ⟨_, rfl, ?_⟩; have n0_ := ak_ (Kd.R_below (Kd.pR HO_7.out) hb); have n1_ := ak_ (Kd.R_below (Kd.pR HO_8.out) hb); have n2_ := ak_ (Kd.R_elder' (Kd.pR HO_9.out) (Kd.R_base ho0) hb); have n3_ := ak_ (Kd.R_below (Kd.pR HO_51.out) hb); have n4_ := ak_ (Kd.R_lower (Kd.R_new' ho0 (Kd.R_lt (Kd.pR HO_9.out))) (bz_ bl_)); have n5_ := ak_ (blk_below (pk BK298.out) hb); have n6_ := ak_ (bs_ bl_ hb); clear HO_7; clear HO_8; clear HO_9; clear HO_51; clear BK298; clear HB; have HO_7 := n0_; have HO_8 := n1_; have HO_9 := n2_; have HO_51 := n3_; have HO326 := n4_; have BK298 := n5_; have HB := n6_; clear n0_ n1_ n2_ n3_ n4_ n5_ n6_; (try clear hb); (try clear hb2); (try clear hk); (try clear hi); (try clear ho0)) | ((with_reducible refine gate_dst (N := 15) rfl ?_); refine bx_ 15 #[.slice none 0 0, .bool false] 115 ?_; intro gb328 hg w70 hbox hb; have n0_ := ak_ (Kd.R_below (Kd.pR HO_7.out) hb); have n1_ := ak_ (Kd.R_below (Kd.pR HO_8.out) hb); have n2_ := ak_ (Kd.R_below (Kd.pR HO_9.out) hb); have n3_ := ak_ (Kd.R_below (Kd.pR HO_51.out) hb); have n4_ := ak_ (Kd.R_below (Kd.pR HO326.out) hb); have n5_ := ak_ (blk_below (pk BK298.out) hb); have n6_ := ak_ (bs_ bl_ hb); have n7_ := ak_ (hbox); have n8_ := ak_ ((by rw [hg]; exact (bz_ bl_) : w.heap.size ≤ gb328)); have n9_ := n8_; have n10_ := ak_ ((by rw [hg]; exact Nat.ne_of_lt (blk_lt (pk BK298.out)) : gb298 ≠ gb328)); have n11_ := ak_ n10_.out.symm; clear HO_7; clear HO_8; clear HO_9; clear HO_51; clear HO326; clear BK298; clear HB; have HO_7 := n0_; have HO_8 := n1_; have HO_9 := n2_; have HO_51 := n3_; have HO326 := n4_; have BK298 := n5_; have HB := n6_; have BK328 := n7_; have GW328 := n8_; have GE328 := n9_; have NB298_328 := n10_; have NB328_298 := n11_; clear n0_ n1_ n2_ n3_ n4_ n5_ n6_ n7_ n8_ n9_ n10_ n11_; clear hb hbox hg; obtain ⟨Ao71, co71, eo71⟩ := Kd.R_slice HO326.out; subst eo71; have hnb72 := NB328_298.out; have hnc72 := NB298_328.out; have hcz73_0 : w70.cell? ⟨gb328, 0, none⟩ = some (.slice none 0 0) := (blk_cell BK328.out 0).trans rfl; have hcz73_1 : w70.cell? ⟨gb328, 1, none⟩ = some (.bool false) := (blk_cell BK328.out 1).trans rfl; have hfz73_0 := blk_frozen BK328.out 0; have hfz73_1 := blk_frozen BK328.out 1; have hcz74_0 : w70.cell? ⟨gb298, 0, none⟩ = some (.slice A0_0 l0_0.length c0_0) := (blk_cell BK298.out 0).trans rfl; have hcz74_1 : w70.cell? ⟨gb298, 1, none⟩ = some (.slice A0_1 l0_1.length c0_1) := (blk_cell BK298.out 1).trans rfl; have hcz74_2 : w70.cell? ⟨gb298, 2, none⟩ = some (.int .i64 a0_2) := (blk_cell BK298.out 2).trans rfl; have hfz74_0 := blk_frozen BK298.out 0; have hfz74_1 := blk_frozen BK298.out 1; have hfz74_2 := blk_frozen BK298.out 2) | ((with_reducible refine gate_callee (f := 100) rfl ?_); refine goesL_ (some 93) rfl rfl Try.func100 (by kernel_rfl) rfl #[.agg #[.slice A0_0 l0_0.length c0_0, .slice A0_1 l0_1.length c0_1, .int .i64 a0_2], .agg #[.slice Ao71 t324.length co71, .bool t327]] rfl (by first | rfl | (simp only [map_toArray, map_cons, map_nil]; try rfl)) ?_; (with_reducible refine (spec_loRides.calls k3 _ _ l0_0 _ _ l0_1 a0_2 _ _ t324 t327 t329 _ ?side1 ?side2 ?side3 ?side4 ?side5 ?side6 A66.out).mono ?_); (case side1 => exact Kd.C_below HR0_0.out bl_); (case side2 => exact HC0_0.out); (case side3 => exact Kd.C_below HR0_1.out bl_); (case side4 => exact HC0_1.out); (case side5 => refine (Kd.R_reads' (e := 4) (base := w.heap.size) (ok := fun k_ => (True ∧ some k_ ≠ (.slice (some ⟨go64, 0, none⟩) x9_2.length co64 : Value).ownBlock)) (n := t324.length) (c := co71) ?_).2.2; exact (by (with_reducible repeat (first | apply Kd.R_alloc | apply Kd.R_drewN | apply Kd.R_drew)); exact (Kd.R_mono (Kd.R_far (p := ⟨gb328, 1, none⟩) (Kd.R_far (p := ⟨gb328, 0, none⟩) (Kd.R_types HO326.out BK328.out (by decide)) (fun _ hk => hk.2) (.slice Ao71 t324.length co71)) (fun _ hk => hk.2) (.bool t327)) (fun _ h_ => h_.1)))); (case side6 => exact (Kd.R_reads' HO326.out).2.1); rintro e w75 ⟨v330, rfl, ho0, hb⟩; refine ⟨_, rfl, ?_⟩; have n0_ := ak_ (Kd.R_below (by (with_reducible repeat (first | apply Kd.R_alloc | apply Kd.R_drewN | apply Kd.R_drew)); exact (Kd.R_mono (Kd.R_far (p := ⟨gb328, 1, none⟩) (Kd.R_far (p := ⟨gb328, 0, none⟩) (Kd.R_types HO_7.out BK328.out (by decide)) (fun _ hk => hk.2) (.slice Ao71 t324.length co71)) (fun _ hk => hk.2) (.bool t327)) (fun _ h_ => h_.1))) hb); have n1_ := ak_ (Kd.R_below (by (with_reducible repeat (first | apply Kd.R_alloc | apply Kd.R_drewN | apply Kd.R_drew)); exact (Kd.R_mono (Kd.R_far (p := ⟨gb328, 1, none⟩) (Kd.R_far (p := ⟨gb328, 0, none⟩) (Kd.R_types HO_8.out BK328.out (by decide)) (fun _ hk => hk.2) (.slice Ao71 t324.length co71)) (fun _ hk => hk.2) (.bool t327)) (fun _ h_ => h_.1))) hb); have n2_ := ak_ (Kd.R_below (by (with_reducible repeat (first | apply Kd.R_alloc | apply Kd.R_drewN | apply Kd.R_drew)); exact (Kd.R_mono (Kd.R_far (p := ⟨gb328, 1, none⟩) (Kd.R_far (p := ⟨gb328, 0, none⟩) (Kd.R_types HO_9.out BK328.out (by decide)) (fun _ hk => hk.2) (.slice Ao71 t324.length co71)) (fun _ hk => hk.2) (.bool t327)) (fun _ h_ => h_.1))) hb); have n3_ := ak_ (Kd.R_below (by (with_reducible repeat (first | apply Kd.R_alloc | apply Kd.R_drewN | apply Kd.R_drew)); exact (Kd.R_mono (Kd.R_far (p := ⟨gb328, 1, none⟩) (Kd.R_far (p := ⟨gb328, 0, none⟩) (Kd.R_types HO_51.out BK328.out (by decide)) (fun _ hk => hk.2) (.slice Ao71 t324.length co71)) (fun _ hk => hk.2) (.bool t327)) (fun _ h_ => h_.1))) hb); have n4_ := ak_ (Kd.R_below (by (with_reducible repeat (first | apply Kd.R_alloc | apply Kd.R_drewN | apply Kd.R_drew)); exact (Kd.R_mono (Kd.R_far (p := ⟨gb328, 1, none⟩) (Kd.R_far (p := ⟨gb328, 0, none⟩) (Kd.R_types HO326.out BK328.out (by decide)) (fun _ hk => hk.2) (.slice Ao71 t324.length co71)) (fun _ hk => hk.2) (.bool t327)) (fun _ h_ => h_.1))) hb); have n5_ := ak_ (Kd.N_lower (Kd.N_mono (ok' := fun k_ => some k_ ≠ (.slice (some ⟨go31, 0, none⟩) x7_2.length co19 : Value).ownBlock ∧ some k_ ≠ (.slice (some ⟨go33, 0, none⟩) x8_2.length co33 : Value).ownBlock ∧ some k_ ≠ (.slice (some ⟨go64, 0, none⟩) x9_2.length co64 : Value).ownBlock ∧ some k_ ≠ (.slice (some ⟨go31, 0, none⟩) x7_2.length co19 : Value).ownBlock ∧ some k_ ≠ (.slice Ao71 t324.length co71 : Value).ownBlock ∧ k_ ≠ gb298 ∧ k_ ≠ gb328) ho0 (fun k_ hk_ => ⟨(Kd.fresh' (Kd.R_lt (by (with_reducible repeat (first | apply Kd.R_alloc | apply Kd.R_drewN | apply Kd.R_drew)); exact (Kd.R_mono (Kd.R_far (p := ⟨gb328, 1, none⟩) (Kd.R_far (p := ⟨gb328, 0, none⟩) (Kd.R_types HO_7.out BK328.out (by decide)) (fun _ hk => hk.2) (.slice Ao71 t324.length co71)) (fun _ hk => hk.2) (.bool t327)) (fun _ h_ => h_.1)))) k_ hk_), (Kd.fresh' (Kd.R_lt (by (with_reducible repeat (first | apply Kd.R_alloc | apply Kd.R_drewN | apply Kd.R_drew)); exact (Kd.R_mono (Kd.R_far (p := ⟨gb328, 1, none⟩) (Kd.R_far (p := ⟨gb328, 0, none⟩) (Kd.R_types HO_8.out BK328.out (by decide)) (fun _ hk => hk.2) (.slice Ao71 t324.length co71)) (fun _ hk => hk.2) (.bool t327)) (fun _ h_ => h_.1)))) k_ hk_), (Kd.fresh' (Kd.R_lt (by (with_reducible repeat (first | apply Kd.R_alloc | apply Kd.R_drewN | apply Kd.R_drew)); exact (Kd.R_mono (Kd.R_far (p := ⟨gb328, 1, none⟩) (Kd.R_far (p := ⟨gb328, 0, none⟩) (Kd.R_types HO_9.out BK328.out (by decide)) (fun _ hk => hk.2) (.slice Ao71 t324.length co71)) (fun _ hk => hk.2) (.bool t327)) (fun _ h_ => h_.1)))) k_ hk_), (Kd.fresh' (Kd.R_lt (by (with_reducible repeat (first | apply Kd.R_alloc | apply Kd.R_drewN | apply Kd.R_drew)); exact (Kd.R_mono (Kd.R_far (p := ⟨gb328, 1, none⟩) (Kd.R_far (p := ⟨gb328, 0, none⟩) (Kd.R_types HO_51.out BK328.out (by decide)) (fun _ hk => hk.2) (.slice Ao71 t324.length co71)) (fun _ hk => hk.2) (.bool t327)) (fun _ h_ => h_.1)))) k_ hk_), (Kd.fresh' (Kd.R_lt (by (with_reducible repeat (first | apply Kd.R_alloc | apply Kd.R_drewN | apply Kd.R_drew)); exact (Kd.R_mono (Kd.R_far (p := ⟨gb328, 1, none⟩) (Kd.R_far (p := ⟨gb328, 0, none⟩) (Kd.R_types HO326.out BK328.out (by decide)) (fun _ hk => hk.2) (.slice Ao71 t324.length co71)) (fun _ hk => hk.2) (.bool t327)) (fun _ h_ => h_.1)))) k_ hk_), (Kd.freshB (g := gb298) (o := .cells #[.slice A0_0 l0_0.length c0_0, .slice A0_1 l0_1.length c0_1, .int .i64 a0_2] 43 (0, 0)) (by (with_reducible repeat (first | refine kN_ ?_ _ | refine k1_ ?_ | refine ka_ ?_ _)); refine blk_far ?_ NB298_328.out _; (with_reducible repeat (first | refine kN_ ?_ _ | refine k1_ ?_ | refine ka_ ?_ _)); refine blk_far ?_ NB298_328.out _; exact pk BK298.out) k_ hk_), (Kd.freshB (g := gb328) (o := .cells #[.slice Ao71 t324.length co71, .bool t327] 115 (0, 0)) (by (with_reducible repeat (first | refine kN_ ?_ _ | refine k1_ ?_ | refine ka_ ?_ _)); refine blk_put (cs := #[.slice Ao71 t324.length co71, .bool false]) ?_ 1 _ rfl; (with_reducible repeat (first | refine kN_ ?_ _ | refine k1_ ?_ | refine ka_ ?_ _)); refine blk_put (cs := #[.slice none 0 0, .bool false]) ?_ 0 _ rfl; exact pk BK328.out) k_ hk_)⟩)) (bz_ bl_)); have n6_ := ak_ (blk_below (g := gb298) (o := .cells #[.slice A0_0 l0_0.length c0_0, .slice A0_1 l0_1.length c0_1, .int .i64 a0_2] 43 (0, 0)) (by (with_reducible repeat (first | refine kN_ ?_ _ | refine k1_ ?_ | refine ka_ ?_ _)); refine blk_far ?_ NB298_328.out _; (with_reducible repeat (first | refine kN_ ?_ _ | refine k1_ ?_ | refine ka_ ?_ _)); refine blk_far ?_ NB298_328.out _; exact pk BK298.out) hb); have n7_ := ak_ (blk_below (g := gb328) (o := .cells #[.slice Ao71 t324.length co71, .bool t327] 115 (0, 0)) (by (with_reducible repeat (first | refine kN_ ?_ _ | refine k1_ ?_ | refine ka_ ?_ _)); refine blk_put (cs := #[.slice Ao71 t324.length co71, .bool false]) ?_ 1 _ rfl; (with_reducible repeat (first | refine kN_ ?_ _ | refine k1_ ?_ | refine ka_ ?_ _)); refine blk_put (cs := #[.slice none 0 0, .bool false]) ?_ 0 _ rfl; exact pk BK328.out) hb); have n8_ := ak_ (bs_ bl_ hb); clear HO_7; clear HO_8; clear HO_9; clear HO_51; clear HO326; clear BK298; clear BK328; clear HB; have HO_7 := n0_; have HO_8 := n1_; have HO_9 := n2_; have HO_51 := n3_; have HO326 := n4_; have HO331 := n5_; have BK298 := n6_; have BK328 := n7_; have HB := n8_; clear n0_ n1_ n2_ n3_ n4_ n5_ n6_ n7_ n8_; (try clear hb); (try clear hb2); (try clear hk); (try clear hi); (try clear ho0); obtain ⟨Ao76, co76, eo76⟩ := Kd.N_slice HO331.out; subst eo76))
                  go_loopg [95] k3 (fun kq v95 w' => ∃ (x7_4 : List Int) (x8_4 : List Int) (x95_4 : Int), v95 = .int .i64 x95_4 ∧ Aside0 (spec_loFar.l3 kq a1 (l0_0.length : Int) x7_4 x8_4 y323 x12_3 t329 (t329.length : Int) x95_4 l0_0 l0_1 a0_2 t324 t327 = some (r1, r2)) ∧ Aside0 (kq ≤ k3) ∧ Aside0 (Kd.R (Kd.int .i64) 3 w' w.heap.size (fun k_ => some k_ ≠ ((.slice (some ⟨go33, 0, none⟩) x8_2.length co33) : Value).ownBlock) (.slice (some ⟨go31, 0, none⟩) x7_2.length co19) x7_4) ∧ Aside0 (Kd.R (Kd.int .i64) 3 w' w.heap.size (fun k_ => some k_ ≠ ((.slice (some ⟨go31, 0, none⟩) x7_2.length co19) : Value).ownBlock) (.slice (some ⟨go33, 0, none⟩) x8_2.length co33) x8_4) ∧ Aside0 (Kd.R Kd.bool 4 w' w.heap.size (fun k_ => some k_ ≠ ((.slice Ao71 t324.length co71) : Value).ownBlock) (.slice (some ⟨go64, 0, none⟩) x9_2.length co64) y323) ∧ Aside0 (Kd.N (Kd.slice 3 (Kd.int .i64)) 29 w' w.heap.size (fun k_ => some k_ ≠ ((.slice (some ⟨go31, 0, none⟩) x7_2.length co19) : Value).ownBlock ∧ some k_ ≠ ((.slice (some ⟨go33, 0, none⟩) x8_2.length co33) : Value).ownBlock ∧ some k_ ≠ ((.slice (some ⟨go64, 0, none⟩) x9_2.length co64) : Value).ownBlock ∧ some k_ ≠ ((.slice Ao71 t324.length co71) : Value).ownBlock ∧ k_ ≠ gb298 ∧ k_ ≠ gb328) (.slice Ao76 t329.length co76) t329) ∧ Aside0 (Kd.R Kd.bool 4 w' w.heap.size (fun k_ => some k_ ≠ ((.slice (some ⟨go64, 0, none⟩) x9_2.length co64) : Value).ownBlock) (.slice Ao71 t324.length co71) t324) ∧ Aside0 (w'.heap[gb298]? = some (.cells #[(.slice A0_0 l0_0.length c0_0), (.slice A0_1 l0_1.length c0_1), .int .i64 a0_2] 43 (0, 0))) ∧ Aside0 (w'.heap[gb328]? = some (.cells #[(.slice Ao71 t324.length co71), .bool t327] 115 (0, 0))) ∧ Aside0 (Below w.heap.size w w'))
                  case atStart => exact ⟨(x7_2), (x8_2), (0), (ry_), H', ⟨Nat.le_refl _⟩, ⟨by (try simp only [hl7_1, hl7_2, hl8_2]); exact Kd.pR HO_7.out⟩, ⟨by (try simp only [hl7_1, hl7_2, hl8_2]); (with_reducible repeat (first | apply Kd.R_alloc | apply Kd.R_drewN | apply Kd.R_drew)); exact Kd.R_mono HO_8.out (fun _ hk => hk.1)⟩, ⟨by (try simp only [hl7_1, hl7_2, hl8_2]); (with_reducible repeat (first | apply Kd.R_alloc | apply Kd.R_drewN | apply Kd.R_drew)); exact Kd.R_mono HO_9.out (fun _ hk => hk.2)⟩, ⟨by (try simp only [hl7_1, hl7_2, hl8_2]); (with_reducible repeat (first | apply Kd.N_alloc | apply Kd.N_drewN | apply Kd.N_drew)); exact Kd.N_mono HO331.out (fun _ hk => ⟨hk.1, ⟨hk.2.1, ⟨hk.2.2.1, ⟨hk.2.2.2.2.1, ⟨hk.2.2.2.2.2.1, hk.2.2.2.2.2.2⟩⟩⟩⟩⟩)⟩, ⟨by (try simp only [hl7_1, hl7_2, hl8_2]); (with_reducible repeat (first | apply Kd.R_alloc | apply Kd.R_drewN | apply Kd.R_drew)); exact Kd.R_mono HO326.out (fun _ hk => hk.2)⟩, ⟨by (try simp only [hl7_1, hl7_2, hl8_2]); exact pk BK298.out⟩, ⟨by (try simp only [hl7_1, hl7_2, hl8_2]); exact pk BK328.out⟩, ⟨by repeat (first | exact HB.out | apply ba_ | apply bN_ | apply b1_ | refine below_set ?_ (Aside0.out (by assumption)))⟩⟩
                  case round =>
                   clear H'
                   try clear c1
                   try clear c2
                   try clear p2
                   try clear q2
                   try clear hx2
                   try clear hf2
                   try clear c3
                   try clear p3
                   try clear q3
                   try clear hx3
                   try clear hf3
                   try clear c4
                   try clear c4b0
                   try clear c4b1
                   try clear q4
                   try clear c5
                   try clear c5b0
                   try clear c5b1
                   try clear c6
                   try clear c6b0
                   try clear p6
                   try clear q6
                   try clear hx6
                   try clear hf6
                   try clear c7
                   try clear c7b0
                   try clear c8
                   try clear c8b0
                   try clear c8b1
                   try clear c9
                   try clear c10
                   try clear c20
                   try clear c20b0
                   try clear c21
                   try clear c21b0
                   try clear c22
                   try clear c22b0
                   try clear p23
                   try clear q23
                   try clear hx23
                   try clear hf23
                   try clear c29
                   try clear c29b0
                   try clear c30
                   try clear c30b0
                   try clear p31
                   try clear q31
                   try clear hx31
                   try clear hf31
                   try clear c32
                   try clear c32b0
                   try clear p32
                   try clear q32
                   try clear hx32
                   try clear p33
                   try clear q33
                   try clear hx33
                   try clear hf33
                   try clear c44
                   try clear c44b0
                   try clear c45
                   try clear c45b0
                   try clear c46
                   try clear c46b0
                   try clear c48
                   try clear c48b0
                   try clear q49
                   try clear c50
                   try clear c52
                   try clear c52b0
                   try clear c53
                   try clear c53b0
                   try clear c55
                   try clear c55b0
                   try clear c56
                   try clear c56b0
                   try clear c59
                   try clear c59b0
                   try clear c61
                   try clear c61b0
                   try clear c62
                   try clear c62b0
                   try clear c63
                   try clear c63b0
                   try clear p64
                   try clear q64
                   try clear hx64
                   try clear hf64
                   try clear c72
                   try clear hcz10_0
                   try clear hcz10_1
                   try clear hcz10_2
                   try clear hcz34_0
                   try clear hcz34_1
                   try clear hcz34_2
                   try clear hcz73_0
                   try clear hcz73_1
                   try clear hcz74_0
                   try clear hcz74_1
                   try clear hcz74_2
                   try clear hfz10_0
                   try clear hfz10_1
                   try clear hfz10_2
                   try clear hfz34_0
                   try clear hfz34_1
                   try clear hfz34_2
                   try clear hfz73_0
                   try clear hfz73_1
                   try clear hfz74_0
                   try clear hfz74_1
                   try clear hfz74_2
                   try clear hx23_0
                   try clear hx31_0
                   try clear hx320_0
                   try clear hx321_0
                   try clear hx322_0
                   try clear hx33_0
                   try clear hx64_0
                   try clear p2
                   try clear p23
                   try clear p3
                   try clear p31
                   try clear p320
                   try clear p321
                   try clear p322
                   try clear p33
                   try clear p6
                   try clear p64
                   try clear q2
                   try clear q23
                   try clear q3
                   try clear q31
                   try clear q320
                   try clear q321
                   try clear q322
                   try clear q33
                   try clear q64
                   obtain ⟨x7_4, x8_4, x95_4, rfl, HA, HK4, HO_7, HO_8, HO_9, HO_93, HO_329000, BK298, BK328, HB⟩ := hrel
                   have hl7_4 := (Kd.R_reads' HO_7.out).1
                   rw [hl7_4] at HO_7
                   (try simp only [hl7_4])
                   (try simp only [hl7_4] at BK298)
                   (try simp only [hl7_4] at BK328)
                   (try simp only [hl7_4] at HO_8)
                   (try simp only [hl7_4] at HO_9)
                   (try simp only [hl7_4] at HO_93)
                   (try simp only [hl7_4] at HO_329000)
                   have hl8_4 := (Kd.R_reads' HO_8.out).1
                   rw [hl8_4] at HO_8
                   (try simp only [hl8_4])
                   (try simp only [hl8_4] at BK298)
                   (try simp only [hl8_4] at BK328)
                   (try simp only [hl8_4] at HO_7)
                   (try simp only [hl8_4] at HO_9)
                   (try simp only [hl8_4] at HO_93)
                   (try simp only [hl8_4] at HO_329000)
                   have hl9_4 := (Kd.R_reads' HO_9.out).1
                   rw [hl9_4] at HO_9
                   (try simp only [hl9_4])
                   (try simp only [hl9_4] at BK298)
                   (try simp only [hl9_4] at BK328)
                   (try simp only [hl9_4] at HO_7)
                   (try simp only [hl9_4] at HO_8)
                   (try simp only [hl9_4] at HO_93)
                   (try simp only [hl9_4] at HO_329000)
                   cases gk with
                   | zero => exact absurd HA.out (by simp [spec_loFar.l3])
                   | succ k4 =>
                    have H := HA.out
                    clear HA
                    simp only [spec_loFar.l3] at H
                    by_cases c77 : x95_4 < (t329.length : Int)
                    ·
                     rw [if_pos c77] at H
                     have c77b0 : decide (x95_4 < (t329.length : Int)) = true := decide_eq_true c77
                     clear c77
                     by_cases c78 : 0 ≤ x95_4
                     ·
                      rw [if_pos c78] at H
                      have c78b0 : decide (0 ≤ x95_4) = true := decide_eq_true c78
                      clear c78
                      by_cases c79 : x95_4 < (t329.length : Int)
                      ·
                       rw [if_pos c79] at H
                       have c79b0 : decide (x95_4 < (t329.length : Int)) = true := decide_eq_true c79
                       clear c79
                       replace H := Option.bind_eq_some_iff.mp H
                       obtain ⟨⟨t333, t336⟩, A800, H⟩ := H
                       replace H : ((spec_seIndex.f k4 t333 t336).bind fun t337 => (if 0 ≤ x12_3 then (if x12_3 < (x7_4.length : Int) then ((spec_loCost.f k4 l0_0 l0_1 a0_2 (rd_L2 t329 x95_4) a1).bind fun t339 => (if 0 ≤ t337 then (if t337 < (x7_4.length : Int) then (if (rd x7_4 t337) < 0 then (spec_loFar.j4 k4 a1 (l0_0.length : Int) x7_4 x8_4 y323 x12_3 t337 (wrap64 ((rd x7_4 x12_3) + t339)) t329 (t329.length : Int) x95_4 true l0_0 l0_1 a0_2 t324 t327) else (spec_loFar.j4 k4 a1 (l0_0.length : Int) x7_4 x8_4 y323 x12_3 t337 (wrap64 ((rd x7_4 x12_3) + t339)) t329 (t329.length : Int) x95_4 (decide ((wrap64 ((rd x7_4 x12_3) + t339)) < (rd x7_4 t337))) l0_0 l0_1 a0_2 t324 t327)) else (none)) else (none))) else (none)) else (none))) = some (r1, r2) := H
                       have A80 := ak_ A800
                       clear A800
                       replace H := Option.bind_eq_some_iff.mp H
                       obtain ⟨t337, A810, H⟩ := H
                       replace H : (if 0 ≤ x12_3 then (if x12_3 < (x7_4.length : Int) then ((spec_loCost.f k4 l0_0 l0_1 a0_2 (rd_L2 t329 x95_4) a1).bind fun t339 => (if 0 ≤ t337 then (if t337 < (x7_4.length : Int) then (if (rd x7_4 t337) < 0 then (spec_loFar.j4 k4 a1 (l0_0.length : Int) x7_4 x8_4 y323 x12_3 t337 (wrap64 ((rd x7_4 x12_3) + t339)) t329 (t329.length : Int) x95_4 true l0_0 l0_1 a0_2 t324 t327) else (spec_loFar.j4 k4 a1 (l0_0.length : Int) x7_4 x8_4 y323 x12_3 t337 (wrap64 ((rd x7_4 x12_3) + t339)) t329 (t329.length : Int) x95_4 (decide ((wrap64 ((rd x7_4 x12_3) + t339)) < (rd x7_4 t337))) l0_0 l0_1 a0_2 t324 t327)) else (none)) else (none))) else (none)) else (none)) = some (r1, r2) := H
                       have A81 := ak_ A810
                       clear A810
                       by_cases c82 : 0 ≤ x12_3
                       ·
                        rw [if_pos c82] at H
                        have c82b0 : decide (0 ≤ x12_3) = true := decide_eq_true c82
                        clear c82
                        by_cases c83 : x12_3 < (x7_4.length : Int)
                        ·
                         rw [if_pos c83] at H
                         have c83b0 : decide (x12_3 < (x7_4.length : Int)) = true := decide_eq_true c83
                         clear c83
                         replace H := Option.bind_eq_some_iff.mp H
                         obtain ⟨t339, A840, H⟩ := H
                         replace H : (if 0 ≤ t337 then (if t337 < (x7_4.length : Int) then (if (rd x7_4 t337) < 0 then (spec_loFar.j4 k4 a1 (l0_0.length : Int) x7_4 x8_4 y323 x12_3 t337 (wrap64 ((rd x7_4 x12_3) + t339)) t329 (t329.length : Int) x95_4 true l0_0 l0_1 a0_2 t324 t327) else (spec_loFar.j4 k4 a1 (l0_0.length : Int) x7_4 x8_4 y323 x12_3 t337 (wrap64 ((rd x7_4 x12_3) + t339)) t329 (t329.length : Int) x95_4 (decide ((wrap64 ((rd x7_4 x12_3) + t339)) < (rd x7_4 t337))) l0_0 l0_1 a0_2 t324 t327)) else (none)) else (none)) = some (r1, r2) := H
                         have A84 := ak_ A840
                         clear A840
                         have HC85 := ak_ H
                         clear H
                         have p332 : 0 ≤ (x95_4 : Int) := odt_ (by assumption)
                         have q332 : x95_4 < (t329.length : Int) := odt_ (by assumption)
                         obtain ⟨ad332, A332_0, c332_0, e332, hx332_0, hl332_0, hi332_0⟩ := at_L2 (Kd.N_reads' HO_93.out).2.2 x95_4 p332 q332
                         cases e332
                         obtain ⟨ce332, hce332, hMe332, hcc332⟩ := Kd.N_get HO_93.out [] x95_4 p332 (by first | exact q332 | exact odt_ (by assumption) | (have e_ := (Kd.N_reads' HO_93.out).1; omega))
                         obtain ⟨ua332_0, uc332_0, rfl, ul332_0, ge332_0⟩ := Kd.FK_slice_open hMe332
                         have hv332_0 := hcc332 0 _ rfl
                         rw [Nat.add_zero, show ((Kd.slice 3 (Kd.int .i64))).sz = 1 from rfl, Nat.mul_one] at hv332_0
                         replace hv332_0 := Option.some.inj (hv332_0.symm.trans hx332_0)
                         injection hv332_0 with hva_ hvn_ hvc_
                         rw [hva_] at ge332_0
                         rw [hvc_] at ul332_0
                         have HL332_0 := ak_ (show Kd.V (Kd.int .i64) 3 _ w.heap.size _ _ (rd_L2 t329 x95_4) from Kd.V_mk ul332_0 ge332_0)
                         clear hva_ hvn_ hvc_ ge332_0 ul332_0 hcc332 hce332
                         have HR332_0 := ak_ hi332_0
                         have HC332_0 := ak_ hl332_0
                         clear hi332_0 hl332_0
                         replace p332 := eq_true p332
                         replace q332 := eq_true q332
                         have hnb86 := NB328_298.out
                         have hnc86 := NB298_328.out
                         have hcz87_0 : wr.cell? ⟨gb328, 0, none⟩ = some (.slice Ao71 t324.length co71) := (blk_cell BK328.out 0).trans rfl
                         have hcz87_1 : wr.cell? ⟨gb328, 1, none⟩ = some (.bool t327) := (blk_cell BK328.out 1).trans rfl
                         have hfz87_0 := blk_frozen BK328.out 0
                         have hfz87_1 := blk_frozen BK328.out 1
                         try go_wp2_with (first | ((with_reducible refine gate_callee (f := 96) rfl ?_); refine goesL_ (some 101) rfl rfl Try.func96 (by kernel_rfl) rfl #[.agg #[.slice Ao71 t324.length co71, .bool t327], .slice A332_0 (rd_L2 t329 x95_4).length c332_0] rfl (by first | rfl | (simp only [map_toArray, map_cons, map_nil]; try rfl)) ?_; (with_reducible refine (spec_paCross.calls k4 _ _ t324 t327 _ _ (rd_L2 t329 x95_4) t333 t336 _ ?side1 ?side2 ?side3 ?side4 A80.out).mono ?_); (case side1 => repeat (first | exact (Kd.R_reads' HO_329000.out).2.2 | (with_reducible refine Kd.C_alloc ?_ _) | (with_reducible refine Kd.C_drewN ?_ _) | (with_reducible refine Kd.C_drew ?_))); (case side2 => exact (Kd.R_reads' HO_329000.out).2.1); (case side3 => repeat (first | exact (by repeat (first | (with_reducible exact HR332_0.out) | (with_reducible refine Kd.C_alloc ?_ _) | (with_reducible refine Kd.C_drewN ?_ _) | (with_reducible refine Kd.C_drew ?_) | exact HR332_0.out)) | (with_reducible refine Kd.C_alloc ?_ _) | (with_reducible refine Kd.C_drewN ?_ _) | (with_reducible refine Kd.C_drew ?_))); (case side4 => exact HC332_0.out); rintro e w88 ⟨v334, rfl, ho0, hb⟩; refine ⟨_, rfl, ?_⟩; have n0_ := ak_ (Kd.R_below (Kd.pR HO_7.out) hb); have n1_ := ak_ (Kd.R_below (Kd.pR HO_8.out) hb); have n2_ := ak_ (Kd.R_elder' (Kd.pR HO_9.out) (Kd.R_base ho0) hb); have n3_ := ak_ (Kd.N_elder' (Kd.pN HO_93.out) (Kd.R_base ho0) hb); have n4_ := ak_ (Kd.R_elder' (Kd.pR HO_329000.out) (Kd.R_base ho0) hb); have n5_ := ak_ (Kd.V_elder' (Kd.pV HL332_0.out) (Kd.R_base ho0) hb); have n6_ := ak_ (Kd.R_lower (Kd.R_new' (Kd.R_new' ho0 (Kd.R_lt (Kd.pR HO_9.out))) (Kd.R_lt (Kd.pR HO_329000.out))) (bz_ bl_)); have n7_ := ak_ (blk_below (pk BK298.out) hb); have n8_ := ak_ (blk_below (pk BK328.out) hb); have n9_ := ak_ (Kd.C_below (by repeat (first | (with_reducible exact HR332_0.out) | (with_reducible refine Kd.C_alloc ?_ _) | (with_reducible refine Kd.C_drewN ?_ _) | (with_reducible refine Kd.C_drew ?_) | exact HR332_0.out)) hb); have n10_ := ak_ (bs_ bl_ hb); clear HO_7; clear HO_8; clear HO_9; clear HO_93; clear HO_329000; clear HL332_0; clear BK298; clear BK328; clear HR332_0; clear HB; have HO_7 := n0_; have HO_8 := n1_; have HO_9 := n2_; have HO_93 := n3_; have HO_329000 := n4_; have HL332_0 := n5_; have HO335 := n6_; have BK298 := n7_; have BK328 := n8_; have HR332_0 := n9_; have HB := n10_; clear n0_ n1_ n2_ n3_ n4_ n5_ n6_ n7_ n8_ n9_ n10_; (try clear hb); (try clear hb2); (try clear hk); (try clear hi); (try clear ho0); obtain ⟨Ao89, co89, eo89⟩ := Kd.R_slice HO335.out; subst eo89) | ((with_reducible refine gate_callee (f := 91) rfl ?_); refine goesL_ (some 102) rfl rfl Try.func91 (by kernel_rfl) rfl #[.agg #[.slice Ao89 t333.length co89, .bool t336]] rfl (by first | rfl | (simp only [map_toArray, map_cons, map_nil]; try rfl)) ?_; (with_reducible refine (spec_seIndex.calls k4 _ _ t333 t336 t337 _ ?side1 ?side2 A81.out).mono ?_); (case side1 => repeat (first | exact (Kd.R_reads' HO335.out).2.2 | (with_reducible refine Kd.C_alloc ?_ _) | (with_reducible refine Kd.C_drewN ?_ _) | (with_reducible refine Kd.C_drew ?_))); (case side2 => exact (Kd.R_reads' HO335.out).2.1); rintro e w90 ⟨rfl, hb⟩; refine ⟨_, rfl, ?_⟩; have n0_ := ak_ (Kd.R_below (Kd.pR HO_7.out) hb); have n1_ := ak_ (Kd.R_below (Kd.pR HO_8.out) hb); have n2_ := ak_ (Kd.R_below (Kd.pR HO_9.out) hb); have n3_ := ak_ (Kd.N_below (Kd.pN HO_93.out) hb); have n4_ := ak_ (Kd.R_below (Kd.pR HO_329000.out) hb); have n5_ := ak_ (Kd.V_below (Kd.pV HL332_0.out) hb); have n6_ := ak_ (Kd.R_below (Kd.pR HO335.out) hb); have n7_ := ak_ (blk_below (pk BK298.out) hb); have n8_ := ak_ (blk_below (pk BK328.out) hb); have n9_ := ak_ (Kd.C_below (by repeat (first | (with_reducible exact HR332_0.out) | (with_reducible refine Kd.C_alloc ?_ _) | (with_reducible refine Kd.C_drewN ?_ _) | (with_reducible refine Kd.C_drew ?_) | exact HR332_0.out)) hb); have n10_ := ak_ (bs_ bl_ hb); clear HO_7; clear HO_8; clear HO_9; clear HO_93; clear HO_329000; clear HL332_0; clear HO335; clear BK298; clear BK328; clear HR332_0; clear HB; have HO_7 := n0_; have HO_8 := n1_; have HO_9 := n2_; have HO_93 := n3_; have HO_329000 := n4_; have HL332_0 := n5_; have HO335 := n6_; have BK298 := n7_; have BK328 := n8_; have HR332_0 := n9_; have HB := n10_; clear n0_ n1_ n2_ n3_ n4_ n5_ n6_ n7_ n8_ n9_ n10_; (try clear hb); (try clear hb2); (try clear hk); (try clear hi)))
                         have n0_ := ak_ (Kd.R_drew HO_7.out)
                         have n1_ := ak_ (Kd.R_drew HO_8.out)
                         have n2_ := ak_ (Kd.R_drew HO_9.out)
                         have n3_ := ak_ (Kd.N_drew HO_93.out)
                         have n4_ := ak_ (Kd.R_drew HO_329000.out)
                         have n5_ := ak_ (Kd.V_drew HL332_0.out)
                         have n6_ := ak_ (Kd.R_drew HO335.out)
                         have n7_ := ak_ (k1_ BK298.out)
                         have n8_ := ak_ (k1_ BK328.out)
                         have n9_ := ak_ (Kd.C_drew HR332_0.out)
                         have n10_ := ak_ (b1_ HB.out)
                         clear HO_7 HO_8 HO_9 HO_93 HO_329000 HL332_0 HO335 BK298 BK328 HR332_0 HB
                         have HO_7 := n0_; have HO_8 := n1_; have HO_9 := n2_; have HO_93 := n3_; have HO_329000 := n4_; have HL332_0 := n5_; have HO335 := n6_; have BK298 := n7_; have BK328 := n8_; have HR332_0 := n9_; have HB := n10_
                         clear n0_ n1_ n2_ n3_ n4_ n5_ n6_ n7_ n8_ n9_ n10_
                         have p338 : 0 ≤ (x12_3 : Int) := odt_ (by assumption)
                         have q338 : x12_3 < (x7_4.length : Int) := odt_ (by assumption)
                         obtain ⟨ad338, e338, hx338_0⟩ := Kd.at_int (Kd.R_reads' HO_7.out).2.2 x12_3 p338 q338
                         obtain rfl : (⟨go31, 0, none⟩ : Addr) = ad338 := (by injection e338)
                         (first | simp only [add_plain] at hx338_0 | simp only [add_at] at hx338_0 | simp only [Addr.add, Nat.zero_add] at hx338_0 | skip)
                         replace p338 := eq_true p338
                         replace q338 := eq_true q338
                         refine start_ (n := 10) (S := fun w' => w'.cell? ⟨gb298, 0, none⟩ = some (.slice A0_0 l0_0.length c0_0) ∧ w'.cell? ⟨gb298, 1, none⟩ = some (.slice A0_1 l0_1.length c0_1) ∧ w'.cell? ⟨gb298, 2, none⟩ = some (.int .i64 a0_2) ∧ w'.cell? ⟨go31, (x12_3).toNat, none⟩ = some (.int .i64 (rd x7_4 x12_3))) (ds := []) (mb_ 10 0) (by kernel_rfl) rfl rfl ⟨(blk_cell BK298.out 0).trans rfl, (blk_cell BK298.out 1).trans rfl, (blk_cell BK298.out 2).trans rfl, hx338_0⟩ (fun hHeld => ?_); refine with_tabW spec_loFar.tab27 spec_loFar.bits27 (fun HT_ HW_ => ?_)
                         generalize w90.drew = w91 at HO_7 HO_8 HO_9 HO_93 HO_329000 HL332_0 HO335 BK298 BK328 HR332_0 HB hx338_0 hHeld ⊢
                         refine pu_ 0 103 10 1 ?_
                         refine pu_ 1 104 10 3 ?_
                         refine pu_ 2 105 10 7 ?_
                         refine pu_ 5 108 10 39 ?_
                         refine pu_ 6 109 10 103 ?_
                         refine tk_ 3 106 10 111 ?_ (hy := by rintro w' ⟨s0, s1, s2, s3⟩; go_simp; with_reducible rfl)
                         refine tk_ 4 107 10 127 ?_ (hy := by rintro w' ⟨s0, s1, s2, s3⟩; go_simp; with_reducible rfl)
                         refine on_ 7 110 10 255 (fun K hK => ?_)
                         refine goes_ Try.func101 (by kernel_rfl) rfl #[.agg #[.slice A0_0 l0_0.length c0_0, .slice A0_1 l0_1.length c0_1, .int .i64 a0_2], .slice A332_0 (rd_L2 t329 x95_4).length c332_0, .bool a1] (by rfl) rfl rfl (by first | rfl | (simp only [map_toArray, map_cons, map_nil]; try rfl)) ?_
                         with_reducible refine (spec_loCost.calls k4 _ _ l0_0 _ _ l0_1 a0_2 _ _ (rd_L2 t329 x95_4) a1 t339 _ ?side1 ?side2 ?side3 ?side4 ?side5 ?side6 A84.out).mono ?_
                         (case side1 => repeat (first | exact (Kd.C_below HR0_0.out HB.out) | (with_reducible refine Kd.C_alloc ?_ _) | (with_reducible refine Kd.C_drewN ?_ _) | (with_reducible refine Kd.C_drew ?_)))
                         (case side2 => exact HC0_0.out)
                         (case side3 => repeat (first | exact (Kd.C_below HR0_1.out HB.out) | (with_reducible refine Kd.C_alloc ?_ _) | (with_reducible refine Kd.C_drewN ?_ _) | (with_reducible refine Kd.C_drew ?_)))
                         (case side4 => exact HC0_1.out)
                         (case side5 => repeat (first | exact (by repeat (first | (with_reducible exact HR332_0.out) | (with_reducible refine Kd.C_alloc ?_ _) | (with_reducible refine Kd.C_drewN ?_ _) | (with_reducible refine Kd.C_drew ?_) | exact HR332_0.out)) | (with_reducible refine Kd.C_alloc ?_ _) | (with_reducible refine Kd.C_drewN ?_ _) | (with_reducible refine Kd.C_drew ?_)))
                         (case side6 => exact HC332_0.out)
                         rintro e w92 ⟨rfl, hb⟩
                         have HS3_ := (hb.cell (World.block_lt_of_cell? _ _ (hHeld.2.2.2))).trans (hHeld.2.2.2)
                         refine ⟨_, rfl, ?_⟩
                         have n0_ := ak_ (Kd.R_below (Kd.pR HO_7.out) hb)
                         have n1_ := ak_ (Kd.R_below (Kd.pR HO_8.out) hb)
                         have n2_ := ak_ (Kd.R_below (Kd.pR HO_9.out) hb)
                         have n3_ := ak_ (Kd.N_below (Kd.pN HO_93.out) hb)
                         have n4_ := ak_ (Kd.R_below (Kd.pR HO_329000.out) hb)
                         have n5_ := ak_ (Kd.V_below (Kd.pV HL332_0.out) hb)
                         have n6_ := ak_ (Kd.R_below (Kd.pR HO335.out) hb)
                         have n7_ := ak_ (blk_below (pk BK298.out) hb)
                         have n8_ := ak_ (blk_below (pk BK328.out) hb)
                         have n9_ := ak_ (Kd.C_below (by repeat (first | (with_reducible exact HR332_0.out) | (with_reducible refine Kd.C_alloc ?_ _) | (with_reducible refine Kd.C_drewN ?_ _) | (with_reducible refine Kd.C_drew ?_) | exact HR332_0.out)) hb)
                         have n10_ := ak_ (bs_ bl_ hb)
                         clear HO_7 HO_8 HO_9 HO_93 HO_329000 HL332_0 HO335 BK298 BK328 HR332_0 HB
                         have HO_7 := n0_; have HO_8 := n1_; have HO_9 := n2_; have HO_93 := n3_; have HO_329000 := n4_; have HL332_0 := n5_; have HO335 := n6_; have BK298 := n7_; have BK328 := n8_; have HR332_0 := n9_; have HB := n10_
                         clear n0_ n1_ n2_ n3_ n4_ n5_ n6_ n7_ n8_ n9_ n10_
                         (try clear hb)
                         (try clear hb2)
                         (try clear hk)
                         (try clear hi)
                         refine hK.out _ _ ⟨(blk_cell BK298.out 0).trans rfl, (blk_cell BK298.out 1).trans rfl, (blk_cell BK298.out 2).trans rfl, HS3_⟩ (fun hHeld => ?_)
                         clear hK K
                         refine nm_ ?_
                         refine pu_ 8 111 10 511 ?_
                         refine pu_ 9 19 10 1023 ?_
                         refine done_ (done_of HT_.out (by kernel_rfl)) ?_
                         go_upto_region 28 with (fail)
                         go_cut [124] (fun v124 wc => ∃ (kq : Nat) (x124_84 : Bool), v124 = .bool x124_84 ∧ Aside0 (spec_loFar.j4 kq a1 (l0_0.length : Int) x7_4 x8_4 y323 x12_3 t337 (wrap64 ((rd x7_4 x12_3) + t339)) t329 (t329.length : Int) x95_4 x124_84 l0_0 l0_1 a0_2 t324 t327 = some (r1, r2)) ∧ Aside0 (kq ≤ k4) ∧ Aside0 (Kd.R (Kd.int .i64) 3 wc w.heap.size (fun k_ => some k_ ≠ ((.slice (some ⟨go33, 0, none⟩) x8_4.length co33) : Value).ownBlock) (.slice (some ⟨go31, 0, none⟩) x7_4.length co19) x7_4) ∧ Aside0 (Kd.R (Kd.int .i64) 3 wc w.heap.size (fun k_ => some k_ ≠ ((.slice (some ⟨go31, 0, none⟩) x7_4.length co19) : Value).ownBlock) (.slice (some ⟨go33, 0, none⟩) x8_4.length co33) x8_4) ∧ Aside0 (Kd.R Kd.bool 4 wc w.heap.size (fun k_ => some k_ ≠ ((.slice Ao71 t324.length co71) : Value).ownBlock) (.slice (some ⟨go64, 0, none⟩) y323.length co64) y323) ∧ Aside0 (Kd.N (Kd.slice 3 (Kd.int .i64)) 29 wc w.heap.size (fun k_ => some k_ ≠ ((.slice (some ⟨go31, 0, none⟩) x7_4.length co19) : Value).ownBlock ∧ some k_ ≠ ((.slice (some ⟨go33, 0, none⟩) x8_4.length co33) : Value).ownBlock ∧ some k_ ≠ ((.slice (some ⟨go64, 0, none⟩) y323.length co64) : Value).ownBlock ∧ some k_ ≠ ((.slice Ao71 t324.length co71) : Value).ownBlock ∧ k_ ≠ gb298 ∧ k_ ≠ gb328) (.slice (some ad332) t329.length co76) t329) ∧ Aside0 (Kd.R Kd.bool 4 wc w.heap.size (fun k_ => some k_ ≠ ((.slice (some ⟨go64, 0, none⟩) y323.length co64) : Value).ownBlock) (.slice Ao71 t324.length co71) t324) ∧ Aside0 (wc.heap[gb298]? = some (.cells #[(.slice A0_0 l0_0.length c0_0), (.slice A0_1 l0_1.length c0_1), .int .i64 a0_2] 43 (0, 0))) ∧ Aside0 (wc.heap[gb328]? = some (.cells #[(.slice Ao71 t324.length co71), .bool t327] 115 (0, 0))) ∧ Aside0 (Kd.C (Kd.int .i64) wc A332_0 (rd_L2 t329 x95_4).length (rd_L2 t329 x95_4)) ∧ Aside0 (Below w.heap.size w wc))
                         case first =>
                          have H := HC85.out
                          clear HC85
                          by_cases c93 : 0 ≤ t337
                          ·
                           rw [if_pos c93] at H
                           have c93b0 : decide (0 ≤ t337) = true := decide_eq_true c93
                           clear c93
                           (first | rw [c93b0] | (simp only [i64_w, i32_w]; rw [c93b0]) | rw [c93b1] | skip)
                           by_cases c94 : t337 < (x7_4.length : Int)
                           ·
                            rw [if_pos c94] at H
                            have c94b0 : decide (t337 < (x7_4.length : Int)) = true := decide_eq_true c94
                            clear c94
                            by_cases c95 : (rd x7_4 t337) < 0
                            ·
                             rw [if_pos c95] at H
                             have c95b0 : decide ((rd x7_4 t337) < 0) = true := decide_eq_true c95
                             clear c95
                             have H' := ak_ H
                             clear H
                             have p340 : 0 ≤ (t337 : Int) := odt_ (by assumption)
                             have q340 : t337 < (x7_4.length : Int) := odt_ (by assumption)
                             obtain ⟨ad340, e340, hx340_0⟩ := Kd.at_int (Kd.R_reads' HO_7.out).2.2 t337 p340 q340
                             obtain rfl : (⟨go31, 0, none⟩ : Addr) = ad340 := (by injection e340)
                             (first | simp only [add_plain] at hx340_0 | simp only [add_at] at hx340_0 | simp only [Addr.add, Nat.zero_add] at hx340_0 | skip)
                             replace p340 := eq_true p340
                             replace q340 := eq_true q340
                             go_wp2
                             go_meet
                             case rel => exact ⟨_, (true), (ry_), H', ⟨by have := HK1.out; have := HK2.out; have := HK3.out; have := HK4.out; first | omega | exact Nat.le_refl _⟩, ⟨by (try simp only [hl7_1, hl7_2, hl8_2, hl7_4, hl8_4, hl9_4]); exact Kd.pR HO_7.out⟩, ⟨by (try simp only [hl7_1, hl7_2, hl8_2, hl7_4, hl8_4, hl9_4]); exact Kd.pR HO_8.out⟩, ⟨by (try simp only [hl7_1, hl7_2, hl8_2, hl7_4, hl8_4, hl9_4]); (with_reducible repeat (first | apply Kd.R_alloc | apply Kd.R_drewN | apply Kd.R_drew)); exact Kd.R_mono HO_9.out (fun _ hk => hk.1)⟩, ⟨by (try simp only [hl7_1, hl7_2, hl8_2, hl7_4, hl8_4, hl9_4]); (with_reducible repeat (first | apply Kd.N_alloc | apply Kd.N_drewN | apply Kd.N_drew)); exact Kd.N_mono HO_93.out (fun _ hk => ⟨hk.1.1, ⟨hk.1.2.1, ⟨hk.1.2.2.1, ⟨hk.1.2.2.2.1, ⟨hk.1.2.2.2.2.1, hk.1.2.2.2.2.2⟩⟩⟩⟩⟩)⟩, ⟨by (try simp only [hl7_1, hl7_2, hl8_2, hl7_4, hl8_4, hl9_4]); (with_reducible repeat (first | apply Kd.R_alloc | apply Kd.R_drewN | apply Kd.R_drew)); exact Kd.R_mono HO_329000.out (fun _ hk => hk.1)⟩, ⟨by (try simp only [hl7_1, hl7_2, hl8_2, hl7_4, hl8_4, hl9_4]); exact pk BK298.out⟩, ⟨by (try simp only [hl7_1, hl7_2, hl8_2, hl7_4, hl8_4, hl9_4]); exact pk BK328.out⟩, ⟨by repeat (first | (with_reducible exact HR332_0.out) | (with_reducible refine Kd.C_alloc ?_ _) | (with_reducible refine Kd.C_drewN ?_ _) | (with_reducible refine Kd.C_drew ?_) | exact HR332_0.out)⟩, ⟨by repeat (first | exact HB.out | apply ba_ | apply bN_ | apply b1_ | refine below_set ?_ (Aside0.out (by assumption)))⟩⟩
                            ·
                             rw [if_neg c95] at H
                             have c95b0 : decide ((rd x7_4 t337) < 0) = false := decide_eq_false c95
                             clear c95
                             have H' := ak_ H
                             clear H
                             have p340 : 0 ≤ (t337 : Int) := odt_ (by assumption)
                             have q340 : t337 < (x7_4.length : Int) := odt_ (by assumption)
                             obtain ⟨ad340, e340, hx340_0⟩ := Kd.at_int (Kd.R_reads' HO_7.out).2.2 t337 p340 q340
                             obtain rfl : (⟨go31, 0, none⟩ : Addr) = ad340 := (by injection e340)
                             (first | simp only [add_plain] at hx340_0 | simp only [add_at] at hx340_0 | simp only [Addr.add, Nat.zero_add] at hx340_0 | skip)
                             replace p340 := eq_true p340
                             replace q340 := eq_true q340
                             have p341 : 0 ≤ (t337 : Int) := odt_ (by assumption)
                             have q341 : t337 < (x7_4.length : Int) := odt_ (by assumption)
                             obtain ⟨ad341, e341, hx341_0⟩ := Kd.at_int (Kd.R_reads' HO_7.out).2.2 t337 p341 q341
                             obtain rfl : (⟨go31, 0, none⟩ : Addr) = ad341 := (by injection e341)
                             (first | simp only [add_plain] at hx341_0 | simp only [add_at] at hx341_0 | simp only [Addr.add, Nat.zero_add] at hx341_0 | skip)
                             replace p341 := eq_true p341
                             replace q341 := eq_true q341
                             go_wp2
                             go_meet
                             case rel => exact ⟨_, (decide ((wrap64 ((rd x7_4 x12_3) + t339)) < (rd x7_4 t337))), (ry_), H', ⟨by have := HK1.out; have := HK2.out; have := HK3.out; have := HK4.out; first | omega | exact Nat.le_refl _⟩, ⟨by (try simp only [hl7_1, hl7_2, hl8_2, hl7_4, hl8_4, hl9_4]); exact Kd.pR HO_7.out⟩, ⟨by (try simp only [hl7_1, hl7_2, hl8_2, hl7_4, hl8_4, hl9_4]); exact Kd.pR HO_8.out⟩, ⟨by (try simp only [hl7_1, hl7_2, hl8_2, hl7_4, hl8_4, hl9_4]); (with_reducible repeat (first | apply Kd.R_alloc | apply Kd.R_drewN | apply Kd.R_drew)); exact Kd.R_mono HO_9.out (fun _ hk => hk.1)⟩, ⟨by (try simp only [hl7_1, hl7_2, hl8_2, hl7_4, hl8_4, hl9_4]); (with_reducible repeat (first | apply Kd.N_alloc | apply Kd.N_drewN | apply Kd.N_drew)); exact Kd.N_mono HO_93.out (fun _ hk => ⟨hk.1.1, ⟨hk.1.2.1, ⟨hk.1.2.2.1, ⟨hk.1.2.2.2.1, ⟨hk.1.2.2.2.2.1, hk.1.2.2.2.2.2⟩⟩⟩⟩⟩)⟩, ⟨by (try simp only [hl7_1, hl7_2, hl8_2, hl7_4, hl8_4, hl9_4]); (with_reducible repeat (first | apply Kd.R_alloc | apply Kd.R_drewN | apply Kd.R_drew)); exact Kd.R_mono HO_329000.out (fun _ hk => hk.1)⟩, ⟨by (try simp only [hl7_1, hl7_2, hl8_2, hl7_4, hl8_4, hl9_4]); exact pk BK298.out⟩, ⟨by (try simp only [hl7_1, hl7_2, hl8_2, hl7_4, hl8_4, hl9_4]); exact pk BK328.out⟩, ⟨by repeat (first | (with_reducible exact HR332_0.out) | (with_reducible refine Kd.C_alloc ?_ _) | (with_reducible refine Kd.C_drewN ?_ _) | (with_reducible refine Kd.C_drew ?_) | exact HR332_0.out)⟩, ⟨by repeat (first | exact HB.out | apply ba_ | apply bN_ | apply b1_ | refine below_set ?_ (Aside0.out (by assumption)))⟩⟩
                           ·
                            rw [if_neg c94] at H
                            exact absurd H (by simp)
                          ·
                           rw [if_neg c93] at H
                           exact absurd H (by simp)
                         case rest =>
                          clear HC85
                          try clear c1
                          try clear c2
                          try clear p2
                          try clear q2
                          try clear hx2
                          try clear hf2
                          try clear c3
                          try clear p3
                          try clear q3
                          try clear hx3
                          try clear hf3
                          try clear c4
                          try clear c4b0
                          try clear c4b1
                          try clear q4
                          try clear c5
                          try clear c5b0
                          try clear c5b1
                          try clear c6
                          try clear c6b0
                          try clear p6
                          try clear q6
                          try clear hx6
                          try clear hf6
                          try clear c7
                          try clear c7b0
                          try clear c8
                          try clear c8b0
                          try clear c8b1
                          try clear c9
                          try clear c10
                          try clear c20
                          try clear c20b0
                          try clear c21
                          try clear c21b0
                          try clear c22
                          try clear c22b0
                          try clear p23
                          try clear q23
                          try clear hx23
                          try clear hf23
                          try clear c29
                          try clear c29b0
                          try clear c30
                          try clear c30b0
                          try clear p31
                          try clear q31
                          try clear hx31
                          try clear hf31
                          try clear c32
                          try clear c32b0
                          try clear p32
                          try clear q32
                          try clear hx32
                          try clear c33
                          try clear p33
                          try clear q33
                          try clear hx33
                          try clear hf33
                          try clear p34
                          try clear q34
                          try clear hx34
                          try clear c44
                          try clear c44b0
                          try clear c45
                          try clear c45b0
                          try clear c46
                          try clear c46b0
                          try clear c48
                          try clear c48b0
                          try clear q49
                          try clear c50
                          try clear c52
                          try clear c52b0
                          try clear c53
                          try clear c53b0
                          try clear c55
                          try clear c55b0
                          try clear c56
                          try clear c56b0
                          try clear c59
                          try clear c59b0
                          try clear c61
                          try clear c61b0
                          try clear c62
                          try clear c62b0
                          try clear c63
                          try clear c63b0
                          try clear p64
                          try clear q64
                          try clear hx64
                          try clear hf64
                          try clear c72
                          try clear c77
                          try clear c77b0
                          try clear c78
                          try clear c78b0
                          try clear c79
                          try clear c79b0
                          try clear c82
                          try clear c82b0
                          try clear c83
                          try clear c83b0
                          try clear c86
                          try clear c91
                          try clear c93
                          try clear c93b0
                          try clear c94
                          try clear c94b0
                          try clear c95
                          try clear c95b0
                          try clear hcz10_0
                          try clear hcz10_1
                          try clear hcz10_2
                          try clear hcz34_0
                          try clear hcz34_1
                          try clear hcz34_2
                          try clear hcz73_0
                          try clear hcz73_1
                          try clear hcz74_0
                          try clear hcz74_1
                          try clear hcz74_2
                          try clear hcz87_0
                          try clear hcz87_1
                          try clear hfz10_0
                          try clear hfz10_1
                          try clear hfz10_2
                          try clear hfz34_0
                          try clear hfz34_1
                          try clear hfz34_2
                          try clear hfz73_0
                          try clear hfz73_1
                          try clear hfz74_0
                          try clear hfz74_1
                          try clear hfz74_2
                          try clear hfz87_0
                          try clear hfz87_1
                          try clear hx23_0
                          try clear hx31_0
                          try clear hx320_0
                          try clear hx321_0
                          try clear hx322_0
                          try clear hx332_0
                          try clear hx338_0
                          try clear hx33_0
                          try clear hx340_0
                          try clear hx341_0
                          try clear hx64_0
                          try clear p2
                          try clear p23
                          try clear p3
                          try clear p31
                          try clear p32
                          try clear p320
                          try clear p321
                          try clear p322
                          try clear p33
                          try clear p332
                          try clear p338
                          try clear p340
                          try clear p341
                          try clear p6
                          try clear p64
                          try clear q2
                          try clear q23
                          try clear q3
                          try clear q31
                          try clear q32
                          try clear q320
                          try clear q321
                          try clear q322
                          try clear q33
                          try clear q332
                          try clear q338
                          try clear q340
                          try clear q341
                          try clear q4
                          try clear q49
                          try clear q6
                          try clear q64
                          obtain ⟨kq, x124_84, rfl, HA, HJ84, HO_7, HO_8, HO_9, HO_93, HO_329000, BK298, BK328, HR332_0, HB⟩ := hcut
                          cases kq with
                          | zero => exact absurd HA.out (by simp [spec_loFar.j4])
                          | succ kj84 =>
                           have H := HA.out
                           clear HA
                           simp only [spec_loFar.j4] at H
                           by_cases c96 : x124_84 = true
                           ·
                            subst c96
                            have H1 : (if 0 ≤ t337 then (if t337 < (x7_4.length : Int) then ((some (x7_4.set (t337 : Int).toNat (wrap64 ((rd x7_4 x12_3) + t339)) : List Int)).bind fun y342 => (if t337 < (x8_4.length : Int) then ((some (x8_4.set (t337 : Int).toNat 0 : List Int)).bind fun y343 => (if (wrap64 ((rd x7_4 x12_3) + t339)) = (rd y342 t337) then (if 0 ≤ x12_3 then (if x12_3 < (x8_4.length : Int) then (spec_loFar.l3 kj84 a1 (l0_0.length : Int) y342 (y343.set (t337 : Int).toNat (wrap64 ((rd y343 t337) + (rd y343 x12_3)))) y323 x12_3 t329 (t329.length : Int) (wrap64 (x95_4 + 1)) l0_0 l0_1 a0_2 t324 t327) else (none)) else (none)) else (spec_loFar.l3 kj84 a1 (l0_0.length : Int) y342 y343 y323 x12_3 t329 (t329.length : Int) (wrap64 (x95_4 + 1)) l0_0 l0_1 a0_2 t324 t327))) else (none))) else (none)) else (none)) = some (r1, r2) := by rw [if_pos rfl] at H; exact H
                            clear H
                            have H := H1
                            clear H1
                            by_cases c97 : 0 ≤ t337
                            ·
                             rw [if_pos c97] at H
                             have c97b0 : decide (0 ≤ t337) = true := decide_eq_true c97
                             clear c97
                             by_cases c98 : t337 < (x7_4.length : Int)
                             ·
                              rw [if_pos c98] at H
                              have c98b0 : decide (t337 < (x7_4.length : Int)) = true := decide_eq_true c98
                              clear c98
                              obtain ⟨y342, hy342⟩ : ∃ y_ : List Int, y_ = (x7_4.set (t337 : Int).toNat (wrap64 ((rd x7_4 x12_3) + t339))) := ⟨_, rfl⟩
                              replace H : (if t337 < (x8_4.length : Int) then ((some (x8_4.set (t337 : Int).toNat 0 : List Int)).bind fun y343 => (if (wrap64 ((rd x7_4 x12_3) + t339)) = (rd y342 t337) then (if 0 ≤ x12_3 then (if x12_3 < (x8_4.length : Int) then (spec_loFar.l3 kj84 a1 (l0_0.length : Int) y342 (y343.set (t337 : Int).toNat (wrap64 ((rd y343 t337) + (rd y343 x12_3)))) y323 x12_3 t329 (t329.length : Int) (wrap64 (x95_4 + 1)) l0_0 l0_1 a0_2 t324 t327) else (none)) else (none)) else (spec_loFar.l3 kj84 a1 (l0_0.length : Int) y342 y343 y323 x12_3 t329 (t329.length : Int) (wrap64 (x95_4 + 1)) l0_0 l0_1 a0_2 t324 t327))) else (none)) = some (r1, r2) := by first | (rw [hy342]; exact H) | exact H
                              have Ny342 := ak_ hy342
                              clear hy342
                              by_cases c100 : t337 < (x8_4.length : Int)
                              ·
                               rw [if_pos c100] at H
                               have c100b0 : decide (t337 < (x8_4.length : Int)) = true := decide_eq_true c100
                               clear c100
                               obtain ⟨y343, hy343⟩ : ∃ y_ : List Int, y_ = (x8_4.set (t337 : Int).toNat 0) := ⟨_, rfl⟩
                               replace H : (if (wrap64 ((rd x7_4 x12_3) + t339)) = (rd y342 t337) then (if 0 ≤ x12_3 then (if x12_3 < (x8_4.length : Int) then (spec_loFar.l3 kj84 a1 (l0_0.length : Int) y342 (y343.set (t337 : Int).toNat (wrap64 ((rd y343 t337) + (rd y343 x12_3)))) y323 x12_3 t329 (t329.length : Int) (wrap64 (x95_4 + 1)) l0_0 l0_1 a0_2 t324 t327) else (none)) else (none)) else (spec_loFar.l3 kj84 a1 (l0_0.length : Int) y342 y343 y323 x12_3 t329 (t329.length : Int) (wrap64 (x95_4 + 1)) l0_0 l0_1 a0_2 t324 t327)) = some (r1, r2) := by first | (rw [hy343]; exact H) | exact H
                               have Ny343 := ak_ hy343
                               clear hy343
                               have HC102 := ak_ H
                               clear H
                               have p99 : 0 ≤ (t337 : Int) := odt_ (by assumption)
                               have q99 : (t337 : Int) < ((x7_4.length : Int) : Int) := odt_ (by assumption)
                               obtain ⟨hx99_0, hf99_0⟩ := Kd.R_celln 0 HO_7.out (t337 : Int) p99 q99
                               replace p99 := eq_true p99
                               replace q99 := eq_true q99
                               have HP103 := Kd.R_putg HO_7.out (t337 : Int) (wrap64 ((rd x7_4 x12_3) + t339))
                               go_upto_if 137 with (first | ((with_reducible refine gate_store (t := 3) (p := 128) rfl ?_); refine store_event (t := 3) (p := 128) (v := ?vo_w104) (w1 := (wc.setCell ⟨go31, (t337 : Int).toNat, none⟩ (.int .i64 (wrap64 ((rd x7_4 x12_3) + t339))))) ?hg ?ho ?hn ?hr ?_; (case ho => rfl); (case hg => rfl); (case hn => rfl); (case hr => go_simp <;> rfl); intro w104 hw; have hg : wc.grownBy w104 (some go31) := (by rw [hw]; exact HP103.2); have hp_ : Kd.R (Kd.int .i64) 3 w104 w.heap.size (fun k_ => some k_ ≠ (.slice (some ⟨go33, 0, none⟩) x8_4.length co33 : Value).ownBlock) (.slice (some ⟨go31, 0, none⟩) x7_4.length co19) y342 := (by rw [hw, Ny342.out]; exact HP103.1); clear HP103; have n0_ := ak_ (hp_); have n1_ := ak_ (Kd.R_after (v := (.slice (some ⟨go31, 0, none⟩) x7_4.length co19)) (v1 := (.slice (some ⟨go31, 0, none⟩) x7_4.length co19)) (ok := (fun _ => True)) (by (with_reducible repeat (first | apply Kd.R_alloc | apply Kd.R_drewN | apply Kd.R_drew)); exact Kd.R_mono HO_8.out (fun _ hk => ⟨trivial, hk⟩)) hg (.inl rfl)); have n2_ := ak_ (Kd.R_over' (v := (.slice (some ⟨go31, 0, none⟩) x7_4.length co19)) (Kd.pR HO_9.out) (Kd.R_typed HO_7.out) (by decide) hg); have n3_ := ak_ (Kd.N_afterv (v := (.slice (some ⟨go31, 0, none⟩) x7_4.length co19)) (v1 := (.slice (some ⟨go31, 0, none⟩) x7_4.length co19)) (ok := (fun k_ => some k_ ≠ (.slice (some ⟨go33, 0, none⟩) x8_4.length co33 : Value).ownBlock ∧ some k_ ≠ (.slice (some ⟨go64, 0, none⟩) y323.length co64 : Value).ownBlock ∧ some k_ ≠ (.slice Ao71 t324.length co71 : Value).ownBlock ∧ k_ ≠ gb298 ∧ k_ ≠ gb328)) (by (with_reducible repeat (first | apply Kd.N_alloc | apply Kd.N_drewN | apply Kd.N_drew)); exact Kd.N_mono HO_93.out (fun _ hk => ⟨⟨hk.2.1, ⟨hk.2.2.1, ⟨hk.2.2.2.1, ⟨hk.2.2.2.2.1, hk.2.2.2.2.2⟩⟩⟩⟩, hk.1⟩)) hg (.inl rfl)); have n4_ := ak_ (Kd.R_over' (v := (.slice (some ⟨go31, 0, none⟩) x7_4.length co19)) (Kd.pR HO_329000.out) (Kd.R_typed HO_7.out) (by decide) hg); have n5_ := ak_ (blk_grown (pk BK298.out) hg (Kd.R_ne HO_7.out BK298.out (by decide))); have n6_ := ak_ (blk_grown (pk BK328.out) hg (Kd.R_ne HO_7.out BK328.out (by decide))); have n7_ := ak_ ((by rw [hw]; exact below_set (HB.out) GB31.out : Below w.heap.size w w104)); clear HO_7; clear HO_8; clear HO_9; clear HO_93; clear HO_329000; clear BK298; clear BK328; clear HB; have HO_7 := n0_; have HO_8 := n1_; have HO_9 := n2_; have HO_93 := n3_; have HO_329000 := n4_; have BK298 := n5_; have BK328 := n6_; have HB := n7_; clear n0_ n1_ n2_ n3_ n4_ n5_ n6_ n7_; clear hg hw hp_; have p101 : 0 ≤ (t337 : Int) := odt_ (by assumption); have q101 : (t337 : Int) < ((x8_4.length : Int) : Int) := odt_ (by assumption); obtain ⟨hx101_0, hf101_0⟩ := Kd.R_celln 0 HO_8.out (t337 : Int) p101 q101; replace p101 := eq_true p101; replace q101 := eq_true q101; have n_ := ak_ (Kd.R_mono (ok' := (fun k_ => some k_ ≠ (.slice (some ⟨go31, 0, none⟩) x7_4.length co19 : Value).ownBlock)) HO_8.out (fun k_ hk => hk.2)); clear HO_8; have HO_8 := n_; clear n_; obtain ⟨hy105_, hz105_⟩ := Kd.R_celln 0 HO_8.out (t337 : Int) (odt_ (by assumption)) (odt_ (by assumption)); have HP105 := Kd.R_putg HO_8.out (t337 : Int) 0) | ((with_reducible refine gate_store (t := 3) (p := 131) rfl ?_); refine store_event (t := 3) (p := 131) (v := ?vo_w106) (w1 := (w104.setCell ⟨go33, (t337 : Int).toNat, none⟩ (.int .i64 0))) ?hg ?ho ?hn ?hr ?_; (case ho => rfl); (case hg => rfl); (case hn => rfl); (case hr => go_simp <;> rfl); intro w106 hw; have hg : w104.grownBy w106 (some go33) := (by rw [hw]; exact HP105.2); have hp_ : Kd.R (Kd.int .i64) 3 w106 w.heap.size (fun k_ => some k_ ≠ (.slice (some ⟨go31, 0, none⟩) x7_4.length co19 : Value).ownBlock) (.slice (some ⟨go33, 0, none⟩) x8_4.length co33) y343 := (by rw [hw, Ny343.out]; exact HP105.1); clear HP105; have n0_ := ak_ (Kd.R_after (v := (.slice (some ⟨go33, 0, none⟩) x8_4.length co33)) (v1 := (.slice (some ⟨go33, 0, none⟩) x8_4.length co33)) (ok := (fun _ => True)) (by (with_reducible repeat (first | apply Kd.R_alloc | apply Kd.R_drewN | apply Kd.R_drew)); exact Kd.R_mono HO_7.out (fun _ hk => ⟨trivial, hk⟩)) hg (.inl rfl)); have n1_ := ak_ (hp_); have n2_ := ak_ (Kd.R_over' (v := (.slice (some ⟨go33, 0, none⟩) x8_4.length co33)) (Kd.pR HO_9.out) (Kd.R_typed HO_8.out) (by decide) hg); have n3_ := ak_ (Kd.N_afterv (v := (.slice (some ⟨go33, 0, none⟩) x8_4.length co33)) (v1 := (.slice (some ⟨go33, 0, none⟩) x8_4.length co33)) (ok := (fun k_ => some k_ ≠ (.slice (some ⟨go31, 0, none⟩) x7_4.length co19 : Value).ownBlock ∧ some k_ ≠ (.slice (some ⟨go64, 0, none⟩) y323.length co64 : Value).ownBlock ∧ some k_ ≠ (.slice Ao71 t324.length co71 : Value).ownBlock ∧ k_ ≠ gb298 ∧ k_ ≠ gb328)) (by (with_reducible repeat (first | apply Kd.N_alloc | apply Kd.N_drewN | apply Kd.N_drew)); exact Kd.N_mono HO_93.out (fun _ hk => ⟨⟨hk.2, ⟨hk.1.2.1, ⟨hk.1.2.2.1, ⟨hk.1.2.2.2.1, hk.1.2.2.2.2⟩⟩⟩⟩, hk.1.1⟩)) hg (.inl rfl)); have n4_ := ak_ (Kd.R_over' (v := (.slice (some ⟨go33, 0, none⟩) x8_4.length co33)) (Kd.pR HO_329000.out) (Kd.R_typed HO_8.out) (by decide) hg); have n5_ := ak_ (blk_grown (pk BK298.out) hg (Kd.R_ne HO_8.out BK298.out (by decide))); have n6_ := ak_ (blk_grown (pk BK328.out) hg (Kd.R_ne HO_8.out BK328.out (by decide))); have n7_ := ak_ ((by rw [hw]; exact below_set (HB.out) GB33.out : Below w.heap.size w w106)); clear HO_7; clear HO_8; clear HO_9; clear HO_93; clear HO_329000; clear BK298; clear BK328; clear HB; have HO_7 := n0_; have HO_8 := n1_; have HO_9 := n2_; have HO_93 := n3_; have HO_329000 := n4_; have BK298 := n5_; have BK328 := n6_; have HB := n7_; clear n0_ n1_ n2_ n3_ n4_ n5_ n6_ n7_; clear hg hw hp_; have p344 : 0 ≤ (t337 : Int) := odt_ (by assumption); have q344 : t337 < (y342.length : Int) := (by have h_ : (t337 : Int) < ((x7_4.length : Int) : Int) := odt_ (by assumption); first | (have e_ := (Kd.R_reads' HO_7.out).1; omega) | simpa only [Ny342.out, List.length_set] using h_); have ql344 : ((t337 : Int) < ((x7_4.length : Int) : Int)) = True := eq_true (odt_ (by assumption)); obtain ⟨ad344, e344, hx344_0⟩ := Kd.at_int (Kd.R_reads' HO_7.out).2.2 t337 p344 q344; obtain rfl : (⟨go31, 0, none⟩ : Addr) = ad344 := (by injection e344); (first | simp only [add_plain] at hx344_0 | simp only [add_at] at hx344_0 | simp only [Addr.add, Nat.zero_add] at hx344_0 | skip); replace p344 := eq_true p344; replace q344 := eq_true q344))
                               (try simp only [Act.put, setIfInBounds_toArray, set_cons_zero, set_cons_succ])
                               have H := HC102.out
                               clear HC102
                               by_cases c107 : (wrap64 ((rd x7_4 x12_3) + t339)) = (rd y342 t337)
                               ·
                                rw [if_pos c107] at H
                                have c107b0 : ((wrap64 ((rd x7_4 x12_3) + t339)) == (rd y342 t337)) = true := beq_iff_eq.mpr c107
                                have c107b1 : ((wrap64 ((rd x7_4 x12_3) + t339)) != (rd y342 t337)) = false := bne_eq_false_iff_eq.mpr c107
                                clear c107
                                (first | rw [c107b0] | (simp only [i64_w, i32_w]; rw [c107b0]) | rw [c107b1] | skip)
                                by_cases c108 : 0 ≤ x12_3
                                ·
                                 rw [if_pos c108] at H
                                 have c108b0 : decide (0 ≤ x12_3) = true := decide_eq_true c108
                                 clear c108
                                 by_cases c109 : x12_3 < (x8_4.length : Int)
                                 ·
                                  rw [if_pos c109] at H
                                  have c109b0 : decide (x12_3 < (x8_4.length : Int)) = true := decide_eq_true c109
                                  clear c109
                                  obtain ⟨y347, hy347⟩ : ∃ y_ : List Int, y_ = (y343.set (t337 : Int).toNat (wrap64 ((rd y343 t337) + (rd y343 x12_3)))) := ⟨_, rfl⟩
                                  replace H : (spec_loFar.l3 kj84 a1 (l0_0.length : Int) y342 y347 y323 x12_3 t329 (t329.length : Int) (wrap64 (x95_4 + 1)) l0_0 l0_1 a0_2 t324 t327) = some (r1, r2) := by first | (rw [hy347]; exact H) | exact H
                                  have Ny347 := ak_ hy347
                                  clear hy347
                                  have H' := ak_ H
                                  clear H
                                  try go_wp2
                                  have n0_ := ak_ (Kd.R_drew HO_7.out)
                                  have n1_ := ak_ (Kd.R_drew HO_8.out)
                                  have n2_ := ak_ (Kd.R_drew HO_9.out)
                                  have n3_ := ak_ (Kd.N_drew HO_93.out)
                                  have n4_ := ak_ (Kd.R_drew HO_329000.out)
                                  have n5_ := ak_ (k1_ BK298.out)
                                  have n6_ := ak_ (k1_ BK328.out)
                                  have n7_ := ak_ (b1_ HB.out)
                                  clear HO_7 HO_8 HO_9 HO_93 HO_329000 BK298 BK328 HB
                                  have HO_7 := n0_; have HO_8 := n1_; have HO_9 := n2_; have HO_93 := n3_; have HO_329000 := n4_; have BK298 := n5_; have BK328 := n6_; have HB := n7_
                                  clear n0_ n1_ n2_ n3_ n4_ n5_ n6_ n7_
                                  have p345 : 0 ≤ (t337 : Int) := odt_ (by assumption)
                                  have q345 : t337 < (y343.length : Int) := (by have h_ : (t337 : Int) < ((x8_4.length : Int) : Int) := odt_ (by assumption); first | (have e_ := (Kd.R_reads' HO_8.out).1; omega) | simpa only [Ny343.out, List.length_set] using h_)
                                  have ql345 : ((t337 : Int) < ((x8_4.length : Int) : Int)) = True := eq_true (odt_ (by assumption))
                                  obtain ⟨ad345, e345, hx345_0⟩ := Kd.at_int (Kd.R_reads' HO_8.out).2.2 t337 p345 q345
                                  obtain rfl : (⟨go33, 0, none⟩ : Addr) = ad345 := (by injection e345)
                                  (first | simp only [add_plain] at hx345_0 | simp only [add_at] at hx345_0 | simp only [Addr.add, Nat.zero_add] at hx345_0 | skip)
                                  replace p345 := eq_true p345
                                  replace q345 := eq_true q345
                                  have p346 : 0 ≤ (x12_3 : Int) := odt_ (by assumption)
                                  have q346 : x12_3 < (y343.length : Int) := (by have h_ : (x12_3 : Int) < ((x8_4.length : Int) : Int) := odt_ (by assumption); first | (have e_ := (Kd.R_reads' HO_8.out).1; omega) | simpa only [Ny343.out, List.length_set] using h_)
                                  have ql346 : ((x12_3 : Int) < ((x8_4.length : Int) : Int)) = True := eq_true (odt_ (by assumption))
                                  obtain ⟨ad346, e346, hx346_0⟩ := Kd.at_int (Kd.R_reads' HO_8.out).2.2 x12_3 p346 q346
                                  obtain rfl : (⟨go33, 0, none⟩ : Addr) = ad346 := (by injection e346)
                                  (first | simp only [add_plain] at hx346_0 | simp only [add_at] at hx346_0 | simp only [Addr.add, Nat.zero_add] at hx346_0 | skip)
                                  replace p346 := eq_true p346
                                  replace q346 := eq_true q346
                                  have p110 : 0 ≤ (t337 : Int) := odt_ (by assumption)
                                  have q110 : (t337 : Int) < ((x8_4.length : Int) : Int) := odt_ (by assumption)
                                  obtain ⟨hx110_0, hf110_0⟩ := Kd.R_celln 0 HO_8.out (t337 : Int) p110 q110
                                  replace p110 := eq_true p110
                                  replace q110 := eq_true q110
                                  have HP112 := Kd.R_putn HO_8.out (t337 : Int) (wrap64 ((rd y343 t337) + (rd y343 x12_3)))
                                  rw [← Ny347.out] at HP112
                                  have HQ112 := ak_ HP112
                                  clear HP112
                                  refine start_ (n := 11) (S := fun w' => w'.cell? ⟨go33, (t337).toNat, none⟩ = some (.int .i64 (rd y343 t337)) ∧ w'.cell? ⟨go33, (x12_3).toNat, none⟩ = some (.int .i64 (rd y343 x12_3))) (ds := [10]) (mb_ 11 0) (by kernel_rfl) rfl rfl ⟨hx345_0, hx346_0⟩ (fun hHeld => ?_); refine with_tabW spec_loFar.tab32 spec_loFar.bits32 (fun HT_ HW_ => ?_)
                                  generalize w106.drew = w111 at HO_7 HO_8 HO_9 HO_93 HO_329000 BK298 BK328 HB HQ112 hf110_0 hx110_0 hx345_0 hx346_0 hHeld ⊢
                                  refine pu_ 0 138 11 1 ?_
                                  refine pu_ 1 139 11 3 ?_
                                  refine pu_ 2 140 11 7 ?_
                                  refine pu_ 4 142 11 23 ?_
                                  refine pu_ 5 143 11 55 ?_
                                  refine pu_ 6 144 11 119 ?_
                                  refine tk_ 3 141 11 127 ?_ (hy := by rintro w' ⟨s0, s1⟩; go_simp; with_reducible rfl)
                                  refine tk_ 7 145 11 255 ?_ (hy := by rintro w' ⟨s0, s1⟩; go_simp; with_reducible rfl)
                                  refine pu_ 8 146 11 511 ?_
                                  refine pu_ 9 147 11 1023 ?_
                                  refine last_ (i := 10) (N := none) (mb_ 11 2047) rfl rfl (one_of HT_.out (by kernel_rfl)) (by decide) (fun K hK => ?_)
                                  refine skip_ (w1 := ?_) (by rfl) rfl ?_ ?_
                                  rotate_left
                                  ·
                                   go_simp
                                   rfl
                                  refine hK.out _ _ ?_
                                  clear hK K
                                  refine done_ (done_of HT_.out (by kernel_rfl)) ?_
                                  try go_wp2
                                  (try simp only [← hl7_4, ← hl8_4, ← hl9_4])
                                  go_roundg kj84
                                  case measure => have := HK1.out; have := HK2.out; have := HK3.out; have := HK4.out; have := HJ84.out; omega
                                  case rel => exact ⟨(y342), (y347), (wrap64 (x95_4 + 1)), (ry_), H', ⟨by have := HK1.out; have := HK2.out; have := HK3.out; have := HK4.out; have := HJ84.out; omega⟩, ⟨by (try simp only [hl7_1, hl7_2, hl8_2, hl7_4, hl8_4, hl9_4]); (with_reducible repeat (first | apply Kd.R_alloc | apply Kd.R_drewN | apply Kd.R_drew)); exact Kd.R_mono (Kd.R_far (p := ⟨go33, (t337 : Int).toNat, none⟩) (Kd.R_mono HO_7.out (fun k_ hk => (⟨hk, fun e_ => hk.2 (by rw [e_]; rfl)⟩ : _ ∧ k_ ≠ go33))) (fun _ hk => hk.2) (.int .i64 (wrap64 ((rd y343 t337) + (rd y343 x12_3))))) (fun _ hk => hk.1.2)⟩, ⟨by (try simp only [hl7_1, hl7_2, hl8_2, hl7_4, hl8_4, hl9_4]); exact Kd.pR HQ112.out⟩, ⟨by (try simp only [hl7_1, hl7_2, hl8_2, hl7_4, hl8_4, hl9_4]); (with_reducible repeat (first | apply Kd.R_alloc | apply Kd.R_drewN | apply Kd.R_drew)); exact Kd.R_mono (Kd.R_far (p := ⟨go33, (t337 : Int).toNat, none⟩) (Kd.R_types HO_9.out (Exists.choose_spec (Kd.R_typed HO_8.out go33 rfl)) (by decide)) (fun _ hk => hk.2) (.int .i64 (wrap64 ((rd y343 t337) + (rd y343 x12_3))))) (fun _ hk => hk.1)⟩, ⟨by (try simp only [hl7_1, hl7_2, hl8_2, hl7_4, hl8_4, hl9_4]); (with_reducible repeat (first | apply Kd.N_alloc | apply Kd.N_drewN | apply Kd.N_drew)); exact Kd.N_mono (Kd.N_far (p := ⟨go33, (t337 : Int).toNat, none⟩) (Kd.N_mono HO_93.out (fun k_ hk => (⟨hk, fun e_ => hk.2 (by rw [e_]; rfl)⟩ : _ ∧ k_ ≠ go33))) (fun _ hk => hk.2) (.int .i64 (wrap64 ((rd y343 t337) + (rd y343 x12_3))))) (fun _ hk => ⟨hk.1.1.1, ⟨hk.1.2, ⟨hk.1.1.2.1, ⟨hk.1.1.2.2.1, ⟨hk.1.1.2.2.2.1, hk.1.1.2.2.2.2⟩⟩⟩⟩⟩)⟩, ⟨by (try simp only [hl7_1, hl7_2, hl8_2, hl7_4, hl8_4, hl9_4]); (with_reducible repeat (first | apply Kd.R_alloc | apply Kd.R_drewN | apply Kd.R_drew)); exact Kd.R_mono (Kd.R_far (p := ⟨go33, (t337 : Int).toNat, none⟩) (Kd.R_types HO_329000.out (Exists.choose_spec (Kd.R_typed HO_8.out go33 rfl)) (by decide)) (fun _ hk => hk.2) (.int .i64 (wrap64 ((rd y343 t337) + (rd y343 x12_3))))) (fun _ hk => hk.1)⟩, ⟨by (try simp only [hl7_1, hl7_2, hl8_2, hl7_4, hl8_4, hl9_4]); (with_reducible repeat (first | refine kN_ ?_ _ | refine k1_ ?_ | refine ka_ ?_ _)); refine blk_far ?_ (by have h_ := Kd.R_ne HO_8.out BK298.out (by decide); intro e_; exact h_ (by rw [e_]; rfl)) _; exact pk BK298.out⟩, ⟨by (try simp only [hl7_1, hl7_2, hl8_2, hl7_4, hl8_4, hl9_4]); (with_reducible repeat (first | refine kN_ ?_ _ | refine k1_ ?_ | refine ka_ ?_ _)); refine blk_far ?_ (by have h_ := Kd.R_ne HO_8.out BK328.out (by decide); intro e_; exact h_ (by rw [e_]; rfl)) _; exact pk BK328.out⟩, ⟨by repeat (first | exact HB.out | apply ba_ | apply bN_ | apply b1_ | refine below_set ?_ GB33.out | refine below_set ?_ (Aside0.out (by assumption)))⟩⟩
                                 ·
                                  rw [if_neg c109] at H
                                  exact absurd H (by simp)
                                ·
                                 rw [if_neg c108] at H
                                 exact absurd H (by simp)
                               ·
                                rw [if_neg c107] at H
                                have c107b0 : ((wrap64 ((rd x7_4 x12_3) + t339)) == (rd y342 t337)) = false := beq_eq_false_iff_ne.mpr c107
                                have c107b1 : ((wrap64 ((rd x7_4 x12_3) + t339)) != (rd y342 t337)) = true := bne_iff_ne.mpr c107
                                (first | rw [c107b0] | (simp only [i64_w, i32_w]; rw [c107b0]) | rw [c107b1] | skip)
                                have H' := ak_ H
                                clear H
                                go_wp2
                                (try simp only [← hl7_4, ← hl8_4, ← hl9_4])
                                go_roundg kj84
                                case measure => have := HK1.out; have := HK2.out; have := HK3.out; have := HK4.out; have := HJ84.out; omega
                                case rel => exact ⟨(y342), (y343), (wrap64 (x95_4 + 1)), (ry_), H', ⟨by have := HK1.out; have := HK2.out; have := HK3.out; have := HK4.out; have := HJ84.out; omega⟩, ⟨by (try simp only [hl7_1, hl7_2, hl8_2, hl7_4, hl8_4, hl9_4]); (with_reducible repeat (first | apply Kd.R_alloc | apply Kd.R_drewN | apply Kd.R_drew)); exact Kd.R_mono HO_7.out (fun _ hk => hk.2)⟩, ⟨by (try simp only [hl7_1, hl7_2, hl8_2, hl7_4, hl8_4, hl9_4]); exact Kd.pR HO_8.out⟩, ⟨by (try simp only [hl7_1, hl7_2, hl8_2, hl7_4, hl8_4, hl9_4]); exact Kd.pR HO_9.out⟩, ⟨by (try simp only [hl7_1, hl7_2, hl8_2, hl7_4, hl8_4, hl9_4]); (with_reducible repeat (first | apply Kd.N_alloc | apply Kd.N_drewN | apply Kd.N_drew)); exact Kd.N_mono HO_93.out (fun _ hk => ⟨hk.1.1, ⟨hk.2, ⟨hk.1.2.1, ⟨hk.1.2.2.1, ⟨hk.1.2.2.2.1, hk.1.2.2.2.2⟩⟩⟩⟩⟩)⟩, ⟨by (try simp only [hl7_1, hl7_2, hl8_2, hl7_4, hl8_4, hl9_4]); exact Kd.pR HO_329000.out⟩, ⟨by (try simp only [hl7_1, hl7_2, hl8_2, hl7_4, hl8_4, hl9_4]); exact pk BK298.out⟩, ⟨by (try simp only [hl7_1, hl7_2, hl8_2, hl7_4, hl8_4, hl9_4]); exact pk BK328.out⟩, ⟨by repeat (first | exact HB.out | apply ba_ | apply bN_ | apply b1_ | refine below_set ?_ (Aside0.out (by assumption)))⟩⟩
                              ·
                               rw [if_neg c100] at H
                               exact absurd H (by simp)
                             ·
                              rw [if_neg c98] at H
                              exact absurd H (by simp)
                            ·
                             rw [if_neg c97] at H
                             exact absurd H (by simp)
                           ·
                            replace c96 := Bool.eq_false_iff.mpr c96
                            subst c96
                            have H1 : (if 0 ≤ t337 then (if t337 < (x7_4.length : Int) then (if (wrap64 ((rd x7_4 x12_3) + t339)) = (rd x7_4 t337) then (if t337 < (x8_4.length : Int) then (if 0 ≤ x12_3 then (if x12_3 < (x8_4.length : Int) then (spec_loFar.l3 kj84 a1 (l0_0.length : Int) x7_4 (x8_4.set (t337 : Int).toNat (wrap64 ((rd x8_4 t337) + (rd x8_4 x12_3)))) y323 x12_3 t329 (t329.length : Int) (wrap64 (x95_4 + 1)) l0_0 l0_1 a0_2 t324 t327) else (none)) else (none)) else (none)) else (spec_loFar.l3 kj84 a1 (l0_0.length : Int) x7_4 x8_4 y323 x12_3 t329 (t329.length : Int) (wrap64 (x95_4 + 1)) l0_0 l0_1 a0_2 t324 t327)) else (none)) else (none)) = some (r1, r2) := by rw [if_neg (show ¬ (false = true) by decide)] at H; exact H
                            clear H
                            have H := H1
                            clear H1
                            by_cases c113 : 0 ≤ t337
                            ·
                             rw [if_pos c113] at H
                             have c113b0 : decide (0 ≤ t337) = true := decide_eq_true c113
                             clear c113
                             by_cases c114 : t337 < (x7_4.length : Int)
                             ·
                              rw [if_pos c114] at H
                              have c114b0 : decide (t337 < (x7_4.length : Int)) = true := decide_eq_true c114
                              clear c114
                              have HC115 := ak_ H
                              clear H
                              have p348 : 0 ≤ (t337 : Int) := odt_ (by assumption)
                              have q348 : t337 < (x7_4.length : Int) := odt_ (by assumption)
                              obtain ⟨ad348, e348, hx348_0⟩ := Kd.at_int (Kd.R_reads' HO_7.out).2.2 t337 p348 q348
                              obtain rfl : (⟨go31, 0, none⟩ : Addr) = ad348 := (by injection e348)
                              (first | simp only [add_plain] at hx348_0 | simp only [add_at] at hx348_0 | simp only [Addr.add, Nat.zero_add] at hx348_0 | skip)
                              replace p348 := eq_true p348
                              replace q348 := eq_true q348
                              go_upto_if 137 with (fail)
                              have H := HC115.out
                              clear HC115
                              by_cases c116 : (wrap64 ((rd x7_4 x12_3) + t339)) = (rd x7_4 t337)
                              ·
                               rw [if_pos c116] at H
                               have c116b0 : ((wrap64 ((rd x7_4 x12_3) + t339)) == (rd x7_4 t337)) = true := beq_iff_eq.mpr c116
                               have c116b1 : ((wrap64 ((rd x7_4 x12_3) + t339)) != (rd x7_4 t337)) = false := bne_eq_false_iff_eq.mpr c116
                               clear c116
                               (first | rw [c116b0] | (simp only [i64_w, i32_w]; rw [c116b0]) | rw [c116b1] | skip)
                               by_cases c117 : t337 < (x8_4.length : Int)
                               ·
                                rw [if_pos c117] at H
                                have c117b0 : decide (t337 < (x8_4.length : Int)) = true := decide_eq_true c117
                                clear c117
                                by_cases c118 : 0 ≤ x12_3
                                ·
                                 rw [if_pos c118] at H
                                 have c118b0 : decide (0 ≤ x12_3) = true := decide_eq_true c118
                                 clear c118
                                 by_cases c119 : x12_3 < (x8_4.length : Int)
                                 ·
                                  rw [if_pos c119] at H
                                  have c119b0 : decide (x12_3 < (x8_4.length : Int)) = true := decide_eq_true c119
                                  clear c119
                                  obtain ⟨y351, hy351⟩ : ∃ y_ : List Int, y_ = (x8_4.set (t337 : Int).toNat (wrap64 ((rd x8_4 t337) + (rd x8_4 x12_3)))) := ⟨_, rfl⟩
                                  replace H : (spec_loFar.l3 kj84 a1 (l0_0.length : Int) x7_4 y351 y323 x12_3 t329 (t329.length : Int) (wrap64 (x95_4 + 1)) l0_0 l0_1 a0_2 t324 t327) = some (r1, r2) := by first | (rw [hy351]; exact H) | exact H
                                  have Ny351 := ak_ hy351
                                  clear hy351
                                  have H' := ak_ H
                                  clear H
                                  try go_wp2
                                  have n0_ := ak_ (Kd.R_drew HO_7.out)
                                  have n1_ := ak_ (Kd.R_drew HO_8.out)
                                  have n2_ := ak_ (Kd.R_drew HO_9.out)
                                  have n3_ := ak_ (Kd.N_drew HO_93.out)
                                  have n4_ := ak_ (Kd.R_drew HO_329000.out)
                                  have n5_ := ak_ (k1_ BK298.out)
                                  have n6_ := ak_ (k1_ BK328.out)
                                  have n7_ := ak_ (Kd.C_drew HR332_0.out)
                                  have n8_ := ak_ (b1_ HB.out)
                                  clear HO_7 HO_8 HO_9 HO_93 HO_329000 BK298 BK328 HR332_0 HB
                                  have HO_7 := n0_; have HO_8 := n1_; have HO_9 := n2_; have HO_93 := n3_; have HO_329000 := n4_; have BK298 := n5_; have BK328 := n6_; have HR332_0 := n7_; have HB := n8_
                                  clear n0_ n1_ n2_ n3_ n4_ n5_ n6_ n7_ n8_
                                  have p349 : 0 ≤ (t337 : Int) := odt_ (by assumption)
                                  have q349 : t337 < (x8_4.length : Int) := odt_ (by assumption)
                                  obtain ⟨ad349, e349, hx349_0⟩ := Kd.at_int (Kd.R_reads' HO_8.out).2.2 t337 p349 q349
                                  obtain rfl : (⟨go33, 0, none⟩ : Addr) = ad349 := (by injection e349)
                                  (first | simp only [add_plain] at hx349_0 | simp only [add_at] at hx349_0 | simp only [Addr.add, Nat.zero_add] at hx349_0 | skip)
                                  replace p349 := eq_true p349
                                  replace q349 := eq_true q349
                                  have p350 : 0 ≤ (x12_3 : Int) := odt_ (by assumption)
                                  have q350 : x12_3 < (x8_4.length : Int) := odt_ (by assumption)
                                  obtain ⟨ad350, e350, hx350_0⟩ := Kd.at_int (Kd.R_reads' HO_8.out).2.2 x12_3 p350 q350
                                  obtain rfl : (⟨go33, 0, none⟩ : Addr) = ad350 := (by injection e350)
                                  (first | simp only [add_plain] at hx350_0 | simp only [add_at] at hx350_0 | simp only [Addr.add, Nat.zero_add] at hx350_0 | skip)
                                  replace p350 := eq_true p350
                                  replace q350 := eq_true q350
                                  have p120 : 0 ≤ (t337 : Int) := odt_ (by assumption)
                                  have q120 : (t337 : Int) < ((x8_4.length : Int) : Int) := odt_ (by assumption)
                                  obtain ⟨hx120_0, hf120_0⟩ := Kd.R_celln 0 HO_8.out (t337 : Int) p120 q120
                                  replace p120 := eq_true p120
                                  replace q120 := eq_true q120
                                  have HP122 := Kd.R_putn HO_8.out (t337 : Int) (wrap64 ((rd x8_4 t337) + (rd x8_4 x12_3)))
                                  rw [← Ny351.out] at HP122
                                  have HQ122 := ak_ HP122
                                  clear HP122
                                  refine start_ (n := 11) (S := fun w' => w'.cell? ⟨go33, (t337).toNat, none⟩ = some (.int .i64 (rd x8_4 t337)) ∧ w'.cell? ⟨go33, (x12_3).toNat, none⟩ = some (.int .i64 (rd x8_4 x12_3))) (ds := [10]) (mb_ 11 0) (by kernel_rfl) rfl rfl ⟨hx349_0, hx350_0⟩ (fun hHeld => ?_); refine with_tabW spec_loFar.tab32 spec_loFar.bits32 (fun HT_ HW_ => ?_)
                                  generalize wc.drew = w121 at HO_7 HO_8 HO_9 HO_93 HO_329000 BK298 BK328 HR332_0 HB HQ122 hf120_0 hx120_0 hx349_0 hx350_0 hHeld ⊢
                                  refine pu_ 0 138 11 1 ?_
                                  refine pu_ 1 139 11 3 ?_
                                  refine pu_ 2 140 11 7 ?_
                                  refine pu_ 4 142 11 23 ?_
                                  refine pu_ 5 143 11 55 ?_
                                  refine pu_ 6 144 11 119 ?_
                                  refine tk_ 3 141 11 127 ?_ (hy := by rintro w' ⟨s0, s1⟩; go_simp; with_reducible rfl)
                                  refine tk_ 7 145 11 255 ?_ (hy := by rintro w' ⟨s0, s1⟩; go_simp; with_reducible rfl)
                                  refine pu_ 8 146 11 511 ?_
                                  refine pu_ 9 147 11 1023 ?_
                                  refine last_ (i := 10) (N := none) (mb_ 11 2047) rfl rfl (one_of HT_.out (by kernel_rfl)) (by decide) (fun K hK => ?_)
                                  refine skip_ (w1 := ?_) (by rfl) rfl ?_ ?_
                                  rotate_left
                                  ·
                                   go_simp
                                   rfl
                                  refine hK.out _ _ ?_
                                  clear hK K
                                  refine done_ (done_of HT_.out (by kernel_rfl)) ?_
                                  try go_wp2
                                  (try simp only [← hl7_4, ← hl8_4, ← hl9_4])
                                  go_roundg kj84
                                  case measure => have := HK1.out; have := HK2.out; have := HK3.out; have := HK4.out; have := HJ84.out; omega
                                  case rel => exact ⟨(x7_4), (y351), (wrap64 (x95_4 + 1)), (ry_), H', ⟨by have := HK1.out; have := HK2.out; have := HK3.out; have := HK4.out; have := HJ84.out; omega⟩, ⟨by (try simp only [hl7_1, hl7_2, hl8_2, hl7_4, hl8_4, hl9_4]); (with_reducible repeat (first | apply Kd.R_alloc | apply Kd.R_drewN | apply Kd.R_drew)); exact Kd.R_mono (Kd.R_far (p := ⟨go33, (t337 : Int).toNat, none⟩) (Kd.R_mono HO_7.out (fun k_ hk => (⟨hk, fun e_ => hk (by rw [e_]; rfl)⟩ : _ ∧ k_ ≠ go33))) (fun _ hk => hk.2) (.int .i64 (wrap64 ((rd x8_4 t337) + (rd x8_4 x12_3))))) (fun _ hk => hk.1)⟩, ⟨by (try simp only [hl7_1, hl7_2, hl8_2, hl7_4, hl8_4, hl9_4]); exact Kd.pR HQ122.out⟩, ⟨by (try simp only [hl7_1, hl7_2, hl8_2, hl7_4, hl8_4, hl9_4]); (with_reducible repeat (first | apply Kd.R_alloc | apply Kd.R_drewN | apply Kd.R_drew)); exact Kd.R_mono (Kd.R_far (p := ⟨go33, (t337 : Int).toNat, none⟩) (Kd.R_types HO_9.out (Exists.choose_spec (Kd.R_typed HO_8.out go33 rfl)) (by decide)) (fun _ hk => hk.2) (.int .i64 (wrap64 ((rd x8_4 t337) + (rd x8_4 x12_3))))) (fun _ hk => hk.1)⟩, ⟨by (try simp only [hl7_1, hl7_2, hl8_2, hl7_4, hl8_4, hl9_4]); (with_reducible repeat (first | apply Kd.N_alloc | apply Kd.N_drewN | apply Kd.N_drew)); exact Kd.N_mono (Kd.N_far (p := ⟨go33, (t337 : Int).toNat, none⟩) (Kd.N_mono HO_93.out (fun k_ hk => (⟨hk, fun e_ => hk.2.1 (by rw [e_]; rfl)⟩ : _ ∧ k_ ≠ go33))) (fun _ hk => hk.2) (.int .i64 (wrap64 ((rd x8_4 t337) + (rd x8_4 x12_3))))) (fun _ hk => ⟨hk.1.1, ⟨hk.1.2.1, ⟨hk.1.2.2.1, ⟨hk.1.2.2.2.1, ⟨hk.1.2.2.2.2.1, hk.1.2.2.2.2.2⟩⟩⟩⟩⟩)⟩, ⟨by (try simp only [hl7_1, hl7_2, hl8_2, hl7_4, hl8_4, hl9_4]); (with_reducible repeat (first | apply Kd.R_alloc | apply Kd.R_drewN | apply Kd.R_drew)); exact Kd.R_mono (Kd.R_far (p := ⟨go33, (t337 : Int).toNat, none⟩) (Kd.R_types HO_329000.out (Exists.choose_spec (Kd.R_typed HO_8.out go33 rfl)) (by decide)) (fun _ hk => hk.2) (.int .i64 (wrap64 ((rd x8_4 t337) + (rd x8_4 x12_3))))) (fun _ hk => hk.1)⟩, ⟨by (try simp only [hl7_1, hl7_2, hl8_2, hl7_4, hl8_4, hl9_4]); (with_reducible repeat (first | refine kN_ ?_ _ | refine k1_ ?_ | refine ka_ ?_ _)); refine blk_far ?_ (by have h_ := Kd.R_ne HO_8.out BK298.out (by decide); intro e_; exact h_ (by rw [e_]; rfl)) _; exact pk BK298.out⟩, ⟨by (try simp only [hl7_1, hl7_2, hl8_2, hl7_4, hl8_4, hl9_4]); (with_reducible repeat (first | refine kN_ ?_ _ | refine k1_ ?_ | refine ka_ ?_ _)); refine blk_far ?_ (by have h_ := Kd.R_ne HO_8.out BK328.out (by decide); intro e_; exact h_ (by rw [e_]; rfl)) _; exact pk BK328.out⟩, ⟨by repeat (first | exact HB.out | apply ba_ | apply bN_ | apply b1_ | refine below_set ?_ GB33.out | refine below_set ?_ (Aside0.out (by assumption)))⟩⟩
                                 ·
                                  rw [if_neg c119] at H
                                  exact absurd H (by simp)
                                ·
                                 rw [if_neg c118] at H
                                 exact absurd H (by simp)
                               ·
                                rw [if_neg c117] at H
                                exact absurd H (by simp)
                              ·
                               rw [if_neg c116] at H
                               have c116b0 : ((wrap64 ((rd x7_4 x12_3) + t339)) == (rd x7_4 t337)) = false := beq_eq_false_iff_ne.mpr c116
                               have c116b1 : ((wrap64 ((rd x7_4 x12_3) + t339)) != (rd x7_4 t337)) = true := bne_iff_ne.mpr c116
                               (first | rw [c116b0] | (simp only [i64_w, i32_w]; rw [c116b0]) | rw [c116b1] | skip)
                               have H' := ak_ H
                               clear H
                               go_wp2
                               (try simp only [← hl7_4, ← hl8_4, ← hl9_4])
                               go_roundg kj84
                               case measure => have := HK1.out; have := HK2.out; have := HK3.out; have := HK4.out; have := HJ84.out; omega
                               case rel => exact ⟨(x7_4), (x8_4), (wrap64 (x95_4 + 1)), (ry_), H', ⟨by have := HK1.out; have := HK2.out; have := HK3.out; have := HK4.out; have := HJ84.out; omega⟩, ⟨by (try simp only [hl7_1, hl7_2, hl8_2, hl7_4, hl8_4, hl9_4]); exact Kd.pR HO_7.out⟩, ⟨by (try simp only [hl7_1, hl7_2, hl8_2, hl7_4, hl8_4, hl9_4]); exact Kd.pR HO_8.out⟩, ⟨by (try simp only [hl7_1, hl7_2, hl8_2, hl7_4, hl8_4, hl9_4]); exact Kd.pR HO_9.out⟩, ⟨by (try simp only [hl7_1, hl7_2, hl8_2, hl7_4, hl8_4, hl9_4]); exact Kd.pN HO_93.out⟩, ⟨by (try simp only [hl7_1, hl7_2, hl8_2, hl7_4, hl8_4, hl9_4]); exact Kd.pR HO_329000.out⟩, ⟨by (try simp only [hl7_1, hl7_2, hl8_2, hl7_4, hl8_4, hl9_4]); exact pk BK298.out⟩, ⟨by (try simp only [hl7_1, hl7_2, hl8_2, hl7_4, hl8_4, hl9_4]); exact pk BK328.out⟩, ⟨by repeat (first | exact HB.out | apply ba_ | apply bN_ | apply b1_ | refine below_set ?_ (Aside0.out (by assumption)))⟩⟩
                             ·
                              rw [if_neg c114] at H
                              exact absurd H (by simp)
                            ·
                             rw [if_neg c113] at H
                             exact absurd H (by simp)
                        ·
                         rw [if_neg c83] at H
                         exact absurd H (by simp)
                       ·
                        rw [if_neg c82] at H
                        exact absurd H (by simp)
                      ·
                       rw [if_neg c79] at H
                       exact absurd H (by simp)
                     ·
                      rw [if_neg c78] at H
                      exact absurd H (by simp)
                    ·
                     rw [if_neg c77] at H
                     have c77b0 : decide (x95_4 < (t329.length : Int)) = false := decide_eq_false c77
                     have c77b9 := c77b0; (try rw [hl7_4] at c77b9); (try rw [hl8_4] at c77b9); (try rw [hl9_4] at c77b9)
                     clear c77
                     have H' := ak_ H
                     clear H
                     go_wp2
                     (try simp only [← hl7_2, ← hl8_2, ← hl7_4, ← hl8_4, ← hl9_4])
                     go_roundg k4
                     case measure => have := HK1.out; have := HK2.out; have := HK3.out; have := HK4.out; omega
                     case rel => exact ⟨(x7_4), (x8_4), (y323), H', ⟨by have := HK1.out; have := HK2.out; have := HK3.out; have := HK4.out; omega⟩, ⟨by (try simp only [hl7_1, hl7_2, hl8_2, hl7_4, hl8_4, hl9_4]); exact Kd.pR HO_7.out⟩, ⟨by (try simp only [hl7_1, hl7_2, hl8_2, hl7_4, hl8_4, hl9_4]); exact Kd.pR HO_8.out⟩, ⟨by (try simp only [hl7_1, hl7_2, hl8_2, hl7_4, hl8_4, hl9_4]); (with_reducible repeat (first | apply Kd.R_alloc | apply Kd.R_drewN | apply Kd.R_drew)); exact Kd.R_mono HO_9.out (fun _ hk => trivial)⟩, ⟨by (try simp only [hl7_1, hl7_2, hl8_2, hl7_4, hl8_4, hl9_4]); exact pk BK298.out⟩, ⟨by repeat (first | exact HB.out | apply ba_ | apply bN_ | apply b1_ | refine below_set ?_ (Aside0.out (by assumption)))⟩⟩
                 ·
                  rw [if_neg c63] at H
                  exact absurd H (by simp)
                ·
                 rw [if_neg c62] at H
                 exact absurd H (by simp)
         ·
          rw [if_neg c32] at H
          exact absurd H (by simp)
        ·
         rw [if_neg c30] at H
         exact absurd H (by simp)
       ·
        rw [if_neg c29] at H
        exact absurd H (by simp)
   ·
    rw [if_neg c8] at H
    exact absurd H (by simp)
  ·
   rw [if_neg c5] at H
   exact absurd H (by simp)
 ·
  rw [if_neg c4] at H
  exact absurd H (by simp)
end Go.Proofs.Ythkchdfkeieabaa.QGr
