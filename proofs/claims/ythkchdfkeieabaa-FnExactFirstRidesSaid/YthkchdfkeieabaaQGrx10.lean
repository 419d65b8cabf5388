/- Contracts of functions of the given program, walked. Conditions: those at each theorem. -/
import Derived.Test.YthkchdfkeieabaaQGrx0
import Derived.Test.YthkchdfkeieabaaQGrx4
import Derived.Test.YthkchdfkeieabaaQGrx8
namespace Go.Proofs.Ythkchdfkeieabaa.QGr
open Go.RowKit Go.Proofs.YthkchdfkeieabaaW.PrintWords Go.Proofs.YthkchdfkeieabaaW.PrintLast Go.Proofs.YthkchdfkeieabaaW.PrintMore
open List (setIfInBounds_toArray set_cons_zero set_cons_succ map_toArray map_cons map_nil)
attribute [local go_sem] max2_int min2_int max_two min_two max_three min_three max_four min_four
set_option linter.unusedVariables false
set_option maxHeartbeats 8000000
set_option maxRecDepth 100000
set_option linter.unusedSimpArgs false
mutual
def spec_keFar.l0 : Nat → List Int → List Int → Int → Int → Int → List (List Int) → Int → Option (List Int × List Int)
 | 0, _, _, _, _, _, _, _ => none
 | k + 1, x4, x5, x23, x24, x301000, x301001, x301002 => if x24 < x23 then (if 0 ≤ x24 then (if x24 < (x4.length : Int) then (spec_keFar.l0 k (x4.set (x24 : Int).toNat (-1)) x5 x23 (wrap64 (x24 + 1)) x301000 x301001 x301002) else (none)) else (none)) else ((spec_keEnd.f k x301000 x301001 x301002).bind fun bt308 => ((spec_keIndex.f k bt308.1 bt308.2).bind fun t312 => (if 0 ≤ t312 then (if t312 < (x4.length : Int) then (if t312 < (x5.length : Int) then (spec_keFar.l1 k (x4.set (t312 : Int).toNat 0) (x5.set (t312 : Int).toNat 1) (([t312] : List Int)) 0 x301000 x301001 x301002) else (none)) else (none)) else (none))))
def spec_keFar.l1 : Nat → List Int → List Int → List Int → Int → Int → List (List Int) → Int → Option (List Int × List Int)
 | 0, _, _, _, _, _, _, _ => none
 | k + 1, x4, x5, x8, x9, x301000, x301001, x301002 => if x9 < (x8.length : Int) then (if 0 ≤ x9 then ((spec_keBank.f k (rd x8 x9) x301000).bind fun bt319 => ((spec_keRides.f k x301000 x301001 x301002 bt319.1 bt319.2).bind fun t324 => (spec_keFar.l2 k x4 x5 x8 x9 t324 (t324.length : Int) 0 x301000 x301001 x301002 bt319.1 bt319.2))) else (none)) else (some (x4, x5))
def spec_keFar.l2 : Nat → List Int → List Int → List Int → Int → List (List Int) → Int → Int → Int → List (List Int) → Int → List Bool → Bool → Option (List Int × List Int)
 | 0, _, _, _, _, _, _, _, _, _, _, _, _ => none
 | k + 1, x4, x5, x8, x9, x57, x58, x59, x301000, x301001, x301002, x324000, x324001 => if x59 < x58 then (if 0 ≤ x59 then (if x59 < (x57.length : Int) then ((spec_keRide.f k x324000 x324001 (rd_L1 x57 x59)).bind fun bt328 => ((spec_keIndex.f k bt328.1 bt328.2).bind fun t332 => (if 0 ≤ t332 then (if t332 < (x4.length : Int) then (if (rd x4 t332) < 0 then (if 0 ≤ x9 then (if x9 < (x8.length : Int) then (if 0 ≤ (rd x8 x9) then (if (rd x8 x9) < (x4.length : Int) then (if x8.length < 17592186044416 then (spec_keFar.j3 k (x4.set (t332 : Int).toNat (wrap64 ((rd x4 (rd x8 x9)) + 1))) x5 (x8 ++ [t332]) x9 t332 x57 x58 x59 x301000 x301001 x301002 x324000 x324001) else (none)) else (none)) else (none)) else (none)) else (none)) else (spec_keFar.j3 k x4 x5 x8 x9 t332 x57 x58 x59 x301000 x301001 x301002 x324000 x324001)) else (none)) else (none)))) else (none)) else (none)) else (spec_keFar.l1 k x4 x5 x8 (wrap64 (x9 + 1)) x301000 x301001 x301002)
def spec_keFar.j3 : Nat → List Int → List Int → List Int → Int → Int → List (List Int) → Int → Int → Int → List (List Int) → Int → List Bool → Bool → Option (List Int × List Int)
 | 0, _, _, _, _, _, _, _, _, _, _, _, _, _ => none
 | k + 1, x4, x5, x8, x9, x13, x57, x58, x59, x301000, x301001, x301002, x324000, x324001 => if 0 ≤ x13 then (if x13 < (x4.length : Int) then (if 0 ≤ x9 then (if x9 < (x8.length : Int) then (if 0 ≤ (rd x8 x9) then (if (rd x8 x9) < (x4.length : Int) then (if (rd x4 x13) = (wrap64 ((rd x4 (rd x8 x9)) + 1)) then (if x13 < (x5.length : Int) then (if (rd x8 x9) < (x5.length : Int) then (spec_keFar.l2 k x4 (x5.set (x13 : Int).toNat (wrap64 ((rd x5 x13) + (rd x5 (rd x8 x9))))) x8 x9 x57 x58 (wrap64 (x59 + 1)) x301000 x301001 x301002 x324000 x324001) else (none)) else (none)) else (spec_keFar.l2 k x4 x5 x8 x9 x57 x58 (wrap64 (x59 + 1)) x301000 x301001 x301002 x324000 x324001)) else (none)) else (none)) else (none)) else (none)) else (none)) else (none)
end
def spec_keFar.f (k : Nat) (a0_0 : Int) (l0_1 : List (List Int)) (a0_2 : Int) : Option (List Int × List Int) := if 0 ≤ a0_0 then (if 0 ≤ (shl .i64 2 a0_0) then (if (shl .i64 2 a0_0 : Int).toNat ≤ 35184372088832 then ((some (List.replicate (shl .i64 2 a0_0 : Int).toNat 0 : List Int)).bind fun y301 => (spec_keFar.l0 k y301 (List.replicate (shl .i64 2 a0_0 : Int).toNat 0) (y301.length : Int) 0 a0_0 l0_1 a0_2)) else (none)) else (none)) else (none)
theorem spec_keFar.mono_l : ∀ k, (∀ y0 y1 y2 y3 y4 y5 y6, LeO (spec_keFar.l0 k y0 y1 y2 y3 y4 y5 y6) (spec_keFar.l0 (k + 1) y0 y1 y2 y3 y4 y5 y6)) ∧ (∀ y0 y1 y2 y3 y4 y5 y6, LeO (spec_keFar.l1 k y0 y1 y2 y3 y4 y5 y6) (spec_keFar.l1 (k + 1) y0 y1 y2 y3 y4 y5 y6)) ∧ (∀ y0 y1 y2 y3 y4 y5 y6 y7 y8 y9 y10 y11, LeO (spec_keFar.l2 k y0 y1 y2 y3 y4 y5 y6 y7 y8 y9 y10 y11) (spec_keFar.l2 (k + 1) y0 y1 y2 y3 y4 y5 y6 y7 y8 y9 y10 y11)) ∧ (∀ y0 y1 y2 y3 y4 y5 y6 y7 y8 y9 y10 y11 y12, LeO (spec_keFar.j3 k y0 y1 y2 y3 y4 y5 y6 y7 y8 y9 y10 y11 y12) (spec_keFar.j3 (k + 1) y0 y1 y2 y3 y4 y5 y6 y7 y8 y9 y10 y11 y12))
 | 0 => ⟨fun _ _ _ _ _ _ _ r h => by simp [spec_keFar.l0] at h, fun _ _ _ _ _ _ _ r h => by simp [spec_keFar.l1] at h, fun _ _ _ _ _ _ _ _ _ _ _ _ r h => by simp [spec_keFar.l2] at h, fun _ _ _ _ _ _ _ _ _ _ _ _ _ r h => by simp [spec_keFar.j3] at h⟩
 | k + 1 => by
  obtain ⟨ih0, ih1, ih2, ih3⟩ := spec_keFar.mono_l k
  refine ⟨?_, ?_, ?_, ?_⟩
  ·intro y0 y1 y2 y3 y4 y5 y6
   unfold spec_keFar.l0
   repeat' first
   | (with_reducible first | exact ih0 _ _ _ _ _ _ _ | exact ih1 _ _ _ _ _ _ _ | exact ih2 _ _ _ _ _ _ _ _ _ _ _ _ | exact ih3 _ _ _ _ _ _ _ _ _ _ _ _ _ | exact spec_keBank.mono _ _ _ | exact spec_keEnd.mono _ _ _ _ | exact spec_keIndex.mono _ _ _ | exact spec_keRide.mono _ _ _ _ | exact spec_keRides.mono _ _ _ _ _ _ | exact LeO.refl _ | exact LeO.none _ | refine LeO.ite ?_ ?_ | refine LeO.bind ?_ (fun _ => ?_))
  ·intro y0 y1 y2 y3 y4 y5 y6
   unfold spec_keFar.l1
   repeat' first
   | (with_reducible first | exact ih0 _ _ _ _ _ _ _ | exact ih1 _ _ _ _ _ _ _ | exact ih2 _ _ _ _ _ _ _ _ _ _ _ _ | exact ih3 _ _ _ _ _ _ _ _ _ _ _ _ _ | exact spec_keBank.mono _ _ _ | exact spec_keEnd.mono _ _ _ _ | exact spec_keIndex.mono _ _ _ | exact spec_keRide.mono _ _ _ _ | exact spec_keRides.mono _ _ _ _ _ _ | exact LeO.refl _ | exact LeO.none _ | refine LeO.ite ?_ ?_ | refine LeO.bind ?_ (fun _ => ?_))
  ·intro y0 y1 y2 y3 y4 y5 y6 y7 y8 y9 y10 y11
   unfold spec_keFar.l2
   repeat' first
   | (with_reducible first | exact ih0 _ _ _ _ _ _ _ | exact ih1 _ _ _ _ _ _ _ | exact ih2 _ _ _ _ _ _ _ _ _ _ _ _ | exact ih3 _ _ _ _ _ _ _ _ _ _ _ _ _ | exact spec_keBank.mono _ _ _ | exact spec_keEnd.mono _ _ _ _ | exact spec_keIndex.mono _ _ _ | exact spec_keRide.mono _ _ _ _ | exact spec_keRides.mono _ _ _ _ _ _ | exact LeO.refl _ | exact LeO.none _ | refine LeO.ite ?_ ?_ | refine LeO.bind ?_ (fun _ => ?_))
  ·intro y0 y1 y2 y3 y4 y5 y6 y7 y8 y9 y10 y11 y12
   unfold spec_keFar.j3
   repeat' first
   | (with_reducible first | exact ih0 _ _ _ _ _ _ _ | exact ih1 _ _ _ _ _ _ _ | exact ih2 _ _ _ _ _ _ _ _ _ _ _ _ | exact ih3 _ _ _ _ _ _ _ _ _ _ _ _ _ | exact spec_keBank.mono _ _ _ | exact spec_keEnd.mono _ _ _ _ | exact spec_keIndex.mono _ _ _ | exact spec_keRide.mono _ _ _ _ | exact spec_keRides.mono _ _ _ _ _ _ | exact LeO.refl _ | exact LeO.none _ | refine LeO.ite ?_ ?_ | refine LeO.bind ?_ (fun _ => ?_))
theorem spec_keFar.mono : ∀ a0 a1 a2 k, LeO (spec_keFar.f k a0 a1 a2) (spec_keFar.f (k + 1) a0 a1 a2) := by
 intro a0 a1 a2 k
 obtain ⟨ih0, ih1, ih2, ih3⟩ := spec_keFar.mono_l k
 unfold spec_keFar.f
 repeat' first
  | (with_reducible first | exact ih0 _ _ _ _ _ _ _ | exact ih1 _ _ _ _ _ _ _ | exact ih2 _ _ _ _ _ _ _ _ _ _ _ _ | exact ih3 _ _ _ _ _ _ _ _ _ _ _ _ _ | exact spec_keBank.mono _ _ _ | exact spec_keEnd.mono _ _ _ _ | exact spec_keIndex.mono _ _ _ | exact spec_keRide.mono _ _ _ _ | exact spec_keRides.mono _ _ _ _ _ _ | exact LeO.refl _ | exact LeO.none _ | refine LeO.ite ?_ ?_ | refine LeO.bind ?_ (fun _ => ?_))
def spec_keFar.T1 : Bool × List (List Nat × List Nat) := (true, [([], []), ([0], [0]), ([1], [1]), ([2, 2], [2]), ([], []), ([4], [4]), ([5], [5]), ([6, 6], [6]), ([3, 0, 1, 2, 3], [3]), ([7, 8, 0, 1, 2, 3, 4, 5, 6, 7, 8], [7])])
def spec_keFar.B1 : List Nat := [0, 1, 3, 7, 0, 16, 48, 112, 15, 511]
theorem spec_keFar.tab1 : rtab .any (opsOf Try.f62 1) = spec_keFar.T1 := by kernel_rfl
theorem spec_keFar.bits1 : waitsOk spec_keFar.T1.2 spec_keFar.B1 = true := by kernel_rfl
def spec_keFar.T14 : Bool × List (List Nat × List Nat) := (true, [([], []), ([], []), ([0, 1], [0, 1]), ([2], [2]), ([], []), ([4], [4]), ([3, 5], [3, 5]), ([], []), ([7, 6, 6, 0, 1, 2, 3, 4, 5, 6, 7], [6, 7])])
def spec_keFar.B14 : List Nat := [0, 0, 3, 7, 0, 16, 63, 0, 255]
theorem spec_keFar.tab14 : rtab .any (opsOf Try.f62 14) = spec_keFar.T14 := by kernel_rfl
theorem spec_keFar.bits14 : waitsOk spec_keFar.T14.2 spec_keFar.B14 = true := by kernel_rfl
def spec_keFar.T22 : Bool × List (List Nat × List Nat) := (true, [([], []), ([], []), ([0, 1], [0, 1]), ([2], [2]), ([], []), ([], []), ([], []), ([5, 6], [5, 6]), ([7], [7]), ([4, 8], [4, 8]), ([9], [9]), ([10], [10]), ([3, 11], [3, 11])])
def spec_keFar.B22 : List Nat := [0, 0, 3, 7, 0, 0, 0, 96, 224, 496, 1008, 2032, 4095]
theorem spec_keFar.tab22 : rtab .any (opsOf Try.f62 22) = spec_keFar.T22 := by kernel_rfl
theorem spec_keFar.bits22 : waitsOk spec_keFar.T22.2 spec_keFar.B22 = true := by kernel_rfl
def spec_keFar.T23 : Bool × List (List Nat × List Nat) := (true, [([], []), ([], []), ([0, 1], [0, 1]), ([2], [2]), ([], []), ([], []), ([], []), ([5, 6], [5, 6]), ([7], [7]), ([4, 8], [4, 8]), ([9], [9]), ([3, 10], [3, 10]), ([0, 1, 0, 1, 2, 3, 4, 5, 6, 7, 8, 9, 10, 11], [0, 1]), ([12, 11, 0, 1, 2, 3, 4, 5, 6, 7, 8, 9, 10, 11], [11, 12])])
def spec_keFar.B23 : List Nat := [0, 0, 3, 7, 0, 0, 0, 96, 224, 496, 1008, 2047, 4095, 8191]
theorem spec_keFar.tab23 : rtab .any (opsOf Try.f62 23) = spec_keFar.T23 := by kernel_rfl
theorem spec_keFar.bits23 : waitsOk spec_keFar.T23.2 spec_keFar.B23 = true := by kernel_rfl
theorem spec_keFar.calls (k : Nat) (a0_0 : Int) (A0_1 : Option Addr) (c0_1 : Nat) (l0_1 : List (List Int)) (a0_2 : Int) (r1 : List Int) (r2 : List Int) (w : World) (hr0_1 : Kd.C (Kd.slice 3 (Kd.int .i64)) w A0_1 l0_1.length l0_1) (hc0_1 : l0_1.length ≤ c0_1) (h : spec_keFar.f k a0_0 l0_1 a0_2 = some (r1, r2)) :
  Calls Try.prog 62 #[.agg #[.int .i64 a0_0, .slice A0_1 l0_1.length c0_1, .int .i64 a0_2]] w fun e w' => ∃ v0_ v1_ : Value, e = .returned (.tuple #[v0_, v1_]) ∧ Kd.R (Kd.int .i64) 3 w' w.heap.size (fun k_ => some k_ ≠ (v1_ : Value).ownBlock) v0_ r1 ∧ Kd.R (Kd.int .i64) 3 w' w.heap.size (fun k_ => some k_ ≠ (v0_ : Value).ownBlock) v1_ r2 ∧ Below w.heap.size w w' := by
 have hu52 := Try.underlying52
 have hu90 := Try.underlying90
 have HR0_1 := ak_ hr0_1
 have HC0_1 := ak_ hc0_1
 clear hr0_1 hc0_1
 have HB := ak_ (Below.refl w.heap.size w)
 have H : (if 0 ≤ a0_0 then (if 0 ≤ (shl .i64 2 a0_0) then (if (shl .i64 2 a0_0 : Int).toNat ≤ 35184372088832 then ((some (List.replicate (shl .i64 2 a0_0 : Int).toNat 0 : List Int)).bind fun y301 => (spec_keFar.l0 k y301 (List.replicate (shl .i64 2 a0_0 : Int).toNat 0) (y301.length : Int) 0 a0_0 l0_1 a0_2)) else (none)) else (none)) else (none)) = some (r1, r2) := h
 clear h
 by_cases c2 : 0 ≤ a0_0
 ·
  rw [if_pos c2] at H
  have c2b0 := eq_true c2
  have c2b1 : decide (0 ≤ a0_0) = true := decide_eq_true c2
  clear c2
  obtain ⟨ji3, hji3⟩ : ∃ j_ : Int, (shl .i64 2 a0_0) = j_ := ⟨_, rfl⟩
  replace H : (if 0 ≤ (ji3) then (if (ji3 : Int).toNat ≤ 35184372088832 then ((some (List.replicate (ji3 : Int).toNat 0 : List Int)).bind fun y301 => (spec_keFar.l0 k y301 (List.replicate (ji3 : Int).toNat 0) (y301.length : Int) 0 a0_0 l0_1 a0_2)) else (none)) else (none)) = some (r1, r2) := by first | (rw [hji3] at H; exact H) | (simp only [hji3] at H ⊢; exact H)
  have hji3_ : (IntKind.i64.wrap (2 * 2 ^ min a0_0.toNat 64)) = ji3 := hji3
  have hji3z : a0_0 ≤ 64 → (IntKind.i64.wrap (2 * 2 ^ a0_0.toNat)) = ji3 := shl_small hji3
  have hji3y : (wrap64 (2 * 2 ^ min a0_0.toNat 64)) = ji3 := (i64_w _).symm.trans hji3_
  have hji3x : a0_0 ≤ 64 → (wrap64 (2 * 2 ^ a0_0.toNat)) = ji3 := fun h_ => (i64_w _).symm.trans (hji3z h_)
  by_cases c4 : 0 ≤ (ji3)
  ·
   rw [if_pos c4] at H
   have c4b0 := eq_true c4
   have c4b1 : decide (0 ≤ (ji3)) = true := decide_eq_true c4
   clear c4
   by_cases c5 : (ji3 : Int).toNat ≤ 35184372088832
   ·
    rw [if_pos c5] at H
    have c5b0 := eq_true c5
    have c5b1 : decide ((ji3 : Int).toNat ≤ 35184372088832) = true := decide_eq_true c5
    clear c5
    obtain ⟨y301, hy301⟩ : ∃ y_ : List Int, y_ = (List.replicate (ji3 : Int).toNat 0) := ⟨_, rfl⟩
    replace H : (spec_keFar.l0 k y301 (List.replicate (ji3 : Int).toNat 0) (y301.length : Int) 0 a0_0 l0_1 a0_2) = some (r1, r2) := by first | (rw [hy301]; exact H) | exact H
    have Ny301 := ak_ hy301
    clear hy301
    have c6b0 := eq_true (odt_ (by assumption) : 0 ≤ a0_0)
    obtain ⟨y304, hy304⟩ : ∃ y_ : List Int, y_ = (List.replicate (ji3 : Int).toNat 0) := ⟨_, rfl⟩
    replace H : (spec_keFar.l0 k y301 y304 (y301.length : Int) 0 a0_0 l0_1 a0_2) = some (r1, r2) := by first | (rw [hy304]; exact H) | exact H
    have Ny304 := ak_ hy304
    clear hy304
    have H' := ak_ H
    clear H
    go_enter Try.func62, Try.ntmps62
    try go_wp2_with (first | ((with_reducible refine gate_dst (N := 1) rfl ?_); refine bx_ 1 #[.int .i64 a0_0, .slice A0_1 l0_1.length c0_1, .int .i64 a0_2] 52 ?_; intro gb300 hg w8 hbox hb; have n0_ := ak_ (bs_ (bb_ HB.out) hb); have n1_ := ak_ (hbox); have n2_ := ak_ ((by rw [hg]; exact (bz_ (bb_ HB.out)) : w.heap.size ≤ gb300)); have n3_ := n2_; clear HB; have HB := n0_; have BK300 := n1_; have GW300 := n2_; have GE300 := n3_; clear n0_ n1_ n2_ n3_; clear hb hbox hg))
    have n0_ := ak_ (k1_ BK300.out)
    have n1_ := ak_ (b1_ HB.out)
    clear BK300 HB
    have BK300 := n0_; have HB := n1_
    clear n0_ n1_
    refine start_ (n := 10) (S := fun w' => w'.cell? ⟨gb300, 0, none⟩ = some (.int .i64 a0_0) ∧ w'.cell? ⟨gb300, 1, none⟩ = some (.slice A0_1 l0_1.length c0_1) ∧ w'.cell? ⟨gb300, 2, none⟩ = some (.int .i64 a0_2)) (ds := []) (mb_ 10 0) (by kernel_rfl) rfl rfl ⟨(blk_cell BK300.out 0).trans rfl, (blk_cell BK300.out 1).trans rfl, (blk_cell BK300.out 2).trans rfl⟩ (fun hHeld => ?_); refine with_tabW spec_keFar.tab1 spec_keFar.bits1 (fun HT_ HW_ => ?_)
    generalize w8.drew = w9 at BK300 HB hHeld ⊢
    refine pu_ 0 14 10 1 ?_
    refine pu_ 4 18 10 17 ?_
    refine tk_ 1 15 10 19 ?_ (hy := by rintro w' ⟨s0, s1, s2⟩; go_simp; with_reducible rfl)
    refine pu_ 2 16 10 23 ?_
    refine tk_ 5 19 10 55 ?_ (hy := by rintro w' ⟨s0, s1, s2⟩; go_simp; with_reducible rfl)
    refine pu_ 6 20 10 119 ?_
    refine join_ (σ := Value × Value) 1 (mb_ 10 511) (fun s_ => [(17, s_.1), (21, s_.2), (4, s_.1)]) (fun s_ w' => (w'.cell? ⟨gb300, 0, none⟩ = some (.int .i64 a0_0) ∧ w'.cell? ⟨gb300, 1, none⟩ = some (.slice A0_1 l0_1.length c0_1) ∧ w'.cell? ⟨gb300, 2, none⟩ = some (.int .i64 a0_2)) ∧ (Kd.R (Kd.int .i64) 3 w' w.heap.size (fun k_ => some k_ ≠ (s_.2 : Value).ownBlock) s_.1 y301) ∧ (Kd.R (Kd.int .i64) 3 w' w.heap.size (fun k_ => some k_ ≠ (s_.1 : Value).ownBlock) s_.2 y304) ∧ (w'.heap[gb300]? = some (.cells #[.int .i64 a0_0, .slice A0_1 l0_1.length c0_1, .int .i64 a0_2] 52 (0, 0))) ∧ (Below w.heap.size w w')) ?_ ?_
    rotate_left
    ·
     intro hCont
     refine two_ (i := 3) (j := 7) (Ni := some 17) (Nj := some 21) (mb_ 10 127) (mb_ 10 247) rfl rfl rfl rfl (two_of HT_.out (by kernel_rfl)) (by decide) (by decide) (fun K hK => ?_) (fun K hK => ?_)
     ·
      skip
      refine Kd.R_make_step (Kd.int .i64) _ 3 (by rfl) (N := 17) rfl 29 _ _ rfl ji3 rfl rfl Try.underlying29 (.int .i64 0) 8 info3 rfl (by decide) (by omega) 0 (ok := fun _ => True) (okp := fun _ => True) rfl (fun _ hk => hk) trivial (odt_ (by assumption)) (Nat.le_trans (Nat.mul_le_mul_right _ (odt_ (by assumption) : ji3.toNat ≤ 35184372088832)) (by omega)) (Below.refl _ _) (Nat.le_refl _) ?_
      intro v302 w10 ho11 hb hg_ hnew_
      clear hg_ hnew_
      (first | rw [← Ny301.out] at ho11 | (simp only [Int.reduceToNat] at ho11; rw [← Ny301.out] at ho11))
      have n0_ := ak_ (Kd.R_lower ho11 (bz_ bl_))
      have n1_ := ak_ (blk_below (pk BK300.out) hb)
      have n2_ := ak_ (bs_ bl_ hb)
      clear BK300 HB
      have HO303 := n0_; have BK300 := n1_; have HB := n2_
      clear n0_ n1_ n2_ hb ho11
      refine hK.out _ _ ⟨(blk_cell BK300.out 0).trans rfl, (blk_cell BK300.out 1).trans rfl, (blk_cell BK300.out 2).trans rfl⟩ (fun hHeld => ?_)
      clear hK K
      refine nm_ ?_
      refine pu_ 8 4 10 383 ?_
      refine on_ 7 21 10 511 (fun K hK => ?_)
      refine Kd.R_make_step (Kd.int .i64) _ 3 (by rfl) (N := 21) rfl 29 _ _ rfl ji3 rfl rfl Try.underlying29 (.int .i64 0) 8 info3 rfl (by decide) (by omega) 0 (ok := fun _ => True) (okp := fun _ => True) rfl (fun _ hk => hk) trivial (odt_ (by assumption)) (Nat.le_trans (Nat.mul_le_mul_right _ (odt_ (by assumption) : ji3.toNat ≤ 35184372088832)) (by omega)) (Below.refl _ _) (Nat.le_refl _) ?_
      intro v305 w12 ho13 hb hg_ hnew_
      clear hg_ hnew_
      (first | rw [← Ny304.out] at ho13 | (simp only [Int.reduceToNat] at ho13; rw [← Ny304.out] at ho13))
      have n0_ := ak_ (Kd.R_elder' (Kd.pR HO303.out) (Kd.R_base ho13) hb)
      have n1_ := ak_ (Kd.R_lower (Kd.R_new' ho13 (Kd.R_lt (Kd.pR HO303.out))) (bz_ bl_))
      have n2_ := ak_ (blk_below (pk BK300.out) hb)
      have n3_ := ak_ (bs_ bl_ hb)
      clear HO303 BK300 HB
      have HO303 := n0_; have HO306 := n1_; have BK300 := n2_; have HB := n3_
      clear n0_ n1_ n2_ n3_ hb ho13
      refine hK.out _ _ ⟨(blk_cell BK300.out 0).trans rfl, (blk_cell BK300.out 1).trans rfl, (blk_cell BK300.out 2).trans rfl⟩ (fun hHeld => ?_)
      clear hK K
      refine nm_ ?_
      exact norm_ (by simp only [putAll, Act.put, setIfInBounds_toArray, set_cons_zero, set_cons_succ]) (hCont (v302, v305) _ ⟨hHeld, (by (with_reducible repeat (first | apply Kd.R_alloc | apply Kd.R_drewN | apply Kd.R_drew)); exact Kd.R_mono HO303.out (fun _ hk => hk.2)), (by (with_reducible repeat (first | apply Kd.R_alloc | apply Kd.R_drewN | apply Kd.R_drew)); exact Kd.R_mono HO306.out (fun _ hk => hk.2)), (pk BK300.out), bl_⟩)
     ·
      skip
      refine Kd.R_make_step (Kd.int .i64) _ 3 (by rfl) (N := 21) rfl 29 _ _ rfl ji3 rfl rfl Try.underlying29 (.int .i64 0) 8 info3 rfl (by decide) (by omega) 0 (ok := fun _ => True) (okp := fun _ => True) rfl (fun _ hk => hk) trivial (odt_ (by assumption)) (Nat.le_trans (Nat.mul_le_mul_right _ (odt_ (by assumption) : ji3.toNat ≤ 35184372088832)) (by omega)) (Below.refl _ _) (Nat.le_refl _) ?_
      intro v305 w10 ho11 hb hg_ hnew_
      clear hg_ hnew_
      (first | rw [← Ny304.out] at ho11 | (simp only [Int.reduceToNat] at ho11; rw [← Ny304.out] at ho11))
      have n0_ := ak_ (Kd.R_lower ho11 (bz_ bl_))
      have n1_ := ak_ (blk_below (pk BK300.out) hb)
      have n2_ := ak_ (bs_ bl_ hb)
      clear BK300 HB
      have HO306 := n0_; have BK300 := n1_; have HB := n2_
      clear n0_ n1_ n2_ hb ho11
      refine hK.out _ _ ⟨(blk_cell BK300.out 0).trans rfl, (blk_cell BK300.out 1).trans rfl, (blk_cell BK300.out 2).trans rfl⟩ (fun hHeld => ?_)
      clear hK K
      refine nm_ ?_
      refine on_ 3 17 10 255 (fun K hK => ?_)
      refine Kd.R_make_step (Kd.int .i64) _ 3 (by rfl) (N := 17) rfl 29 _ _ rfl ji3 rfl rfl Try.underlying29 (.int .i64 0) 8 info3 rfl (by decide) (by omega) 0 (ok := fun _ => True) (okp := fun _ => True) rfl (fun _ hk => hk) trivial (odt_ (by assumption)) (Nat.le_trans (Nat.mul_le_mul_right _ (odt_ (by assumption) : ji3.toNat ≤ 35184372088832)) (by omega)) (Below.refl _ _) (Nat.le_refl _) ?_
      intro v302 w12 ho13 hb hg_ hnew_
      clear hg_ hnew_
      (first | rw [← Ny301.out] at ho13 | (simp only [Int.reduceToNat] at ho13; rw [← Ny301.out] at ho13))
      have n0_ := ak_ (Kd.R_elder' (Kd.pR HO306.out) (Kd.R_base ho13) hb)
      have n1_ := ak_ (Kd.R_lower (Kd.R_new' ho13 (Kd.R_lt (Kd.pR HO306.out))) (bz_ bl_))
      have n2_ := ak_ (blk_below (pk BK300.out) hb)
      have n3_ := ak_ (bs_ bl_ hb)
      clear HO306 BK300 HB
      have HO306 := n0_; have HO303 := n1_; have BK300 := n2_; have HB := n3_
      clear n0_ n1_ n2_ n3_ hb ho13
      refine hK.out _ _ ⟨(blk_cell BK300.out 0).trans rfl, (blk_cell BK300.out 1).trans rfl, (blk_cell BK300.out 2).trans rfl⟩ (fun hHeld => ?_)
      clear hK K
      refine nm_ ?_
      refine pu_ 8 4 10 511 ?_
      exact norm_ (by simp only [putAll, Act.put, setIfInBounds_toArray, set_cons_zero, set_cons_succ]) (hCont (v302, v305) _ ⟨hHeld, (by (with_reducible repeat (first | apply Kd.R_alloc | apply Kd.R_drewN | apply Kd.R_drew)); exact Kd.R_mono HO303.out (fun _ hk => hk.2)), (by (with_reducible repeat (first | apply Kd.R_alloc | apply Kd.R_drewN | apply Kd.R_drew)); exact Kd.R_mono HO306.out (fun _ hk => hk.2)), (pk BK300.out), bl_⟩)
    rintro ⟨v302, v305⟩ w14 ⟨hS_, h0_, h1_, h2_, h3_⟩
    have n0_ : Aside0 (Kd.R (Kd.int .i64) 3 w14 w.heap.size (fun k_ => some k_ ≠ (v305 : Value).ownBlock) v302 y301) := ⟨h0_⟩
    have n1_ : Aside0 (Kd.R (Kd.int .i64) 3 w14 w.heap.size (fun k_ => some k_ ≠ (v302 : Value).ownBlock) v305 y304) := ⟨h1_⟩
    have n2_ : Aside0 (w14.heap[gb300]? = some (.cells #[.int .i64 a0_0, .slice A0_1 l0_1.length c0_1, .int .i64 a0_2] 52 (0, 0))) := ⟨h2_⟩
    have n3_ : Aside0 (Below w.heap.size w w14) := ⟨h3_⟩
    clear BK300 HB h0_ h1_ h2_ h3_
    have HO303 := n0_; have HO306 := n1_; have BK300 := n2_; have HB := n3_
    clear n0_ n1_ n2_ n3_
    have hHeld : w14.cell? ⟨gb300, 0, none⟩ = some (.int .i64 a0_0) ∧ w14.cell? ⟨gb300, 1, none⟩ = some (.slice A0_1 l0_1.length c0_1) ∧ w14.cell? ⟨gb300, 2, none⟩ = some (.int .i64 a0_2) := hS_
    refine norm_ (a' := ?_) ?_ ?_
    rotate_left
    ·
     simp only [putAll, Act.put, setIfInBounds_toArray, set_cons_zero, set_cons_succ]
     rfl
    refine pu_ 9 5 10 1023 ?_
    refine done_ (done_of HT_.out (by kernel_rfl)) ?_
    obtain ⟨Ao15, co15, eo15⟩ := Kd.R_slice HO303.out
    subst eo15
    try go_wp2
    go_loopg [24] k (fun kq v24 w' => ∃ (x4_1 : List Int) (x24_1 : Int), v24 = .int .i64 x24_1 ∧ Aside0 (spec_keFar.l0 kq x4_1 y304 (y301.length : Int) x24_1 a0_0 l0_1 a0_2 = some (r1, r2)) ∧ Aside0 (kq ≤ k) ∧ Aside0 (Kd.R (Kd.int .i64) 3 w' w.heap.size (fun k_ => some k_ ≠ (v305 : Value).ownBlock) (.slice Ao15 y301.length co15) x4_1) ∧ Aside0 (Kd.R (Kd.int .i64) 3 w' w.heap.size (fun k_ => some k_ ≠ ((.slice Ao15 y301.length co15) : Value).ownBlock) v305 y304) ∧ Aside0 (w'.heap[gb300]? = some (.cells #[.int .i64 a0_0, (.slice A0_1 l0_1.length c0_1), .int .i64 a0_2] 52 (0, 0))) ∧ Aside0 (Below w.heap.size w w'))
    case atStart => exact ⟨(y301), (0), (ry_), H', ⟨Nat.le_refl _⟩, ⟨Kd.pR HO303.out⟩, ⟨Kd.pR HO306.out⟩, ⟨pk BK300.out⟩, ⟨by repeat (first | exact HB.out | apply ba_ | apply bN_ | apply b1_ | refine below_set ?_ GE300.out)⟩⟩
    case round =>
     clear H'
     try clear c2
     try clear c2b0
     try clear c2b1
     try clear p2
     try clear c4
     try clear c4b0
     try clear c4b1
     try clear c5
     try clear c5b0
     try clear c5b1
     try clear c6
     try clear c6b0
     try clear p6
     try clear c7
     try clear c7b0
     obtain ⟨x4_1, x24_1, rfl, HA, HK1, HO_4, HO_5, BK300, HB⟩ := hrel
     have hl4_1 := (Kd.R_reads' HO_4.out).1
     rw [hl4_1] at HO_4
     (try simp only [hl4_1])
     (try simp only [hl4_1] at BK300)
     (try simp only [hl4_1] at HO_5)
     cases gk with
     | zero => exact absurd HA.out (by simp [spec_keFar.l0])
     | succ k1 =>
      have H := HA.out
      clear HA
      simp only [spec_keFar.l0] at H
      by_cases c16 : x24_1 < (y301.length : Int)
      ·
       rw [if_pos c16] at H
       have c16b0 : decide (x24_1 < (y301.length : Int)) = true := decide_eq_true c16
       clear c16
       by_cases c17 : 0 ≤ x24_1
       ·
        rw [if_pos c17] at H
        have c17b0 : decide (0 ≤ x24_1) = true := decide_eq_true c17
        clear c17
        by_cases c18 : x24_1 < (x4_1.length : Int)
        ·
         rw [if_pos c18] at H
         have c18b0 : decide (x24_1 < (x4_1.length : Int)) = true := decide_eq_true c18
         clear c18
         obtain ⟨y307, hy307⟩ : ∃ y_ : List Int, y_ = (x4_1.set (x24_1 : Int).toNat (-1)) := ⟨_, rfl⟩
         replace H : (spec_keFar.l0 k1 y307 y304 (y301.length : Int) (wrap64 (x24_1 + 1)) a0_0 l0_1 a0_2) = some (r1, r2) := by first | (rw [hy307]; exact H) | exact H
         have Ny307 := ak_ hy307
         clear hy307
         have H' := ak_ H
         clear H
         have p19 : 0 ≤ (x24_1 : Int) := odt_ (by assumption)
         have q19 : (x24_1 : Int) < ((x4_1.length : Int) : Int) := odt_ (by assumption)
         obtain ⟨go19, co19, eo19, gb19, gl19, cl19, HG19⟩ := Kd.R_form HO_4.out (by omega)
         (first | cases eo19 | (injection eo19 with ea_ en_ ec_; (first | subst ea_ | (injection ea_ with ea_; subst ea_)); subst ec_; clear en_))
         have GB19 := ak_ gb19
         have GG19 := ak_ HG19
         clear gb19 gl19 HG19
         obtain ⟨hx19_0, hf19_0⟩ := Kd.R_celln 0 HO_4.out (x24_1 : Int) p19 q19
         replace p19 := eq_true p19
         replace q19 := eq_true q19
         have HP20 := Kd.R_putg HO_4.out (x24_1 : Int) (-1)
         go_wp2_with (first | ((with_reducible refine gate_store (t := 3) (p := 29) rfl ?_); refine store_event (t := 3) (p := 29) (v := ?vo_w21) (w1 := (wr.setCell ⟨go19, (x24_1 : Int).toNat, none⟩ (.int .i64 (-1)))) ?hg ?ho ?hn ?hr ?_; (case ho => rfl); (case hg => rfl); (case hn => rfl); (case hr => go_simp <;> rfl); intro w21 hw; have hg : wr.grownBy w21 (some go19) := (by rw [hw]; exact HP20.2); have hp_ : Kd.R (Kd.int .i64) 3 w21 w.heap.size (fun k_ => some k_ ≠ (v305 : Value).ownBlock) (.slice (some ⟨go19, 0, none⟩) x4_1.length co15) y307 := (by rw [hw, Ny307.out]; exact HP20.1); clear HP20; have n0_ := ak_ (hp_); have n1_ := ak_ (Kd.R_after (v := (.slice (some ⟨go19, 0, none⟩) x4_1.length co15)) (v1 := (.slice (some ⟨go19, 0, none⟩) x4_1.length co15)) (ok := (fun _ => True)) (by (with_reducible repeat (first | apply Kd.R_alloc | apply Kd.R_drewN | apply Kd.R_drew)); exact Kd.R_mono HO_5.out (fun _ hk => ⟨trivial, hk⟩)) hg (.inl rfl)); have n2_ := ak_ (blk_grown (pk BK300.out) hg (Kd.R_ne HO_4.out BK300.out (by decide))); have n3_ := ak_ ((by rw [hw]; exact below_set (HB.out) GB19.out : Below w.heap.size w w21)); clear HO_4; clear HO_5; clear BK300; clear HB; have HO_4 := n0_; have HO_5 := n1_; have BK300 := n2_; have HB := n3_; clear n0_ n1_ n2_ n3_; clear hg hw hp_))
         (try simp only [← hl4_1])
         go_roundg k1
         case measure => have := HK1.out; omega
         case rel => exact ⟨(y307), (wrap64 (x24_1 + 1)), (ry_), H', ⟨by have := HK1.out; omega⟩, ⟨by (try simp only [hl4_1]); exact Kd.pR HO_4.out⟩, ⟨by (try simp only [hl4_1]); (with_reducible repeat (first | apply Kd.R_alloc | apply Kd.R_drewN | apply Kd.R_drew)); exact Kd.R_mono HO_5.out (fun _ hk => hk.2)⟩, ⟨by (try simp only [hl4_1]); exact pk BK300.out⟩, ⟨by repeat (first | exact HB.out | apply ba_ | apply bN_ | apply b1_ | refine below_set ?_ GE300.out)⟩⟩
        ·
         rw [if_neg c18] at H
         exact absurd H (by simp)
       ·
        rw [if_neg c17] at H
        exact absurd H (by simp)
      ·
       rw [if_neg c16] at H
       have c16b0 : decide (x24_1 < (y301.length : Int)) = false := decide_eq_false c16
       have c16b9 := c16b0; (try rw [hl4_1] at c16b9)
       clear c16
       replace H := Option.bind_eq_some_iff.mp H
       obtain ⟨⟨t308, t311⟩, A220, H⟩ := H
       replace H : ((spec_keIndex.f k1 t308 t311).bind fun t312 => (if 0 ≤ t312 then (if t312 < (x4_1.length : Int) then (if t312 < (y304.length : Int) then (spec_keFar.l1 k1 (x4_1.set (t312 : Int).toNat 0) (y304.set (t312 : Int).toNat 1) (([t312] : List Int)) 0 a0_0 l0_1 a0_2) else (none)) else (none)) else (none))) = some (r1, r2) := H
       have A22 := ak_ A220
       clear A220
       replace H := Option.bind_eq_some_iff.mp H
       obtain ⟨t312, A230, H⟩ := H
       replace H : (if 0 ≤ t312 then (if t312 < (x4_1.length : Int) then (if t312 < (y304.length : Int) then (spec_keFar.l1 k1 (x4_1.set (t312 : Int).toNat 0) (y304.set (t312 : Int).toNat 1) (([t312] : List Int)) 0 a0_0 l0_1 a0_2) else (none)) else (none)) else (none)) = some (r1, r2) := H
       have A23 := ak_ A230
       clear A230
       by_cases c24 : 0 ≤ t312
       ·
        rw [if_pos c24] at H
        have c24b0 : decide (0 ≤ t312) = true := decide_eq_true c24
        clear c24
        by_cases c25 : t312 < (x4_1.length : Int)
        ·
         rw [if_pos c25] at H
         have c25b0 : decide (t312 < (x4_1.length : Int)) = true := decide_eq_true c25
         clear c25
         obtain ⟨y313, hy313⟩ : ∃ y_ : List Int, y_ = (x4_1.set (t312 : Int).toNat 0) := ⟨_, rfl⟩
         replace H : (if t312 < (y304.length : Int) then (spec_keFar.l1 k1 y313 (y304.set (t312 : Int).toNat 1) (([t312] : List Int)) 0 a0_0 l0_1 a0_2) else (none)) = some (r1, r2) := by first | (rw [hy313]; exact H) | exact H
         have Ny313 := ak_ hy313
         clear hy313
         by_cases c27 : t312 < (y304.length : Int)
         ·
          rw [if_pos c27] at H
          have c27b0 : decide (t312 < (y304.length : Int)) = true := decide_eq_true c27
          clear c27
          obtain ⟨y314, hy314⟩ : ∃ y_ : List Int, y_ = (y304.set (t312 : Int).toNat 1) := ⟨_, rfl⟩
          replace H : (spec_keFar.l1 k1 y313 y314 (([t312] : List Int)) 0 a0_0 l0_1 a0_2) = some (r1, r2) := by first | (rw [hy314]; exact H) | exact H
          have Ny314 := ak_ hy314
          clear hy314
          obtain ⟨y315, hy315⟩ : ∃ y_ : List Int, y_ = (([t312] : List Int)) := ⟨_, rfl⟩
          replace H : (spec_keFar.l1 k1 y313 y314 y315 0 a0_0 l0_1 a0_2) = some (r1, r2) := by first | (rw [hy315]; exact H) | exact H
          have Ny315 := ak_ hy315
          clear hy315
          have H' := ak_ H
          clear H
          obtain ⟨hcz29_0, hcz29_1, hcz29_2, hfz29_0, hfz29_1, hfz29_2⟩ := c3_ BK300.out
          go_wp2_with (first | ((with_reducible refine gate_callee (f := 105) rfl ?_); refine goesL_ (some 32) rfl rfl Try.func105 (by kernel_rfl) rfl #[.agg #[.int .i64 a0_0, .slice A0_1 l0_1.length c0_1, .int .i64 a0_2]] rfl (by first | rfl | (simp only [map_toArray, map_cons, map_nil]; try rfl)) ?_; (with_reducible refine (spec_keEnd.calls k1 a0_0 _ _ l0_1 a0_2 t308 t311 _ ?side1 ?side2 A22.out).mono ?_); (case side1 => exact cs_ (Kd.C_below HR0_1.out HB.out)); (case side2 => exact HC0_1.out); rintro e w30 ⟨v309, rfl, ho0, hb⟩; refine ⟨_, rfl, ?_⟩; have n0_ := ak_ (Kd.R_below (Kd.pR HO_4.out) hb); have n1_ := ak_ (Kd.R_below (Kd.pR HO_5.out) hb); have n2_ := ak_ (Kd.R_lower ho0 (bz_ bl_)); have n3_ := ak_ (blk_below (pk BK300.out) hb); have n4_ := ak_ (bs_ bl_ hb); clear HO_4; clear HO_5; clear BK300; clear HB; have HO_4 := n0_; have HO_5 := n1_; have HO310 := n2_; have BK300 := n3_; have HB := n4_; clear n0_ n1_ n2_ n3_ n4_; (try clear hb); (try clear hb2); (try clear hk); (try clear hi); (try clear ho0); obtain ⟨Ao31, co31, eo31⟩ := Kd.R_slice HO310.out; subst eo31) | ((with_reducible refine gate_callee (f := 63) rfl ?_); refine goesL_ (some 33) rfl rfl Try.func63 (by kernel_rfl) rfl #[.agg #[.slice Ao31 t308.length co31, .bool t311]] rfl (by first | rfl | (simp only [map_toArray, map_cons, map_nil]; try rfl)) ?_; (with_reducible refine (spec_keIndex.calls k1 _ _ t308 t311 t312 _ ?side1 ?side2 A23.out).mono ?_); (case side1 => exact cs_ ((Kd.R_reads' HO310.out).2.2)); (case side2 => exact (Kd.R_reads' HO310.out).2.1); rintro e w32 ⟨rfl, hb⟩; refine ⟨_, rfl, ?_⟩; have n0_ := ak_ (Kd.R_below (Kd.pR HO_4.out) hb); have n1_ := ak_ (Kd.R_below (Kd.pR HO_5.out) hb); have n2_ := ak_ (Kd.R_below (Kd.pR HO310.out) hb); have n3_ := ak_ (blk_below (pk BK300.out) hb); have n4_ := ak_ (bs_ bl_ hb); clear HO_4; clear HO_5; clear HO310; clear BK300; clear HB; have HO_4 := n0_; have HO_5 := n1_; have HO310 := n2_; have BK300 := n3_; have HB := n4_; clear n0_ n1_ n2_ n3_ n4_; (try clear hb); (try clear hb2); (try clear hk); (try clear hi); have p26 : 0 ≤ (t312 : Int) := odt_ (by assumption); have q26 : (t312 : Int) < ((x4_1.length : Int) : Int) := odt_ (by assumption); obtain ⟨go26, co26, eo26, gb26, gl26, cl26, HG26⟩ := Kd.R_form HO_4.out (by omega); (first | cases eo26 | (injection eo26 with ea_ en_ ec_; (first | subst ea_ | (injection ea_ with ea_; subst ea_)); subst ec_; clear en_)); have GB26 := ak_ gb26; have GG26 := ak_ HG26; clear gb26 gl26 HG26; obtain ⟨hx26_0, hf26_0⟩ := Kd.R_celln 0 HO_4.out (t312 : Int) p26 q26; replace p26 := eq_true p26; replace q26 := eq_true q26; obtain ⟨hy33_, hz33_⟩ := Kd.R_celln 0 HO_4.out (t312 : Int) (odt_ (by assumption)) (odt_ (by assumption)); have HP33 := Kd.R_putg HO_4.out (t312 : Int) 0) | ((with_reducible refine gate_store (t := 3) (p := 36) rfl ?_); refine store_event (t := 3) (p := 36) (v := ?vo_w34) (w1 := (w32.setCell ⟨go26, (t312 : Int).toNat, none⟩ (.int .i64 0))) ?hg ?ho ?hn ?hr ?_; (case ho => rfl); (case hg => rfl); (case hn => rfl); (case hr => go_simp <;> rfl); intro w34 hw; have hg : w32.grownBy w34 (some go26) := (by rw [hw]; exact HP33.2); have hp_ : Kd.R (Kd.int .i64) 3 w34 w.heap.size (fun k_ => some k_ ≠ (v305 : Value).ownBlock) (.slice (some ⟨go26, 0, none⟩) x4_1.length co15) y313 := (by rw [hw, Ny313.out]; exact HP33.1); clear HP33; have n0_ := ak_ (hp_); have n1_ := ak_ (Kd.R_after (v := (.slice (some ⟨go26, 0, none⟩) x4_1.length co15)) (v1 := (.slice (some ⟨go26, 0, none⟩) x4_1.length co15)) (ok := (fun _ => True)) (by (with_reducible repeat (first | apply Kd.R_alloc | apply Kd.R_drewN | apply Kd.R_drew)); exact Kd.R_mono HO_5.out (fun _ hk => ⟨trivial, hk⟩)) hg (.inl rfl)); have n2_ := ak_ (blk_grown (pk BK300.out) hg (Kd.R_ne HO_4.out BK300.out (by decide))); have n3_ := ak_ (Kd.R_over' (v := (.slice (some ⟨go26, 0, none⟩) x4_1.length co15)) (Kd.pR HO310.out) (Kd.R_typed HO_4.out) (by decide) hg); have n4_ := ak_ ((by rw [hw]; exact below_set (HB.out) GB26.out : Below w.heap.size w w34)); clear HO_4; clear HO_5; clear BK300; clear HO310; clear HB; have HO_4 := n0_; have HO_5 := n1_; have BK300 := n2_; have HO310 := n3_; have HB := n4_; clear n0_ n1_ n2_ n3_ n4_; clear hg hw hp_; have p28 : 0 ≤ (t312 : Int) := odt_ (by assumption); have q28 : (t312 : Int) < ((y304.length : Int) : Int) := odt_ (by assumption); obtain ⟨go28, co28, eo28, gb28, gl28, cl28, HG28⟩ := Kd.R_form HO_5.out (by omega); (first | cases eo28 | (injection eo28 with ea_ en_ ec_; (first | subst ea_ | (injection ea_ with ea_; subst ea_)); subst ec_; clear en_)); have GB28 := ak_ gb28; have GG28 := ak_ HG28; clear gb28 gl28 HG28; obtain ⟨hx28_0, hf28_0⟩ := Kd.R_celln 0 HO_5.out (t312 : Int) p28 q28; replace p28 := eq_true p28; replace q28 := eq_true q28; have n_ := ak_ (Kd.R_mono (ok' := (fun k_ => some k_ ≠ (.slice (some ⟨go26, 0, none⟩) x4_1.length co15 : Value).ownBlock)) HO_5.out (fun k_ hk => hk.2)); clear HO_5; have HO_5 := n_; clear n_; obtain ⟨hy35_, hz35_⟩ := Kd.R_celln 0 HO_5.out (t312 : Int) (odt_ (by assumption)) (odt_ (by assumption)); have HP35 := Kd.R_putg HO_5.out (t312 : Int) 1) | ((with_reducible refine gate_store (t := 3) (p := 39) rfl ?_); refine store_event (t := 3) (p := 39) (v := ?vo_w36) (w1 := (w34.setCell ⟨go28, (t312 : Int).toNat, none⟩ (.int .i64 1))) ?hg ?ho ?hn ?hr ?_; (case ho => rfl); (case hg => rfl); (case hn => rfl); (case hr => go_simp <;> rfl); intro w36 hw; have hg : w34.grownBy w36 (some go28) := (by rw [hw]; exact HP35.2); have hp_ : Kd.R (Kd.int .i64) 3 w36 w.heap.size (fun k_ => some k_ ≠ (.slice (some ⟨go26, 0, none⟩) x4_1.length co15 : Value).ownBlock) (.slice (some ⟨go28, 0, none⟩) y304.length co28) y314 := (by rw [hw, Ny314.out]; exact HP35.1); clear HP35; have n0_ := ak_ (Kd.R_after (v := (.slice (some ⟨go28, 0, none⟩) y304.length co28)) (v1 := (.slice (some ⟨go28, 0, none⟩) y304.length co28)) (ok := (fun _ => True)) (by (with_reducible repeat (first | apply Kd.R_alloc | apply Kd.R_drewN | apply Kd.R_drew)); exact Kd.R_mono HO_4.out (fun _ hk => ⟨trivial, hk⟩)) hg (.inl rfl)); have n1_ := ak_ (hp_); have n2_ := ak_ (blk_grown (pk BK300.out) hg (Kd.R_ne HO_5.out BK300.out (by decide))); have n3_ := ak_ (Kd.R_over' (v := (.slice (some ⟨go28, 0, none⟩) y304.length co28)) (Kd.pR HO310.out) (Kd.R_typed HO_5.out) (by decide) hg); have n4_ := ak_ ((by rw [hw]; exact below_set (HB.out) GB28.out : Below w.heap.size w w36)); clear HO_4; clear HO_5; clear BK300; clear HO310; clear HB; have HO_4 := n0_; have HO_5 := n1_; have BK300 := n2_; have HO310 := n3_; have HB := n4_; clear n0_ n1_ n2_ n3_ n4_; clear hg hw hp_) | ((with_reducible refine gate_dst (N := 41) rfl ?_); refine Kd.R_lit (Kd.int .i64) _ 3 ?hg (N := 41) ?hd (xs := ([t312] : List Int)) (inner := [.int .i64 t312]) (ok := fun _ => True) (okp := fun _ => True) ?hr ?hp (fun _ hk => hk) trivial (Below.refl _ _) (Nat.le_refl _) (by simp) ?_; (case hd => rfl); (case hg => rfl); (case hr => go_simp <;> rfl); (case hp => exact (Reps.one (show Kd.M (Kd.int .i64) _ _ _ t312 [.int .i64 t312] from rfl) (Reps.none _ _))); intro v316 w37 ho38 hb hg_ hnew_; clear hg_ hnew_; (first | rw [← Ny315.out] at ho38 | (simp only [Int.reduceToNat] at ho38; rw [← Ny315.out] at ho38)); have n0_ := ak_ (Kd.R_elder' (Kd.pR HO_4.out) (Kd.R_base ho38) hb); have n1_ := ak_ (Kd.R_elder' (Kd.pR HO_5.out) (Kd.R_base ho38) hb); have n2_ := ak_ (Kd.R_below (Kd.pR HO310.out) hb); have n3_ := ak_ (Kd.R_lower (Kd.R_new' (Kd.R_new' ho38 (Kd.R_lt (Kd.pR HO_4.out))) (Kd.R_lt (Kd.pR HO_5.out))) (bz_ bl_)); have n4_ := ak_ (blk_below (pk BK300.out) hb); have n5_ := ak_ (bs_ bl_ hb); clear HO_4; clear HO_5; clear HO310; clear BK300; clear HB; have HO_4 := n0_; have HO_5 := n1_; have HO310 := n2_; have HO317 := n3_; have BK300 := n4_; have HB := n5_; clear n0_ n1_ n2_ n3_ n4_ n5_; clear hb ho38))
          go_loopg [8, 9] k1 (fun kq v8 v9 w' => ∃ (x4_2 : List Int) (x5_2 : List Int) (x8_2 : List Int) (x9_2 : Int), v9 = .int .i64 x9_2 ∧ Aside0 (spec_keFar.l1 kq x4_2 x5_2 x8_2 x9_2 a0_0 l0_1 a0_2 = some (r1, r2)) ∧ Aside0 (kq ≤ k1) ∧ Aside0 (Kd.R (Kd.int .i64) 3 w' w.heap.size (fun k_ => some k_ ≠ ((.slice (some ⟨go28, 0, none⟩) y304.length co28) : Value).ownBlock ∧ some k_ ≠ (v8 : Value).ownBlock) (.slice (some ⟨go26, 0, none⟩) x4_1.length co15) x4_2) ∧ Aside0 (Kd.R (Kd.int .i64) 3 w' w.heap.size (fun k_ => some k_ ≠ ((.slice (some ⟨go26, 0, none⟩) x4_1.length co15) : Value).ownBlock ∧ some k_ ≠ (v8 : Value).ownBlock) (.slice (some ⟨go28, 0, none⟩) y304.length co28) x5_2) ∧ Aside0 (Kd.R (Kd.int .i64) 3 w' w.heap.size (fun k_ => some k_ ≠ ((.slice (some ⟨go26, 0, none⟩) x4_1.length co15) : Value).ownBlock ∧ some k_ ≠ ((.slice (some ⟨go28, 0, none⟩) y304.length co28) : Value).ownBlock) v8 x8_2) ∧ Aside0 (w'.heap[gb300]? = some (.cells #[.int .i64 a0_0, (.slice A0_1 l0_1.length c0_1), .int .i64 a0_2] 52 (0, 0))) ∧ Aside0 (Below w.heap.size w w'))
          case atStart => exact ⟨(y313), (y314), (y315), (0), (ry_), H', ⟨Nat.le_refl _⟩, ⟨by (try simp only [hl4_1]); (with_reducible repeat (first | apply Kd.R_alloc | apply Kd.R_drewN | apply Kd.R_drew)); exact Kd.R_mono HO_4.out (fun _ hk => ⟨hk.1.2, hk.2⟩)⟩, ⟨by (try simp only [hl4_1]); exact Kd.pR HO_5.out⟩, ⟨by (try simp only [hl4_1]); (with_reducible repeat (first | apply Kd.R_alloc | apply Kd.R_drewN | apply Kd.R_drew)); exact Kd.R_mono HO317.out (fun _ hk => ⟨hk.1.2, hk.2⟩)⟩, ⟨by (try simp only [hl4_1]); exact pk BK300.out⟩, ⟨by repeat (first | exact HB.out | apply ba_ | apply bN_ | apply b1_ | refine below_set ?_ GE300.out)⟩⟩
          case round =>
           clear H'
           try clear c1
           try clear p1
           try clear q1
           try clear hx1
           try clear hf1
           try clear c2
           try clear c2b0
           try clear c2b1
           try clear p2
           try clear q2
           try clear hx2
           try clear hf2
           try clear c4
           try clear c4b0
           try clear c4b1
           try clear c5
           try clear c5b0
           try clear c5b1
           try clear c6
           try clear c6b0
           try clear p6
           try clear c7
           try clear c7b0
           try clear c10
           try clear c16
           try clear c16b0
           try clear c17
           try clear c17b0
           try clear c18
           try clear c18b0
           try clear p19
           try clear q19
           try clear hx19
           try clear hf19
           try clear c24
           try clear c24b0
           try clear c25
           try clear c25b0
           try clear p26
           try clear q26
           try clear hx26
           try clear hf26
           try clear c27
           try clear c27b0
           try clear p28
           try clear q28
           try clear hx28
           try clear hf28
           try clear hcz29_0
           try clear hcz29_1
           try clear hcz29_2
           try clear hfz29_0
           try clear hfz29_1
           try clear hfz29_2
           try clear hx19_0
           try clear hx26_0
           try clear hx28_0
           try clear p19
           try clear p2
           try clear p26
           try clear p28
           try clear p6
           try clear q19
           try clear q26
           try clear q28
           obtain ⟨x4_2, x5_2, x8_2, x9_2, rfl, HA, HK2, HO_4, HO_5, HO_8, BK300, HB⟩ := hrel
           have hl4_2 := (Kd.R_reads' HO_4.out).1
           rw [hl4_2] at HO_4
           (try simp only [hl4_2])
           (try simp only [hl4_2] at BK300)
           (try simp only [hl4_2] at HO_5)
           (try simp only [hl4_2] at HO_8)
           have hl5_2 := (Kd.R_reads' HO_5.out).1
           rw [hl5_2] at HO_5
           (try simp only [hl5_2])
           (try simp only [hl5_2] at BK300)
           (try simp only [hl5_2] at HO_4)
           (try simp only [hl5_2] at HO_8)
           cases gk with
           | zero => exact absurd HA.out (by simp [spec_keFar.l1])
           | succ k2 =>
            have H := HA.out
            clear HA
            simp only [spec_keFar.l1] at H
            by_cases c39 : x9_2 < (x8_2.length : Int)
            ·
             rw [if_pos c39] at H
             have c39b0 : decide (x9_2 < (x8_2.length : Int)) = true := decide_eq_true c39
             clear c39
             by_cases c40 : 0 ≤ x9_2
             ·
              rw [if_pos c40] at H
              have c40b0 : decide (0 ≤ x9_2) = true := decide_eq_true c40
              clear c40
              replace H := Option.bind_eq_some_iff.mp H
              obtain ⟨⟨t319, t322⟩, A410, H⟩ := H
              replace H : ((spec_keRides.f k2 a0_0 l0_1 a0_2 t319 t322).bind fun t324 => (spec_keFar.l2 k2 x4_2 x5_2 x8_2 x9_2 t324 (t324.length : Int) 0 a0_0 l0_1 a0_2 t319 t322)) = some (r1, r2) := H
              have A41 := ak_ A410
              clear A410
              replace H := Option.bind_eq_some_iff.mp H
              obtain ⟨t324, A420, H⟩ := H
              replace H : (spec_keFar.l2 k2 x4_2 x5_2 x8_2 x9_2 t324 (t324.length : Int) 0 a0_0 l0_1 a0_2 t319 t322) = some (r1, r2) := H
              have A42 := ak_ A420
              clear A420
              have H' := ak_ H
              clear H
              obtain ⟨Ao43, co43, eo43⟩ := Kd.R_slice HO_8.out
              subst eo43
              try go_wp2
              have n0_ := ak_ (Kd.R_drew HO_4.out)
              have n1_ := ak_ (Kd.R_drew HO_5.out)
              have n2_ := ak_ (Kd.R_drew HO_8.out)
              have n3_ := ak_ (k1_ BK300.out)
              have n4_ := ak_ (b1_ HB.out)
              clear HO_4 HO_5 HO_8 BK300 HB
              have HO_4 := n0_; have HO_5 := n1_; have HO_8 := n2_; have BK300 := n3_; have HB := n4_
              clear n0_ n1_ n2_ n3_ n4_
              have p318 : 0 ≤ (x9_2 : Int) := odt_ (by assumption)
              have q318 : x9_2 < (x8_2.length : Int) := odt_ (by assumption)
              obtain ⟨ad318, e318, hx318_0⟩ := Kd.at_int (Kd.R_reads' HO_8.out).2.2 x9_2 p318 q318
              cases e318
              replace p318 := eq_true p318
              replace q318 := eq_true q318
              refine start_ (n := 9) (S := fun w' => w'.cell? ⟨gb300, 0, none⟩ = some (.int .i64 a0_0) ∧ w'.cell? ⟨gb300, 1, none⟩ = some (.slice A0_1 l0_1.length c0_1) ∧ w'.cell? ⟨gb300, 2, none⟩ = some (.int .i64 a0_2) ∧ w'.cell? (ad318.add (x9_2).toNat) = some (.int .i64 (rd x8_2 x9_2))) (ds := []) (mb_ 9 0) (by kernel_rfl) rfl rfl ⟨(blk_cell BK300.out 0).trans rfl, (blk_cell BK300.out 1).trans rfl, (blk_cell BK300.out 2).trans rfl, hx318_0⟩ (fun hHeld => ?_); refine with_tabW spec_keFar.tab14 spec_keFar.bits14 (fun HT_ HW_ => ?_)
              generalize wr.drew = w44 at HO_4 HO_5 HO_8 BK300 HB hx318_0 hHeld ⊢
              refine pu_ 0 48 9 1 ?_
              refine pu_ 1 49 9 3 ?_
              refine pu_ 2 50 9 7 ?_
              refine pu_ 4 52 9 23 ?_
              refine tk_ 3 51 9 31 ?_ (hy := by rintro w' ⟨s0, s1, s2, s3⟩; go_simp; with_reducible rfl)
              refine tk_ 5 53 9 63 ?_ (hy := by rintro w' ⟨s0, s1, s2, s3⟩; go_simp; with_reducible rfl)
              refine join_ (σ := Value × Nat) 1 (mb_ 9 255) (fun s_ => [(54, .agg #[s_.1, .bool t322]), (10, .pointer (some ⟨s_.2, 0, none⟩))]) (fun s_ w' => (w'.cell? ⟨gb300, 0, none⟩ = some (.int .i64 a0_0) ∧ w'.cell? ⟨gb300, 1, none⟩ = some (.slice A0_1 l0_1.length c0_1) ∧ w'.cell? ⟨gb300, 2, none⟩ = some (.int .i64 a0_2) ∧ w'.cell? (ad318.add (x9_2).toNat) = some (.int .i64 (rd x8_2 x9_2))) ∧ (Kd.R Kd.bool 4 w' w.heap.size (fun _ => True) s_.1 t319) ∧ (Kd.R (Kd.int .i64) 3 w' w.heap.size (fun k_ => some k_ ≠ (.slice (some ⟨go28, 0, none⟩) x5_2.length co28 : Value).ownBlock ∧ some k_ ≠ (.slice (some ad318) x8_2.length co43 : Value).ownBlock) (.slice (some ⟨go26, 0, none⟩) x4_2.length co15) x4_2) ∧ (Kd.R (Kd.int .i64) 3 w' w.heap.size (fun k_ => some k_ ≠ (.slice (some ⟨go26, 0, none⟩) x4_2.length co15 : Value).ownBlock ∧ some k_ ≠ (.slice (some ad318) x8_2.length co43 : Value).ownBlock) (.slice (some ⟨go28, 0, none⟩) x5_2.length co28) x5_2) ∧ (Kd.R (Kd.int .i64) 3 w' w.heap.size (fun k_ => some k_ ≠ (.slice (some ⟨go26, 0, none⟩) x4_2.length co15 : Value).ownBlock ∧ some k_ ≠ (.slice (some ⟨go28, 0, none⟩) x5_2.length co28 : Value).ownBlock) (.slice (some ad318) x8_2.length co43) x8_2) ∧ (w'.heap[gb300]? = some (.cells #[.int .i64 a0_0, .slice A0_1 l0_1.length c0_1, .int .i64 a0_2] 52 (0, 0))) ∧ (w'.heap[s_.2]? = some (.cells #[.slice none 0 0, .bool false] 90 (0, 0))) ∧ (w.heap.size ≤ s_.2) ∧ (w.heap.size ≤ s_.2) ∧ (gb300 ≠ s_.2) ∧ (s_.2 ≠ gb300) ∧ (Below w.heap.size w w')) ?_ ?_
              rotate_left
              ·
               intro hCont
               refine two_ (i := 6) (j := 7) (Ni := some 54) (Nj := some 10) (mb_ 9 127) (mb_ 9 191) rfl rfl rfl rfl (two_of HT_.out (by kernel_rfl)) (by decide) (by decide) (fun K hK => ?_) (fun K hK => ?_)
               ·
                skip
                refine goes_ Try.func106 (by kernel_rfl) rfl #[.int .i64 (rd x8_2 x9_2), .int .i64 a0_0] (by rfl) rfl rfl (by first | rfl | (simp only [map_toArray, map_cons, map_nil]; try rfl)) ?_
                with_reducible refine (spec_keBank.calls k2 (rd x8_2 x9_2) a0_0 t319 t322 _ A41.out).mono ?_
                rintro e w45 ⟨v320, rfl, ho0, hb⟩
                have HS3_ := (hb.cell (World.block_lt_of_cell? _ _ (hHeld.2.2.2))).trans (hHeld.2.2.2)
                refine ⟨_, rfl, ?_⟩
                have n0_ := ak_ (Kd.R_below (Kd.pR HO_4.out) hb)
                have n1_ := ak_ (Kd.R_below (Kd.pR HO_5.out) hb)
                have n2_ := ak_ (Kd.R_below (Kd.pR HO_8.out) hb)
                have n3_ := ak_ (Kd.R_lower ho0 (bz_ bl_))
                have n4_ := ak_ (blk_below (pk BK300.out) hb)
                have n5_ := ak_ (bs_ bl_ hb)
                clear HO_4 HO_5 HO_8 BK300 HB
                have HO_4 := n0_; have HO_5 := n1_; have HO_8 := n2_; have HO321 := n3_; have BK300 := n4_; have HB := n5_
                clear n0_ n1_ n2_ n3_ n4_ n5_
                (try clear hb)
                (try clear hb2)
                (try clear hk)
                (try clear hi)
                (try clear ho0)
                refine hK.out _ _ ⟨(blk_cell BK300.out 0).trans rfl, (blk_cell BK300.out 1).trans rfl, (blk_cell BK300.out 2).trans rfl, HS3_⟩ (fun hHeld => ?_)
                clear hK K
                refine nm_ ?_
                refine on_ 7 10 9 255 (fun K hK => ?_)
                refine box_step ?hg (N := 10) ?hd (cs := #[.slice none 0 0, .bool false]) (t := 90) ?hr ?_; (case hd => rfl); (case hg => rfl); (case hr => go_simp <;> rfl)
                intro gb323 hg w46 hbox hb
                have HS3_ := (hb.cell (World.block_lt_of_cell? _ _ (hHeld.2.2.2))).trans (hHeld.2.2.2)
                have n0_ := ak_ (Kd.R_below (Kd.pR HO_4.out) hb)
                have n1_ := ak_ (Kd.R_below (Kd.pR HO_5.out) hb)
                have n2_ := ak_ (Kd.R_below (Kd.pR HO_8.out) hb)
                have n3_ := ak_ (Kd.R_below (Kd.pR HO321.out) hb)
                have n4_ := ak_ (blk_below (pk BK300.out) hb)
                have n5_ := ak_ (bs_ bl_ hb)
                have n6_ := ak_ (hbox)
                have n7_ := ak_ ((by rw [hg]; exact (bz_ bl_) : w.heap.size ≤ gb323))
                have n8_ := n7_
                have n9_ := ak_ ((by rw [hg]; exact Nat.ne_of_lt (blk_lt (pk BK300.out)) : gb300 ≠ gb323))
                have n10_ := ak_ n9_.out.symm
                clear HO_4 HO_5 HO_8 HO321 BK300 HB
                have HO_4 := n0_; have HO_5 := n1_; have HO_8 := n2_; have HO321 := n3_; have BK300 := n4_; have HB := n5_; have BK323 := n6_; have GW323 := n7_; have GE323 := n8_; have NB300_323 := n9_; have NB323_300 := n10_
                clear n0_ n1_ n2_ n3_ n4_ n5_ n6_ n7_ n8_ n9_ n10_ hb hbox hg
                refine hK.out _ _ ⟨(blk_cell BK300.out 0).trans rfl, (blk_cell BK300.out 1).trans rfl, (blk_cell BK300.out 2).trans rfl, HS3_⟩ (fun hHeld => ?_)
                clear hK K
                refine nm_ ?_
                exact norm_ (by simp only [putAll, Act.put, setIfInBounds_toArray, set_cons_zero, set_cons_succ]) (hCont (v320, gb323) _ ⟨hHeld, (Kd.pR HO321.out), (Kd.pR HO_4.out), (Kd.pR HO_5.out), (Kd.pR HO_8.out), (pk BK300.out), (pk BK323.out), GW323.out, GE323.out, NB300_323.out, NB323_300.out, bl_⟩)
               ·
                skip
                refine box_step ?hg (N := 10) ?hd (cs := #[.slice none 0 0, .bool false]) (t := 90) ?hr ?_; (case hd => rfl); (case hg => rfl); (case hr => go_simp <;> rfl)
                intro gb323 hg w45 hbox hb
                have HS3_ := (hb.cell (World.block_lt_of_cell? _ _ (hHeld.2.2.2))).trans (hHeld.2.2.2)
                have n0_ := ak_ (Kd.R_below (Kd.pR HO_4.out) hb)
                have n1_ := ak_ (Kd.R_below (Kd.pR HO_5.out) hb)
                have n2_ := ak_ (Kd.R_below (Kd.pR HO_8.out) hb)
                have n3_ := ak_ (blk_below (pk BK300.out) hb)
                have n4_ := ak_ (bs_ bl_ hb)
                have n5_ := ak_ (hbox)
                have n6_ := ak_ ((by rw [hg]; exact (bz_ bl_) : w.heap.size ≤ gb323))
                have n7_ := n6_
                have n8_ := ak_ ((by rw [hg]; exact Nat.ne_of_lt (blk_lt (pk BK300.out)) : gb300 ≠ gb323))
                have n9_ := ak_ n8_.out.symm
                clear HO_4 HO_5 HO_8 BK300 HB
                have HO_4 := n0_; have HO_5 := n1_; have HO_8 := n2_; have BK300 := n3_; have HB := n4_; have BK323 := n5_; have GW323 := n6_; have GE323 := n7_; have NB300_323 := n8_; have NB323_300 := n9_
                clear n0_ n1_ n2_ n3_ n4_ n5_ n6_ n7_ n8_ n9_ hb hbox hg
                refine hK.out _ _ ⟨(blk_cell BK300.out 0).trans rfl, (blk_cell BK300.out 1).trans rfl, (blk_cell BK300.out 2).trans rfl, HS3_⟩ (fun hHeld => ?_)
                clear hK K
                refine nm_ ?_
                refine on_ 6 54 9 255 (fun K hK => ?_)
                refine goes_ Try.func106 (by kernel_rfl) rfl #[.int .i64 (rd x8_2 x9_2), .int .i64 a0_0] (by rfl) rfl rfl (by first | rfl | (simp only [map_toArray, map_cons, map_nil]; try rfl)) ?_
                with_reducible refine (spec_keBank.calls k2 (rd x8_2 x9_2) a0_0 t319 t322 _ A41.out).mono ?_
                rintro e w46 ⟨v320, rfl, ho0, hb⟩
                have HS3_ := (hb.cell (World.block_lt_of_cell? _ _ (hHeld.2.2.2))).trans (hHeld.2.2.2)
                refine ⟨_, rfl, ?_⟩
                have n0_ := ak_ (Kd.R_below (Kd.pR HO_4.out) hb)
                have n1_ := ak_ (Kd.R_below (Kd.pR HO_5.out) hb)
                have n2_ := ak_ (Kd.R_below (Kd.pR HO_8.out) hb)
                have n3_ := ak_ (Kd.R_lower ho0 (bz_ bl_))
                have n4_ := ak_ (blk_below (pk BK300.out) hb)
                have n5_ := ak_ (blk_below (pk BK323.out) hb)
                have n6_ := ak_ (bs_ bl_ hb)
                clear HO_4 HO_5 HO_8 BK300 BK323 HB
                have HO_4 := n0_; have HO_5 := n1_; have HO_8 := n2_; have HO321 := n3_; have BK300 := n4_; have BK323 := n5_; have HB := n6_
                clear n0_ n1_ n2_ n3_ n4_ n5_ n6_
                (try clear hb)
                (try clear hb2)
                (try clear hk)
                (try clear hi)
                (try clear ho0)
                refine hK.out _ _ ⟨(blk_cell BK300.out 0).trans rfl, (blk_cell BK300.out 1).trans rfl, (blk_cell BK300.out 2).trans rfl, HS3_⟩ (fun hHeld => ?_)
                clear hK K
                refine nm_ ?_
                exact norm_ (by simp only [putAll, Act.put, setIfInBounds_toArray, set_cons_zero, set_cons_succ]) (hCont (v320, gb323) _ ⟨hHeld, (Kd.pR HO321.out), (Kd.pR HO_4.out), (Kd.pR HO_5.out), (Kd.pR HO_8.out), (pk BK300.out), (pk BK323.out), GW323.out, GE323.out, NB300_323.out, NB323_300.out, bl_⟩)
              rintro ⟨v320, gb323⟩ w47 ⟨hS_, h0_, h1_, h2_, h3_, h4_, h5_, h6_, h7_, h8_, h9_, h10_⟩
              have n0_ : Aside0 (Kd.R Kd.bool 4 w47 w.heap.size (fun _ => True) v320 t319) := ⟨h0_⟩
              have n1_ : Aside0 (Kd.R (Kd.int .i64) 3 w47 w.heap.size (fun k_ => some k_ ≠ (.slice (some ⟨go28, 0, none⟩) x5_2.length co28 : Value).ownBlock ∧ some k_ ≠ (.slice (some ad318) x8_2.length co43 : Value).ownBlock) (.slice (some ⟨go26, 0, none⟩) x4_2.length co15) x4_2) := ⟨h1_⟩
              have n2_ : Aside0 (Kd.R (Kd.int .i64) 3 w47 w.heap.size (fun k_ => some k_ ≠ (.slice (some ⟨go26, 0, none⟩) x4_2.length co15 : Value).ownBlock ∧ some k_ ≠ (.slice (some ad318) x8_2.length co43 : Value).ownBlock) (.slice (some ⟨go28, 0, none⟩) x5_2.length co28) x5_2) := ⟨h2_⟩
              have n3_ : Aside0 (Kd.R (Kd.int .i64) 3 w47 w.heap.size (fun k_ => some k_ ≠ (.slice (some ⟨go26, 0, none⟩) x4_2.length co15 : Value).ownBlock ∧ some k_ ≠ (.slice (some ⟨go28, 0, none⟩) x5_2.length co28 : Value).ownBlock) (.slice (some ad318) x8_2.length co43) x8_2) := ⟨h3_⟩
              have n4_ : Aside0 (w47.heap[gb300]? = some (.cells #[.int .i64 a0_0, .slice A0_1 l0_1.length c0_1, .int .i64 a0_2] 52 (0, 0))) := ⟨h4_⟩
              have n5_ : Aside0 (w47.heap[gb323]? = some (.cells #[.slice none 0 0, .bool false] 90 (0, 0))) := ⟨h5_⟩
              have n6_ : Aside0 (w.heap.size ≤ gb323) := ⟨h6_⟩
              have n7_ : Aside0 (w.heap.size ≤ gb323) := ⟨h7_⟩
              have n8_ : Aside0 (gb300 ≠ gb323) := ⟨h8_⟩
              have n9_ : Aside0 (gb323 ≠ gb300) := ⟨h9_⟩
              have n10_ : Aside0 (Below w.heap.size w w47) := ⟨h10_⟩
              clear HO_4 HO_5 HO_8 BK300 HB h0_ h1_ h2_ h3_ h4_ h5_ h6_ h7_ h8_ h9_ h10_
              have HO321 := n0_; have HO_4 := n1_; have HO_5 := n2_; have HO_8 := n3_; have BK300 := n4_; have BK323 := n5_; have GW323 := n6_; have GE323 := n7_; have NB300_323 := n8_; have NB323_300 := n9_; have HB := n10_
              clear n0_ n1_ n2_ n3_ n4_ n5_ n6_ n7_ n8_ n9_ n10_
              have hHeld : w47.cell? ⟨gb300, 0, none⟩ = some (.int .i64 a0_0) ∧ w47.cell? ⟨gb300, 1, none⟩ = some (.slice A0_1 l0_1.length c0_1) ∧ w47.cell? ⟨gb300, 2, none⟩ = some (.int .i64 a0_2) ∧ w47.cell? (ad318.add (x9_2).toNat) = some (.int .i64 (rd x8_2 x9_2)) := hS_
              obtain ⟨Ao48, co48, eo48⟩ := Kd.R_slice HO321.out
              (first | subst eo48 | (injection eo48 with f1_ f2_ f3_; have f4_ := f1_.symm; have f5_ := f3_.symm; clear f1_ f2_ f3_; subst f4_; subst f5_))
              refine norm_ (a' := ?_) ?_ ?_
              rotate_left
              ·
               simp only [putAll, Act.put, setIfInBounds_toArray, set_cons_zero, set_cons_succ]
               rfl
              refine one_ (i := 8) (N := none) (mb_ 9 511) rfl rfl (one_of HT_.out (by kernel_rfl)) (by decide) (fun K hK => ?_)
              have hs49 : w47.cell? ⟨gb323, 0, none⟩ = some (.slice none 0 0) := (blk_cell BK323.out 0).trans rfl
              have hfs49 := blk_frozen BK323.out 0
              have hns49_0 := NB300_323.out
              have hms49_0 := NB323_300.out
              have hs50 : w47.cell? ⟨gb323, 1, none⟩ = some (.bool false) := (blk_cell BK323.out 1).trans rfl
              have hfs50 := blk_frozen BK323.out 1
              have hns50_0 := NB300_323.out
              have hms50_0 := NB323_300.out
              refine skip_ (w1 := ?_) (by rfl) rfl ?_ ?_
              rotate_left
              ·
               go_simp
               rfl
              refine hK.out _ _ ⟨((cell_far (p := ⟨gb323, _, none⟩) NB300_323.out _).trans (((cell_far (p := ⟨gb323, _, none⟩) NB300_323.out _).trans (hHeld.1)))), ((cell_far (p := ⟨gb323, _, none⟩) NB300_323.out _).trans (((cell_far (p := ⟨gb323, _, none⟩) NB300_323.out _).trans (hHeld.2.1)))), ((cell_far (p := ⟨gb323, _, none⟩) NB300_323.out _).trans (((cell_far (p := ⟨gb323, _, none⟩) NB300_323.out _).trans (hHeld.2.2.1)))), ((cell_far (p := ⟨gb323, _, none⟩) (by first | exact Kd.own_blk (Kd.R_ne HO_8.out BK323.out (by decide)) | (rw [add_block]; exact Kd.own_blk (Kd.R_ne HO_8.out BK323.out (by decide))) | (show (Addr.add _ _).block ≠ _; rw [add_block]; exact Kd.own_blk (Kd.R_ne HO_8.out BK323.out (by decide))) | (dsimp only; exact Kd.own_blk (Kd.R_ne HO_8.out BK323.out (by decide)))) _).trans (((cell_far (p := ⟨gb323, _, none⟩) (by first | exact Kd.own_blk (Kd.R_ne HO_8.out BK323.out (by decide)) | (rw [add_block]; exact Kd.own_blk (Kd.R_ne HO_8.out BK323.out (by decide))) | (show (Addr.add _ _).block ≠ _; rw [add_block]; exact Kd.own_blk (Kd.R_ne HO_8.out BK323.out (by decide))) | (dsimp only; exact Kd.own_blk (Kd.R_ne HO_8.out BK323.out (by decide)))) _).trans (hHeld.2.2.2))))⟩ (fun hHeld => ?_)
              clear hK K
              refine done_ (done_of HT_.out (by kernel_rfl)) ?_
              have hnb51 := NB300_323.out
              have hnc51 := NB323_300.out
              obtain ⟨hcz52_0, hcz52_1, hcz52_2, hfz52_0, hfz52_1, hfz52_2⟩ := c3_ BK300.out
              obtain ⟨hcz53_0, hcz53_1, hfz53_0, hfz53_1⟩ := c2_ BK323.out
              try go_wp2_with (first | ((with_reducible refine gate_callee (f := 74) rfl ?_); refine goesL_ (some 57) rfl rfl Try.func74 (by kernel_rfl) rfl #[.agg #[.int .i64 a0_0, .slice A0_1 l0_1.length c0_1, .int .i64 a0_2], .agg #[.slice Ao48 t319.length co48, .bool t322]] rfl (by first | rfl | (simp only [map_toArray, map_cons, map_nil]; try rfl)) ?_; (with_reducible refine (spec_keRides.calls k2 a0_0 _ _ l0_1 a0_2 _ _ t319 t322 t324 _ ?side1 ?side2 ?side3 ?side4 A42.out).mono ?_); (case side1 => exact Kd.C_below HR0_1.out bl_); (case side2 => exact HC0_1.out); (case side3 => refine (Kd.R_reads' (e := 4) (base := w.heap.size) (ok := fun k_ => True) (n := t319.length) (c := co48) ?_).2.2; exact (by (with_reducible repeat (first | apply Kd.R_alloc | apply Kd.R_drewN | apply Kd.R_drew)); exact (Kd.R_mono (Kd.R_far (p := ⟨gb323, 1, none⟩) (Kd.R_far (p := ⟨gb323, 0, none⟩) (Kd.R_types HO321.out BK323.out (by decide)) (fun _ hk => hk.2) (.slice Ao48 t319.length co48)) (fun _ hk => hk.2) (.bool t322)) (fun _ h_ => h_.1)))); (case side4 => exact (Kd.R_reads' HO321.out).2.1); rintro e w54 ⟨v325, rfl, ho0, hb⟩; refine ⟨_, rfl, ?_⟩; have n0_ := ak_ (Kd.R_below (by (with_reducible repeat (first | apply Kd.R_alloc | apply Kd.R_drewN | apply Kd.R_drew)); exact (Kd.R_mono (Kd.R_far (p := ⟨gb323, 1, none⟩) (Kd.R_far (p := ⟨gb323, 0, none⟩) (Kd.R_types HO_4.out BK323.out (by decide)) (fun _ hk => hk.2) (.slice Ao48 t319.length co48)) (fun _ hk => hk.2) (.bool t322)) (fun _ h_ => h_.1))) hb); have n1_ := ak_ (Kd.R_below (by (with_reducible repeat (first | apply Kd.R_alloc | apply Kd.R_drewN | apply Kd.R_drew)); exact (Kd.R_mono (Kd.R_far (p := ⟨gb323, 1, none⟩) (Kd.R_far (p := ⟨gb323, 0, none⟩) (Kd.R_types HO_5.out BK323.out (by decide)) (fun _ hk => hk.2) (.slice Ao48 t319.length co48)) (fun _ hk => hk.2) (.bool t322)) (fun _ h_ => h_.1))) hb); have n2_ := ak_ (Kd.R_below (by (with_reducible repeat (first | apply Kd.R_alloc | apply Kd.R_drewN | apply Kd.R_drew)); exact (Kd.R_mono (Kd.R_far (p := ⟨gb323, 1, none⟩) (Kd.R_far (p := ⟨gb323, 0, none⟩) (Kd.R_types HO_8.out BK323.out (by decide)) (fun _ hk => hk.2) (.slice Ao48 t319.length co48)) (fun _ hk => hk.2) (.bool t322)) (fun _ h_ => h_.1))) hb); have n3_ := ak_ (Kd.R_below (by (with_reducible repeat (first | apply Kd.R_alloc | apply Kd.R_drewN | apply Kd.R_drew)); exact (Kd.R_mono (Kd.R_far (p := ⟨gb323, 1, none⟩) (Kd.R_far (p := ⟨gb323, 0, none⟩) (Kd.R_types HO321.out BK323.out (by decide)) (fun _ hk => hk.2) (.slice Ao48 t319.length co48)) (fun _ hk => hk.2) (.bool t322)) (fun _ h_ => h_.1))) hb); have n4_ := ak_ (Kd.N_lower (Kd.N_mono (ok' := fun k_ => some k_ ≠ (.slice (some ⟨go26, 0, none⟩) x4_2.length co15 : Value).ownBlock ∧ some k_ ≠ (.slice (some ⟨go28, 0, none⟩) x5_2.length co28 : Value).ownBlock ∧ some k_ ≠ (.slice (some ad318) x8_2.length co43 : Value).ownBlock ∧ some k_ ≠ (.slice Ao48 t319.length co48 : Value).ownBlock ∧ k_ ≠ gb300 ∧ k_ ≠ gb323) ho0 (fun k_ hk_ => ⟨(Kd.fresh' (Kd.R_lt (by (with_reducible repeat (first | apply Kd.R_alloc | apply Kd.R_drewN | apply Kd.R_drew)); exact (Kd.R_mono (Kd.R_far (p := ⟨gb323, 1, none⟩) (Kd.R_far (p := ⟨gb323, 0, none⟩) (Kd.R_types HO_4.out BK323.out (by decide)) (fun _ hk => hk.2) (.slice Ao48 t319.length co48)) (fun _ hk => hk.2) (.bool t322)) (fun _ h_ => h_.1)))) k_ hk_), (Kd.fresh' (Kd.R_lt (by (with_reducible repeat (first | apply Kd.R_alloc | apply Kd.R_drewN | apply Kd.R_drew)); exact (Kd.R_mono (Kd.R_far (p := ⟨gb323, 1, none⟩) (Kd.R_far (p := ⟨gb323, 0, none⟩) (Kd.R_types HO_5.out BK323.out (by decide)) (fun _ hk => hk.2) (.slice Ao48 t319.length co48)) (fun _ hk => hk.2) (.bool t322)) (fun _ h_ => h_.1)))) k_ hk_), (Kd.fresh' (Kd.R_lt (by (with_reducible repeat (first | apply Kd.R_alloc | apply Kd.R_drewN | apply Kd.R_drew)); exact (Kd.R_mono (Kd.R_far (p := ⟨gb323, 1, none⟩) (Kd.R_far (p := ⟨gb323, 0, none⟩) (Kd.R_types HO_8.out BK323.out (by decide)) (fun _ hk => hk.2) (.slice Ao48 t319.length co48)) (fun _ hk => hk.2) (.bool t322)) (fun _ h_ => h_.1)))) k_ hk_), (Kd.fresh' (Kd.R_lt (by (with_reducible repeat (first | apply Kd.R_alloc | apply Kd.R_drewN | apply Kd.R_drew)); exact (Kd.R_mono (Kd.R_far (p := ⟨gb323, 1, none⟩) (Kd.R_far (p := ⟨gb323, 0, none⟩) (Kd.R_types HO321.out BK323.out (by decide)) (fun _ hk => hk.2) (.slice Ao48 t319.length co48)) (fun _ hk => hk.2) (.bool t322)) (fun _ h_ => h_.1)))) k_ hk_), (Kd.freshB (g := gb300) (o := .cells #[.int .i64 a0_0, .slice A0_1 l0_1.length c0_1, .int .i64 a0_2] 52 (0, 0)) (by (with_reducible repeat (first | refine kN_ ?_ _ | refine k1_ ?_ | refine ka_ ?_ _)); refine blk_far ?_ NB300_323.out _; (with_reducible repeat (first | refine kN_ ?_ _ | refine k1_ ?_ | refine ka_ ?_ _)); refine blk_far ?_ NB300_323.out _; exact pk BK300.out) k_ hk_), (Kd.freshB (g := gb323) (o := .cells #[.slice Ao48 t319.length co48, .bool t322] 90 (0, 0)) (by (with_reducible repeat (first | refine kN_ ?_ _ | refine k1_ ?_ | refine ka_ ?_ _)); refine blk_put (cs := #[.slice Ao48 t319.length co48, .bool false]) ?_ 1 _ rfl; (with_reducible repeat (first | refine kN_ ?_ _ | refine k1_ ?_ | refine ka_ ?_ _)); refine blk_put (cs := #[.slice none 0 0, .bool false]) ?_ 0 _ rfl; exact pk BK323.out) k_ hk_)⟩)) (bz_ bl_)); have n5_ := ak_ (blk_below (g := gb300) (o := .cells #[.int .i64 a0_0, .slice A0_1 l0_1.length c0_1, .int .i64 a0_2] 52 (0, 0)) (by (with_reducible repeat (first | refine kN_ ?_ _ | refine k1_ ?_ | refine ka_ ?_ _)); refine blk_far ?_ NB300_323.out _; (with_reducible repeat (first | refine kN_ ?_ _ | refine k1_ ?_ | refine ka_ ?_ _)); refine blk_far ?_ NB300_323.out _; exact pk BK300.out) hb); have n6_ := ak_ (blk_below (g := gb323) (o := .cells #[.slice Ao48 t319.length co48, .bool t322] 90 (0, 0)) (by (with_reducible repeat (first | refine kN_ ?_ _ | refine k1_ ?_ | refine ka_ ?_ _)); refine blk_put (cs := #[.slice Ao48 t319.length co48, .bool false]) ?_ 1 _ rfl; (with_reducible repeat (first | refine kN_ ?_ _ | refine k1_ ?_ | refine ka_ ?_ _)); refine blk_put (cs := #[.slice none 0 0, .bool false]) ?_ 0 _ rfl; exact pk BK323.out) hb); have n7_ := ak_ (bs_ bl_ hb); clear HO_4; clear HO_5; clear HO_8; clear HO321; clear BK300; clear BK323; clear HB; have HO_4 := n0_; have HO_5 := n1_; have HO_8 := n2_; have HO321 := n3_; have HO326 := n4_; have BK300 := n5_; have BK323 := n6_; have HB := n7_; clear n0_ n1_ n2_ n3_ n4_ n5_ n6_ n7_; (try clear hb); (try clear hb2); (try clear hk); (try clear hi); (try clear ho0); obtain ⟨Ao55, co55, eo55⟩ := Kd.N_slice HO326.out; subst eo55))
              go_loopg [8, 59] k2 (fun kq v8 v59 w' => ∃ (x4_3 : List Int) (x5_3 : List Int) (x8_3 : List Int) (x59_3 : Int), v59 = .int .i64 x59_3 ∧ Aside0 (spec_keFar.l2 kq x4_3 x5_3 x8_3 x9_2 t324 (t324.length : Int) x59_3 a0_0 l0_1 a0_2 t319 t322 = some (r1, r2)) ∧ Aside0 (kq ≤ k2) ∧ Aside0 (Kd.R (Kd.int .i64) 3 w' w.heap.size (fun k_ => some k_ ≠ ((.slice (some ⟨go28, 0, none⟩) x5_2.length co28) : Value).ownBlock ∧ some k_ ≠ (v8 : Value).ownBlock) (.slice (some ⟨go26, 0, none⟩) x4_2.length co15) x4_3) ∧ Aside0 (Kd.R (Kd.int .i64) 3 w' w.heap.size (fun k_ => some k_ ≠ ((.slice (some ⟨go26, 0, none⟩) x4_2.length co15) : Value).ownBlock ∧ some k_ ≠ (v8 : Value).ownBlock) (.slice (some ⟨go28, 0, none⟩) x5_2.length co28) x5_3) ∧ Aside0 (Kd.R (Kd.int .i64) 3 w' w.heap.size (fun k_ => some k_ ≠ ((.slice (some ⟨go26, 0, none⟩) x4_2.length co15) : Value).ownBlock ∧ some k_ ≠ ((.slice (some ⟨go28, 0, none⟩) x5_2.length co28) : Value).ownBlock) v8 x8_3) ∧ Aside0 (Kd.N (Kd.slice 3 (Kd.int .i64)) 29 w' w.heap.size (fun k_ => some k_ ≠ ((.slice (some ⟨go26, 0, none⟩) x4_2.length co15) : Value).ownBlock ∧ some k_ ≠ ((.slice (some ⟨go28, 0, none⟩) x5_2.length co28) : Value).ownBlock ∧ some k_ ≠ (v8 : Value).ownBlock ∧ some k_ ≠ ((.slice Ao48 t319.length co48) : Value).ownBlock ∧ k_ ≠ gb300 ∧ k_ ≠ gb323) (.slice Ao55 t324.length co55) t324) ∧ Aside0 (Kd.R Kd.bool 4 w' w.heap.size (fun _ => True) (.slice Ao48 t319.length co48) t319) ∧ Aside0 (w'.heap[gb300]? = some (.cells #[.int .i64 a0_0, (.slice A0_1 l0_1.length c0_1), .int .i64 a0_2] 52 (0, 0))) ∧ Aside0 (w'.heap[gb323]? = some (.cells #[(.slice Ao48 t319.length co48), .bool t322] 90 (0, 0))) ∧ Aside0 (Below w.heap.size w w'))
              case atStart => exact ⟨(x4_2), (x5_2), (x8_2), (0), (ry_), H', ⟨Nat.le_refl _⟩, ⟨by (try simp only [hl4_1, hl4_2, hl5_2]); exact Kd.pR HO_4.out⟩, ⟨by (try simp only [hl4_1, hl4_2, hl5_2]); exact Kd.pR HO_5.out⟩, ⟨by (try simp only [hl4_1, hl4_2, hl5_2]); exact Kd.pR HO_8.out⟩, ⟨by (try simp only [hl4_1, hl4_2, hl5_2]); exact Kd.pN HO326.out⟩, ⟨by (try simp only [hl4_1, hl4_2, hl5_2]); exact Kd.pR HO321.out⟩, ⟨by (try simp only [hl4_1, hl4_2, hl5_2]); exact pk BK300.out⟩, ⟨by (try simp only [hl4_1, hl4_2, hl5_2]); exact pk BK323.out⟩, ⟨by repeat (first | exact HB.out | apply ba_ | apply bN_ | apply b1_ | refine below_set ?_ (Aside0.out (by assumption)))⟩⟩
              case round =>
               clear H'
               try clear c1
               try clear p1
               try clear q1
               try clear hx1
               try clear hf1
               try clear c2
               try clear c2b0
               try clear c2b1
               try clear p2
               try clear q2
               try clear hx2
               try clear hf2
               try clear c3
               try clear p3
               try clear q3
               try clear hx3
               try clear c4
               try clear c4b0
               try clear c4b1
               try clear c5
               try clear c5b0
               try clear c5b1
               try clear c6
               try clear c6b0
               try clear p6
               try clear c7
               try clear c7b0
               try clear c10
               try clear c16
               try clear c16b0
               try clear c17
               try clear c17b0
               try clear c18
               try clear c18b0
               try clear p19
               try clear q19
               try clear hx19
               try clear hf19
               try clear c24
               try clear c24b0
               try clear c25
               try clear c25b0
               try clear p26
               try clear q26
               try clear hx26
               try clear hf26
               try clear c27
               try clear c27b0
               try clear p28
               try clear q28
               try clear hx28
               try clear hf28
               try clear p31
               try clear q31
               try clear hx31
               try clear c39
               try clear c39b0
               try clear c40
               try clear c40b0
               try clear c51
               try clear hcz29_0
               try clear hcz29_1
               try clear hcz29_2
               try clear hcz52_0
               try clear hcz52_1
               try clear hcz52_2
               try clear hcz53_0
               try clear hcz53_1
               try clear hfz29_0
               try clear hfz29_1
               try clear hfz29_2
               try clear hfz52_0
               try clear hfz52_1
               try clear hfz52_2
               try clear hfz53_0
               try clear hfz53_1
               try clear hx19_0
               try clear hx26_0
               try clear hx28_0
               try clear hx318_0
               try clear p1
               try clear p19
               try clear p2
               try clear p26
               try clear p28
               try clear p318
               try clear p6
               try clear q1
               try clear q19
               try clear q2
               try clear q26
               try clear q28
               try clear q318
               obtain ⟨x4_3, x5_3, x8_3, x59_3, rfl, HA, HK3, HO_4, HO_5, HO_8, HO_57, HO_324000, BK300, BK323, HB⟩ := hrel
               have hl4_3 := (Kd.R_reads' HO_4.out).1
               rw [hl4_3] at HO_4
               (try simp only [hl4_3])
               (try simp only [hl4_3] at BK300)
               (try simp only [hl4_3] at BK323)
               (try simp only [hl4_3] at HO_5)
               (try simp only [hl4_3] at HO_8)
               (try simp only [hl4_3] at HO_57)
               (try simp only [hl4_3] at HO_324000)
               have hl5_3 := (Kd.R_reads' HO_5.out).1
               rw [hl5_3] at HO_5
               (try simp only [hl5_3])
               (try simp only [hl5_3] at BK300)
               (try simp only [hl5_3] at BK323)
               (try simp only [hl5_3] at HO_4)
               (try simp only [hl5_3] at HO_8)
               (try simp only [hl5_3] at HO_57)
               (try simp only [hl5_3] at HO_324000)
               cases gk with
               | zero => exact absurd HA.out (by simp [spec_keFar.l2])
               | succ k3 =>
                have H := HA.out
                clear HA
                simp only [spec_keFar.l2] at H
                by_cases c56 : x59_3 < (t324.length : Int)
                ·
                 rw [if_pos c56] at H
                 have c56b0 : decide (x59_3 < (t324.length : Int)) = true := decide_eq_true c56
                 clear c56
                 by_cases c57 : 0 ≤ x59_3
                 ·
                  rw [if_pos c57] at H
                  have c57b0 : decide (0 ≤ x59_3) = true := decide_eq_true c57
                  clear c57
                  by_cases c58 : x59_3 < (t324.length : Int)
                  ·
                   rw [if_pos c58] at H
                   have c58b0 : decide (x59_3 < (t324.length : Int)) = true := decide_eq_true c58
                   clear c58
                   replace H := Option.bind_eq_some_iff.mp H
                   obtain ⟨⟨t328, t331⟩, A590, H⟩ := H
                   replace H : ((spec_keIndex.f k3 t328 t331).bind fun t332 => (if 0 ≤ t332 then (if t332 < (x4_3.length : Int) then (if (rd x4_3 t332) < 0 then (if 0 ≤ x9_2 then (if x9_2 < (x8_3.length : Int) then (if 0 ≤ (rd x8_3 x9_2) then (if (rd x8_3 x9_2) < (x4_3.length : Int) then (if x8_3.length < 17592186044416 then (spec_keFar.j3 k3 (x4_3.set (t332 : Int).toNat (wrap64 ((rd x4_3 (rd x8_3 x9_2)) + 1))) x5_3 (x8_3 ++ [t332]) x9_2 t332 t324 (t324.length : Int) x59_3 a0_0 l0_1 a0_2 t319 t322) else (none)) else (none)) else (none)) else (none)) else (none)) else (spec_keFar.j3 k3 x4_3 x5_3 x8_3 x9_2 t332 t324 (t324.length : Int) x59_3 a0_0 l0_1 a0_2 t319 t322)) else (none)) else (none))) = some (r1, r2) := H
                   have A59 := ak_ A590
                   clear A590
                   replace H := Option.bind_eq_some_iff.mp H
                   obtain ⟨t332, A600, H⟩ := H
                   replace H : (if 0 ≤ t332 then (if t332 < (x4_3.length : Int) then (if (rd x4_3 t332) < 0 then (if 0 ≤ x9_2 then (if x9_2 < (x8_3.length : Int) then (if 0 ≤ (rd x8_3 x9_2) then (if (rd x8_3 x9_2) < (x4_3.length : Int) then (if x8_3.length < 17592186044416 then (spec_keFar.j3 k3 (x4_3.set (t332 : Int).toNat (wrap64 ((rd x4_3 (rd x8_3 x9_2)) + 1))) x5_3 (x8_3 ++ [t332]) x9_2 t332 t324 (t324.length : Int) x59_3 a0_0 l0_1 a0_2 t319 t322) else (none)) else (none)) else (none)) else (none)) else (none)) else (spec_keFar.j3 k3 x4_3 x5_3 x8_3 x9_2 t332 t324 (t324.length : Int) x59_3 a0_0 l0_1 a0_2 t319 t322)) else (none)) else (none)) = some (r1, r2) := H
                   have A60 := ak_ A600
                   clear A600
                   by_cases c61 : 0 ≤ t332
                   ·
                    rw [if_pos c61] at H
                    have c61b0 : decide (0 ≤ t332) = true := decide_eq_true c61
                    clear c61
                    by_cases c62 : t332 < (x4_3.length : Int)
                    ·
                     rw [if_pos c62] at H
                     have c62b0 : decide (t332 < (x4_3.length : Int)) = true := decide_eq_true c62
                     clear c62
                     have HC63 := ak_ H
                     clear H
                     have p327 : 0 ≤ (x59_3 : Int) := odt_ (by assumption)
                     have q327 : x59_3 < (t324.length : Int) := odt_ (by assumption)
                     obtain ⟨ad327, A327_0, c327_0, e327, hx327_0, hl327_0, hi327_0⟩ := at_L1 (Kd.N_reads' HO_57.out).2.2 x59_3 p327 q327
                     cases e327
                     obtain ⟨ce327, hce327, hMe327, hcc327⟩ := Kd.N_get HO_57.out [] x59_3 p327 (by first | exact q327 | exact odt_ (by assumption) | (have e_ := (Kd.N_reads' HO_57.out).1; omega))
                     obtain ⟨ua327_0, uc327_0, rfl, ul327_0, ge327_0⟩ := Kd.FK_slice_open hMe327
                     have hv327_0 := hcc327 0 _ rfl
                     rw [Nat.add_zero, show ((Kd.slice 3 (Kd.int .i64))).sz = 1 from rfl, Nat.mul_one] at hv327_0
                     replace hv327_0 := Option.some.inj (hv327_0.symm.trans hx327_0)
                     injection hv327_0 with hva_ hvn_ hvc_
                     rw [hva_] at ge327_0
                     rw [hvc_] at ul327_0
                     have HL327_0 := ak_ (show Kd.V (Kd.int .i64) 3 _ w.heap.size _ _ (rd_L1 t324 x59_3) from Kd.V_mk ul327_0 ge327_0)
                     clear hva_ hvn_ hvc_ ge327_0 ul327_0 hcc327 hce327
                     have HR327_0 := ak_ hi327_0
                     have HC327_0 := ak_ hl327_0
                     clear hi327_0 hl327_0
                     replace p327 := eq_true p327
                     replace q327 := eq_true q327
                     have hnb64 := NB323_300.out
                     have hnc64 := NB300_323.out
                     obtain ⟨hcz65_0, hcz65_1, hfz65_0, hfz65_1⟩ := c2_ BK323.out
                     go_upto_if 71 with (first | ((with_reducible refine gate_callee (f := 75) rfl ?_); refine goesL_ (some 65) rfl rfl Try.func75 (by kernel_rfl) rfl #[.agg #[.slice Ao48 t319.length co48, .bool t322], .slice A327_0 (rd_L1 t324 x59_3).length c327_0] rfl (by first | rfl | (simp only [map_toArray, map_cons, map_nil]; try rfl)) ?_; (with_reducible refine (spec_keRide.calls k3 _ _ t319 t322 _ _ (rd_L1 t324 x59_3) t328 t331 _ ?side1 ?side2 ?side3 ?side4 A59.out).mono ?_); (case side1 => exact cs_ ((Kd.R_reads' HO_324000.out).2.2)); (case side2 => exact (Kd.R_reads' HO_324000.out).2.1); (case side3 => repeat (first | exact (by repeat (first | (with_reducible exact HR327_0.out) | (with_reducible refine Kd.C_alloc ?_ _) | (with_reducible refine Kd.C_drewN ?_ _) | (with_reducible refine Kd.C_drew ?_) | exact HR327_0.out)) | (with_reducible refine Kd.C_alloc ?_ _) | (with_reducible refine Kd.C_drewN ?_ _) | (with_reducible refine Kd.C_drew ?_))); (case side4 => exact HC327_0.out); rintro e w66 ⟨v329, rfl, ho0, hb⟩; refine ⟨_, rfl, ?_⟩; have n0_ := ak_ (Kd.R_below (Kd.pR HO_4.out) hb); have n1_ := ak_ (Kd.R_below (Kd.pR HO_5.out) hb); have n2_ := ak_ (Kd.R_below (Kd.pR HO_8.out) hb); have n3_ := ak_ (Kd.N_elder' (Kd.pN HO_57.out) (Kd.R_base ho0) hb); have n4_ := ak_ (Kd.R_elder' (Kd.pR HO_324000.out) (Kd.R_base ho0) hb); have n5_ := ak_ (Kd.V_elder' (Kd.pV HL327_0.out) (Kd.R_base ho0) hb); have n6_ := ak_ (Kd.R_lower (Kd.R_new' ho0 (Kd.R_lt (Kd.pR HO_324000.out))) (bz_ bl_)); have n7_ := ak_ (blk_below (pk BK300.out) hb); have n8_ := ak_ (blk_below (pk BK323.out) hb); have n9_ := ak_ (Kd.C_below (by repeat (first | (with_reducible exact HR327_0.out) | (with_reducible refine Kd.C_alloc ?_ _) | (with_reducible refine Kd.C_drewN ?_ _) | (with_reducible refine Kd.C_drew ?_) | exact HR327_0.out)) hb); have n10_ := ak_ (bs_ bl_ hb); clear HO_4; clear HO_5; clear HO_8; clear HO_57; clear HO_324000; clear HL327_0; clear BK300; clear BK323; clear HR327_0; clear HB; have HO_4 := n0_; have HO_5 := n1_; have HO_8 := n2_; have HO_57 := n3_; have HO_324000 := n4_; have HL327_0 := n5_; have HO330 := n6_; have BK300 := n7_; have BK323 := n8_; have HR327_0 := n9_; have HB := n10_; clear n0_ n1_ n2_ n3_ n4_ n5_ n6_ n7_ n8_ n9_ n10_; (try clear hb); (try clear hb2); (try clear hk); (try clear hi); (try clear ho0); obtain ⟨Ao67, co67, eo67⟩ := Kd.R_slice HO330.out; subst eo67) | ((with_reducible refine gate_callee (f := 63) rfl ?_); refine goesL_ (some 66) rfl rfl Try.func63 (by kernel_rfl) rfl #[.agg #[.slice Ao67 t328.length co67, .bool t331]] rfl (by first | rfl | (simp only [map_toArray, map_cons, map_nil]; try rfl)) ?_; (with_reducible refine (spec_keIndex.calls k3 _ _ t328 t331 t332 _ ?side1 ?side2 A60.out).mono ?_); (case side1 => exact cs_ ((Kd.R_reads' HO330.out).2.2)); (case side2 => exact (Kd.R_reads' HO330.out).2.1); rintro e w68 ⟨rfl, hb⟩; refine ⟨_, rfl, ?_⟩; have n0_ := ak_ (Kd.R_below (Kd.pR HO_4.out) hb); have n1_ := ak_ (Kd.R_below (Kd.pR HO_5.out) hb); have n2_ := ak_ (Kd.R_below (Kd.pR HO_8.out) hb); have n3_ := ak_ (Kd.N_below (Kd.pN HO_57.out) hb); have n4_ := ak_ (Kd.R_below (Kd.pR HO_324000.out) hb); have n5_ := ak_ (Kd.V_below (Kd.pV HL327_0.out) hb); have n6_ := ak_ (Kd.R_below (Kd.pR HO330.out) hb); have n7_ := ak_ (blk_below (pk BK300.out) hb); have n8_ := ak_ (blk_below (pk BK323.out) hb); have n9_ := ak_ (Kd.C_below (by repeat (first | (with_reducible exact HR327_0.out) | (with_reducible refine Kd.C_alloc ?_ _) | (with_reducible refine Kd.C_drewN ?_ _) | (with_reducible refine Kd.C_drew ?_) | exact HR327_0.out)) hb); have n10_ := ak_ (bs_ bl_ hb); clear HO_4; clear HO_5; clear HO_8; clear HO_57; clear HO_324000; clear HL327_0; clear HO330; clear BK300; clear BK323; clear HR327_0; clear HB; have HO_4 := n0_; have HO_5 := n1_; have HO_8 := n2_; have HO_57 := n3_; have HO_324000 := n4_; have HL327_0 := n5_; have HO330 := n6_; have BK300 := n7_; have BK323 := n8_; have HR327_0 := n9_; have HB := n10_; clear n0_ n1_ n2_ n3_ n4_ n5_ n6_ n7_ n8_ n9_ n10_; (try clear hb); (try clear hb2); (try clear hk); (try clear hi); have p333 : 0 ≤ (t332 : Int) := odt_ (by assumption); have q333 : t332 < (x4_3.length : Int) := odt_ (by assumption); obtain ⟨ad333, e333, hx333_0⟩ := Kd.at_int (Kd.R_reads' HO_4.out).2.2 t332 p333 q333; obtain rfl : (⟨go26, 0, none⟩ : Addr) = ad333 := (by injection e333); (first | simp only [add_plain] at hx333_0 | simp only [add_at] at hx333_0 | simp only [Addr.add, Nat.zero_add] at hx333_0 | skip); replace p333 := eq_true p333; replace q333 := eq_true q333))
                     (try simp only [Act.put, setIfInBounds_toArray, set_cons_zero, set_cons_succ])
                     go_cut [8] (fun v8 wc => ∃ (kq : Nat) (x4_62 : List Int) (x8_62 : List Int), Aside0 (spec_keFar.j3 kq x4_62 x5_3 x8_62 x9_2 t332 t324 (t324.length : Int) x59_3 a0_0 l0_1 a0_2 t319 t322 = some (r1, r2)) ∧ Aside0 (kq ≤ k3) ∧ Aside0 (Kd.R (Kd.int .i64) 3 wc w.heap.size (fun k_ => some k_ ≠ ((.slice (some ⟨go28, 0, none⟩) x5_3.length co28) : Value).ownBlock ∧ some k_ ≠ (v8 : Value).ownBlock) (.slice (some ⟨go26, 0, none⟩) x4_3.length co15) x4_62) ∧ Aside0 (Kd.R (Kd.int .i64) 3 wc w.heap.size (fun k_ => some k_ ≠ ((.slice (some ⟨go26, 0, none⟩) x4_3.length co15) : Value).ownBlock ∧ some k_ ≠ (v8 : Value).ownBlock) (.slice (some ⟨go28, 0, none⟩) x5_3.length co28) x5_3) ∧ Aside0 (Kd.R (Kd.int .i64) 3 wc w.heap.size (fun k_ => some k_ ≠ ((.slice (some ⟨go26, 0, none⟩) x4_3.length co15) : Value).ownBlock ∧ some k_ ≠ ((.slice (some ⟨go28, 0, none⟩) x5_3.length co28) : Value).ownBlock) v8 x8_62) ∧ Aside0 (Kd.N (Kd.slice 3 (Kd.int .i64)) 29 wc w.heap.size (fun k_ => some k_ ≠ ((.slice (some ⟨go26, 0, none⟩) x4_3.length co15) : Value).ownBlock ∧ some k_ ≠ ((.slice (some ⟨go28, 0, none⟩) x5_3.length co28) : Value).ownBlock ∧ some k_ ≠ (v8 : Value).ownBlock ∧ some k_ ≠ ((.slice Ao48 t319.length co48) : Value).ownBlock ∧ k_ ≠ gb300 ∧ k_ ≠ gb323) (.slice (some ad327) t324.length co55) t324) ∧ Aside0 (Kd.R Kd.bool 4 wc w.heap.size (fun _ => True) (.slice Ao48 t319.length co48) t319) ∧ Aside0 (wc.heap[gb300]? = some (.cells #[.int .i64 a0_0, (.slice A0_1 l0_1.length c0_1), .int .i64 a0_2] 52 (0, 0))) ∧ Aside0 (wc.heap[gb323]? = some (.cells #[(.slice Ao48 t319.length co48), .bool t322] 90 (0, 0))) ∧ Aside0 (Below w.heap.size w wc))
                     case first =>
                      have H := HC63.out
                      clear HC63
                      by_cases c69 : (rd x4_3 t332) < 0
                      ·
                       rw [if_pos c69] at H
                       have c69b0 : decide ((rd x4_3 t332) < 0) = true := decide_eq_true c69
                       clear c69
                       (first | rw [c69b0] | (simp only [i64_w, i32_w]; rw [c69b0]) | rw [c69b1] | skip)
                       by_cases c70 : 0 ≤ x9_2
                       ·
                        rw [if_pos c70] at H
                        have c70b0 : decide (0 ≤ x9_2) = true := decide_eq_true c70
                        clear c70
                        by_cases c71 : x9_2 < (x8_3.length : Int)
                        ·
                         rw [if_pos c71] at H
                         have c71b0 : decide (x9_2 < (x8_3.length : Int)) = true := decide_eq_true c71
                         clear c71
                         by_cases c72 : 0 ≤ (rd x8_3 x9_2)
                         ·
                          rw [if_pos c72] at H
                          have c72b0 : decide (0 ≤ (rd x8_3 x9_2)) = true := decide_eq_true c72
                          clear c72
                          by_cases c73 : (rd x8_3 x9_2) < (x4_3.length : Int)
                          ·
                           rw [if_pos c73] at H
                           have c73b0 : decide ((rd x8_3 x9_2) < (x4_3.length : Int)) = true := decide_eq_true c73
                           clear c73
                           obtain ⟨y336, hy336⟩ : ∃ y_ : List Int, y_ = (x4_3.set (t332 : Int).toNat (wrap64 ((rd x4_3 (rd x8_3 x9_2)) + 1))) := ⟨_, rfl⟩
                           replace H : (if x8_3.length < 17592186044416 then (spec_keFar.j3 k3 y336 x5_3 (x8_3 ++ [t332]) x9_2 t332 t324 (t324.length : Int) x59_3 a0_0 l0_1 a0_2 t319 t322) else (none)) = some (r1, r2) := by first | (rw [hy336]; exact H) | exact H
                           have Ny336 := ak_ hy336
                           clear hy336
                           by_cases c75 : x8_3.length < 17592186044416
                           ·
                            rw [if_pos c75] at H
                            have LMc75 := ak_ c75
                            clear c75
                            obtain ⟨y337, hy337⟩ : ∃ y_ : List Int, y_ = (x8_3 ++ [t332]) := ⟨_, rfl⟩
                            replace H : (spec_keFar.j3 k3 y336 x5_3 y337 x9_2 t332 t324 (t324.length : Int) x59_3 a0_0 l0_1 a0_2 t319 t322) = some (r1, r2) := by first | (rw [hy337]; exact H) | exact H
                            have Ny337 := ak_ hy337
                            clear hy337
                            have H' := ak_ H
                            clear H
                            obtain ⟨Ao76, co76, eo76⟩ := Kd.R_slice HO_8.out
                            subst eo76
                            have p334 : 0 ≤ (x9_2 : Int) := odt_ (by assumption)
                            have q334 : x9_2 < (x8_3.length : Int) := odt_ (by assumption)
                            obtain ⟨ad334, e334, hx334_0⟩ := Kd.at_int (Kd.R_reads' HO_8.out).2.2 x9_2 p334 q334
                            cases e334
                            replace p334 := eq_true p334
                            replace q334 := eq_true q334
                            have p335 : 0 ≤ ((rd x8_3 x9_2) : Int) := odt_ (by assumption)
                            have q335 : (rd x8_3 x9_2) < (x4_3.length : Int) := odt_ (by assumption)
                            obtain ⟨ad335, e335, hx335_0⟩ := Kd.at_int (Kd.R_reads' HO_4.out).2.2 (rd x8_3 x9_2) p335 q335
                            obtain rfl : (⟨go26, 0, none⟩ : Addr) = ad335 := (by injection e335)
                            (first | simp only [add_plain] at hx335_0 | simp only [add_at] at hx335_0 | simp only [Addr.add, Nat.zero_add] at hx335_0 | skip)
                            replace p335 := eq_true p335
                            replace q335 := eq_true q335
                            have p74 : 0 ≤ (t332 : Int) := odt_ (by assumption)
                            have q74 : (t332 : Int) < ((x4_3.length : Int) : Int) := odt_ (by assumption)
                            obtain ⟨hx74_0, hf74_0⟩ := Kd.R_celln 0 HO_4.out (t332 : Int) p74 q74
                            replace p74 := eq_true p74
                            replace q74 := eq_true q74
                            have HP77 := Kd.R_putg HO_4.out (t332 : Int) (wrap64 ((rd x4_3 (rd x8_3 x9_2)) + 1))
                            go_wp2_with (first | ((with_reducible refine gate_store (t := 3) (p := 82) rfl ?_); refine store_event (t := 3) (p := 82) (v := ?vo_w78) (w1 := (w68.setCell ⟨go26, (t332 : Int).toNat, none⟩ (.int .i64 (wrap64 ((rd x4_3 (rd x8_3 x9_2)) + 1))))) ?hg ?ho ?hn ?hr ?_; (case ho => rfl); (case hg => rfl); (case hn => rfl); (case hr => go_simp <;> rfl); intro w78 hw; have hg : w68.grownBy w78 (some go26) := (by rw [hw]; exact HP77.2); have hp_ : Kd.R (Kd.int .i64) 3 w78 w.heap.size (fun k_ => some k_ ≠ (.slice (some ⟨go28, 0, none⟩) x5_3.length co28 : Value).ownBlock ∧ some k_ ≠ (.slice (some ad334) x8_3.length co76 : Value).ownBlock) (.slice (some ⟨go26, 0, none⟩) x4_3.length co15) y336 := (by rw [hw, Ny336.out]; exact HP77.1); clear HP77; have n0_ := ak_ (hp_); have n1_ := ak_ (Kd.R_after (v := (.slice (some ⟨go26, 0, none⟩) x4_3.length co15)) (v1 := (.slice (some ⟨go26, 0, none⟩) x4_3.length co15)) (ok := (fun k_ => some k_ ≠ (.slice (some ad334) x8_3.length co76 : Value).ownBlock)) (by (with_reducible repeat (first | apply Kd.R_alloc | apply Kd.R_drewN | apply Kd.R_drew)); exact Kd.R_mono HO_5.out (fun _ hk => ⟨hk.2, hk.1⟩)) hg (.inl rfl)); have n2_ := ak_ (Kd.R_after (v := (.slice (some ⟨go26, 0, none⟩) x4_3.length co15)) (v1 := (.slice (some ⟨go26, 0, none⟩) x4_3.length co15)) (ok := (fun k_ => some k_ ≠ (.slice (some ⟨go28, 0, none⟩) x5_3.length co28 : Value).ownBlock)) (by (with_reducible repeat (first | apply Kd.R_alloc | apply Kd.R_drewN | apply Kd.R_drew)); exact Kd.R_mono HO_8.out (fun _ hk => ⟨hk.2, hk.1⟩)) hg (.inl rfl)); have n3_ := ak_ (Kd.N_afterv (v := (.slice (some ⟨go26, 0, none⟩) x4_3.length co15)) (v1 := (.slice (some ⟨go26, 0, none⟩) x4_3.length co15)) (ok := (fun k_ => some k_ ≠ (.slice (some ⟨go28, 0, none⟩) x5_3.length co28 : Value).ownBlock ∧ some k_ ≠ (.slice (some ad334) x8_3.length co76 : Value).ownBlock ∧ some k_ ≠ (.slice Ao48 t319.length co48 : Value).ownBlock ∧ some k_ ≠ (.slice Ao67 t328.length co67 : Value).ownBlock ∧ k_ ≠ gb300 ∧ k_ ≠ gb323)) (by (with_reducible repeat (first | apply Kd.N_alloc | apply Kd.N_drewN | apply Kd.N_drew)); exact Kd.N_mono HO_57.out (fun _ hk => ⟨⟨hk.1.2.1, ⟨hk.1.2.2.1, ⟨hk.1.2.2.2.1, ⟨hk.2, ⟨hk.1.2.2.2.2.1, hk.1.2.2.2.2.2⟩⟩⟩⟩⟩, hk.1.1⟩)) hg (.inl rfl)); have n4_ := ak_ (Kd.R_over' (v := (.slice (some ⟨go26, 0, none⟩) x4_3.length co15)) (Kd.pR HO_324000.out) (Kd.R_typed HO_4.out) (by decide) hg); have n5_ := ak_ (blk_grown (pk BK300.out) hg (Kd.R_ne HO_4.out BK300.out (by decide))); have n6_ := ak_ (blk_grown (pk BK323.out) hg (Kd.R_ne HO_4.out BK323.out (by decide))); have n7_ := ak_ (Kd.V_afterv (v := (.slice (some ⟨go26, 0, none⟩) x4_3.length co15)) (v1 := (.slice (some ⟨go26, 0, none⟩) x4_3.length co15)) (ok := (fun k_ => some k_ ≠ (.slice (some ⟨go28, 0, none⟩) x5_3.length co28 : Value).ownBlock ∧ some k_ ≠ (.slice (some ad334) x8_3.length co76 : Value).ownBlock ∧ some k_ ≠ (.slice (some ad327) t324.length co55 : Value).ownBlock ∧ some k_ ≠ (.slice Ao48 t319.length co48 : Value).ownBlock ∧ some k_ ≠ (.slice Ao67 t328.length co67 : Value).ownBlock ∧ k_ ≠ gb300 ∧ k_ ≠ gb323)) (by (with_reducible repeat (first | apply Kd.V_alloc | apply Kd.V_drewN | apply Kd.V_drew)); exact Kd.V_mono HL327_0.out (fun _ hk => ⟨⟨hk.1.1.2.1, ⟨hk.1.1.2.2.1, ⟨hk.1.2, ⟨hk.1.1.2.2.2.1, ⟨hk.2, ⟨hk.1.1.2.2.2.2.1, hk.1.1.2.2.2.2.2⟩⟩⟩⟩⟩⟩, hk.1.1.1⟩)) hg (.inl rfl)); have n8_ := ak_ (Kd.R_over' (v := (.slice (some ⟨go26, 0, none⟩) x4_3.length co15)) (Kd.pR HO330.out) (Kd.R_typed HO_4.out) (by decide) hg); have n9_ := ak_ ((by rw [hw]; exact below_set (HB.out) GB26.out : Below w.heap.size w w78)); clear HO_4; clear HO_5; clear HO_8; clear HO_57; clear HO_324000; clear BK300; clear BK323; clear HL327_0; clear HO330; clear HB; have HO_4 := n0_; have HO_5 := n1_; have HO_8 := n2_; have HO_57 := n3_; have HO_324000 := n4_; have BK300 := n5_; have BK323 := n6_; have HL327_0 := n7_; have HO330 := n8_; have HB := n9_; clear n0_ n1_ n2_ n3_ n4_ n5_ n6_ n7_ n8_ n9_; clear hg hw hp_) | ((with_reducible refine gate_builtin (b := .append) (xs := #[.tmp 83, .tmp 85]) rfl ?_); at_builtin; refine Kd.R_append (Kd.int .i64) (w0 := w) w.heap.size rfl (.tmp 83) (.tmp 85) 29 3 (.int .i64 0) 8 rfl Try.underlying29 info3 rfl (by decide) (by omega) (.slice (some ad334) x8_3.length co76) x8_3 t332 [.int .i64 t332] (fun k_ => some k_ ≠ (.slice (some ⟨go26, 0, none⟩) x4_3.length co15 : Value).ownBlock ∧ some k_ ≠ (.slice (some ⟨go28, 0, none⟩) x5_3.length co28 : Value).ownBlock) (fun _ => False) rfl rfl ?aP (fun _ hk => hk.elim) ?aF ?aO ?aB ?aS ?aL ?_; (case aP => exact rfl); (case aB => exact bl_); (case aF => exact (fun k_ hk => ⟨Kd.fresh' (Kd.R_lt (Kd.pR HO_4.out)) k_ hk, Kd.fresh' (Kd.R_lt (Kd.pR HO_5.out)) k_ hk⟩)); (case aO => exact (by (with_reducible repeat (first | apply Kd.R_alloc | apply Kd.R_drewN | apply Kd.R_drew)); exact Kd.R_mono HO_8.out (fun _ hk => ⟨hk.2, hk.1⟩))); (case aS => exact (bz_ bl_)); (case aL => have := LMc75.out; omega); intro v338 w79 ho hb hg hat; rw [← Ny337.out] at ho; have n0_ := ak_ (Kd.R_after (ok := (fun k_ => some k_ ≠ (.slice (some ⟨go28, 0, none⟩) x5_3.length co28 : Value).ownBlock)) (Kd.pR HO_4.out) hg hat); have n1_ := ak_ (Kd.R_after (ok := (fun k_ => some k_ ≠ (.slice (some ⟨go26, 0, none⟩) x4_3.length co15 : Value).ownBlock)) (by (with_reducible repeat (first | apply Kd.R_alloc | apply Kd.R_drewN | apply Kd.R_drew)); exact Kd.R_mono HO_5.out (fun _ hk => ⟨hk.2, hk.1⟩)) hg hat); have n2_ := ak_ (Kd.N_afterv (ok := (fun k_ => some k_ ≠ (.slice (some ⟨go26, 0, none⟩) x4_3.length co15 : Value).ownBlock ∧ some k_ ≠ (.slice (some ⟨go28, 0, none⟩) x5_3.length co28 : Value).ownBlock ∧ some k_ ≠ (.slice Ao48 t319.length co48 : Value).ownBlock ∧ some k_ ≠ (.slice Ao67 t328.length co67 : Value).ownBlock ∧ k_ ≠ gb300 ∧ k_ ≠ gb323)) (by (with_reducible repeat (first | apply Kd.N_alloc | apply Kd.N_drewN | apply Kd.N_drew)); exact Kd.N_mono HO_57.out (fun _ hk => ⟨⟨hk.2, ⟨hk.1.1, ⟨hk.1.2.2.1, ⟨hk.1.2.2.2.1, ⟨hk.1.2.2.2.2.1, hk.1.2.2.2.2.2⟩⟩⟩⟩⟩, hk.1.2.1⟩)) hg hat); have n3_ := ak_ (Kd.R_over' (Kd.pR HO_324000.out) (Kd.R_typed (Kd.pR HO_8.out)) (by decide) hg); have n4_ := ak_ (blk_grown (pk BK300.out) hg (Kd.R_ne HO_8.out BK300.out (by decide))); have n5_ := ak_ (blk_grown (pk BK323.out) hg (Kd.R_ne HO_8.out BK323.out (by decide))); have n6_ := ak_ (Kd.V_afterv (ok := (fun k_ => some k_ ≠ (.slice (some ⟨go26, 0, none⟩) x4_3.length co15 : Value).ownBlock ∧ some k_ ≠ (.slice (some ⟨go28, 0, none⟩) x5_3.length co28 : Value).ownBlock ∧ some k_ ≠ (.slice (some ad327) t324.length co55 : Value).ownBlock ∧ some k_ ≠ (.slice Ao48 t319.length co48 : Value).ownBlock ∧ some k_ ≠ (.slice Ao67 t328.length co67 : Value).ownBlock ∧ k_ ≠ gb300 ∧ k_ ≠ gb323)) (by (with_reducible repeat (first | apply Kd.V_alloc | apply Kd.V_drewN | apply Kd.V_drew)); exact Kd.V_mono HL327_0.out (fun _ hk => ⟨⟨hk.2, ⟨hk.1.1, ⟨hk.1.2.2.1, ⟨hk.1.2.2.2.1, ⟨hk.1.2.2.2.2.1, ⟨hk.1.2.2.2.2.2.1, hk.1.2.2.2.2.2.2⟩⟩⟩⟩⟩⟩, hk.1.2.1⟩)) hg hat); have n7_ := ak_ (Kd.R_over' (Kd.pR HO330.out) (Kd.R_typed (Kd.pR HO_8.out)) (by decide) hg); have n8_ := ak_ (hb); have n9_ := ak_ (ho); clear HO_4; clear HO_5; clear HO_57; clear HO_324000; clear BK300; clear BK323; clear HL327_0; clear HO330; clear HB; clear HO_8; have HO_4 := n0_; have HO_5 := n1_; have HO_57 := n2_; have HO_324000 := n3_; have BK300 := n4_; have BK323 := n5_; have HL327_0 := n6_; have HO330 := n7_; have HB := n8_; have HO339 := n9_; clear n0_ n1_ n2_ n3_ n4_ n5_ n6_ n7_ n8_ n9_; clear ho hb hg hat))
                            go_meet
                            case rel => exact ⟨_, (y336), (y337), H', ⟨by have := HK1.out; have := HK2.out; have := HK3.out; first | omega | exact Nat.le_refl _⟩, ⟨by (try simp only [hl4_1, hl4_2, hl5_2, hl4_3, hl5_3]); exact Kd.pR HO_4.out⟩, ⟨by (try simp only [hl4_1, hl4_2, hl5_2, hl4_3, hl5_3]); exact Kd.pR HO_5.out⟩, ⟨by (try simp only [hl4_1, hl4_2, hl5_2, hl4_3, hl5_3]); exact Kd.pR HO339.out⟩, ⟨by (try simp only [hl4_1, hl4_2, hl5_2, hl4_3, hl5_3]); (with_reducible repeat (first | apply Kd.N_alloc | apply Kd.N_drewN | apply Kd.N_drew)); exact Kd.N_mono HO_57.out (fun _ hk => ⟨hk.1.1, ⟨hk.1.2.1, ⟨hk.2, ⟨hk.1.2.2.1, ⟨hk.1.2.2.2.2.1, hk.1.2.2.2.2.2⟩⟩⟩⟩⟩)⟩, ⟨by (try simp only [hl4_1, hl4_2, hl5_2, hl4_3, hl5_3]); (with_reducible repeat (first | apply Kd.R_alloc | apply Kd.R_drewN | apply Kd.R_drew)); exact Kd.R_mono HO_324000.out (fun _ hk => trivial)⟩, ⟨by (try simp only [hl4_1, hl4_2, hl5_2, hl4_3, hl5_3]); exact pk BK300.out⟩, ⟨by (try simp only [hl4_1, hl4_2, hl5_2, hl4_3, hl5_3]); exact pk BK323.out⟩, ⟨by repeat (first | exact HB.out | apply ba_ | apply bN_ | apply b1_ | refine below_set ?_ (Aside0.out (by assumption)))⟩⟩
                           ·
                            rw [if_neg c75] at H
                            exact absurd H (by simp)
                          ·
                           rw [if_neg c73] at H
                           exact absurd H (by simp)
                         ·
                          rw [if_neg c72] at H
                          exact absurd H (by simp)
                        ·
                         rw [if_neg c71] at H
                         exact absurd H (by simp)
                       ·
                        rw [if_neg c70] at H
                        exact absurd H (by simp)
                      ·
                       rw [if_neg c69] at H
                       have c69b0 : decide ((rd x4_3 t332) < 0) = false := decide_eq_false c69
                       clear c69
                       (first | rw [c69b0] | (simp only [i64_w, i32_w]; rw [c69b0]) | rw [c69b1] | skip)
                       have H' := ak_ H
                       clear H
                       go_wp2
                       go_meet
                       case rel => exact ⟨_, (x4_3), (x8_3), H', ⟨by have := HK1.out; have := HK2.out; have := HK3.out; first | omega | exact Nat.le_refl _⟩, ⟨by (try simp only [hl4_1, hl4_2, hl5_2, hl4_3, hl5_3]); exact Kd.pR HO_4.out⟩, ⟨by (try simp only [hl4_1, hl4_2, hl5_2, hl4_3, hl5_3]); exact Kd.pR HO_5.out⟩, ⟨by (try simp only [hl4_1, hl4_2, hl5_2, hl4_3, hl5_3]); exact Kd.pR HO_8.out⟩, ⟨by (try simp only [hl4_1, hl4_2, hl5_2, hl4_3, hl5_3]); (with_reducible repeat (first | apply Kd.N_alloc | apply Kd.N_drewN | apply Kd.N_drew)); exact Kd.N_mono HO_57.out (fun _ hk => ⟨hk.1.1, ⟨hk.1.2.1, ⟨hk.1.2.2.1, ⟨hk.1.2.2.2.1, ⟨hk.1.2.2.2.2.1, hk.1.2.2.2.2.2⟩⟩⟩⟩⟩)⟩, ⟨by (try simp only [hl4_1, hl4_2, hl5_2, hl4_3, hl5_3]); (with_reducible repeat (first | apply Kd.R_alloc | apply Kd.R_drewN | apply Kd.R_drew)); exact Kd.R_mono HO_324000.out (fun _ hk => trivial)⟩, ⟨by (try simp only [hl4_1, hl4_2, hl5_2, hl4_3, hl5_3]); exact pk BK300.out⟩, ⟨by (try simp only [hl4_1, hl4_2, hl5_2, hl4_3, hl5_3]); exact pk BK323.out⟩, ⟨by repeat (first | exact HB.out | apply ba_ | apply bN_ | apply b1_ | refine below_set ?_ (Aside0.out (by assumption)))⟩⟩
                     case rest =>
                      clear HC63
                      try clear c1
                      try clear p1
                      try clear q1
                      try clear hx1
                      try clear hf1
                      try clear c2
                      try clear c2b0
                      try clear c2b1
                      try clear p2
                      try clear q2
                      try clear hx2
                      try clear hf2
                      try clear c3
                      try clear p3
                      try clear q3
                      try clear hx3
                      try clear c4
                      try clear c4b0
                      try clear c4b1
                      try clear c5
                      try clear c5b0
                      try clear c5b1
                      try clear c6
                      try clear c6b0
                      try clear p6
                      try clear c7
                      try clear c7b0
                      try clear p7
                      try clear q7
                      try clear hx7
                      try clear hf7
                      try clear c10
                      try clear c16
                      try clear c16b0
                      try clear c17
                      try clear c17b0
                      try clear c18
                      try clear c18b0
                      try clear p19
                      try clear q19
                      try clear hx19
                      try clear hf19
                      try clear c24
                      try clear c24b0
                      try clear c25
                      try clear c25b0
                      try clear p26
                      try clear q26
                      try clear hx26
                      try clear hf26
                      try clear c27
                      try clear c27b0
                      try clear p28
                      try clear q28
                      try clear hx28
                      try clear hf28
                      try clear p31
                      try clear q31
                      try clear hx31
                      try clear c32
                      try clear p32
                      try clear q32
                      try clear hx32
                      try clear p33
                      try clear q33
                      try clear hx33
                      try clear c39
                      try clear c39b0
                      try clear c40
                      try clear c40b0
                      try clear c51
                      try clear c56
                      try clear c56b0
                      try clear c57
                      try clear c57b0
                      try clear c58
                      try clear c58b0
                      try clear c61
                      try clear c61b0
                      try clear c62
                      try clear c62b0
                      try clear c63
                      try clear c64
                      try clear p64
                      try clear c69
                      try clear c69b0
                      try clear c70
                      try clear c70b0
                      try clear c71
                      try clear c71b0
                      try clear c72
                      try clear c72b0
                      try clear c73
                      try clear c73b0
                      try clear c74
                      try clear p74
                      try clear q74
                      try clear hx74
                      try clear hf74
                      try clear c75
                      try clear hcz29_0
                      try clear hcz29_1
                      try clear hcz29_2
                      try clear hcz52_0
                      try clear hcz52_1
                      try clear hcz52_2
                      try clear hcz53_0
                      try clear hcz53_1
                      try clear hcz65_0
                      try clear hcz65_1
                      try clear hfz29_0
                      try clear hfz29_1
                      try clear hfz29_2
                      try clear hfz52_0
                      try clear hfz52_1
                      try clear hfz52_2
                      try clear hfz53_0
                      try clear hfz53_1
                      try clear hfz65_0
                      try clear hfz65_1
                      try clear hx19_0
                      try clear hx26_0
                      try clear hx28_0
                      try clear hx318_0
                      try clear hx327_0
                      try clear hx333_0
                      try clear hx334_0
                      try clear hx335_0
                      try clear hx74_0
                      try clear p1
                      try clear p19
                      try clear p2
                      try clear p26
                      try clear p28
                      try clear p3
                      try clear p31
                      try clear p318
                      try clear p327
                      try clear p333
                      try clear p334
                      try clear p335
                      try clear p6
                      try clear p74
                      try clear q1
                      try clear q19
                      try clear q2
                      try clear q26
                      try clear q28
                      try clear q3
                      try clear q31
                      try clear q318
                      try clear q327
                      try clear q333
                      try clear q334
                      try clear q335
                      try clear q74
                      obtain ⟨kq, x4_62, x8_62, HA, HJ62, HO_4, HO_5, HO_8, HO_57, HO_324000, BK300, BK323, HB⟩ := hcut
                      have hl4_62 := (Kd.R_reads' HO_4.out).1
                      rw [hl4_62] at HO_4
                      (try simp only [hl4_62])
                      (try simp only [hl4_62] at BK300)
                      (try simp only [hl4_62] at BK323)
                      (try simp only [hl4_62] at HO_5)
                      (try simp only [hl4_62] at HO_8)
                      (try simp only [hl4_62] at HO_57)
                      (try simp only [hl4_62] at HO_324000)
                      cases kq with
                      | zero => exact absurd HA.out (by simp [spec_keFar.j3])
                      | succ kj62 =>
                       have H := HA.out
                       clear HA
                       simp only [spec_keFar.j3] at H
                       by_cases c80 : 0 ≤ t332
                       ·
                        rw [if_pos c80] at H
                        have c80b0 : decide (0 ≤ t332) = true := decide_eq_true c80
                        clear c80
                        by_cases c81 : t332 < (x4_62.length : Int)
                        ·
                         rw [if_pos c81] at H
                         have c81b0 : decide (t332 < (x4_62.length : Int)) = true := decide_eq_true c81
                         clear c81
                         by_cases c82 : 0 ≤ x9_2
                         ·
                          rw [if_pos c82] at H
                          have c82b0 : decide (0 ≤ x9_2) = true := decide_eq_true c82
                          clear c82
                          by_cases c83 : x9_2 < (x8_62.length : Int)
                          ·
                           rw [if_pos c83] at H
                           have c83b0 : decide (x9_2 < (x8_62.length : Int)) = true := decide_eq_true c83
                           clear c83
                           by_cases c84 : 0 ≤ (rd x8_62 x9_2)
                           ·
                            rw [if_pos c84] at H
                            have c84b0 : decide (0 ≤ (rd x8_62 x9_2)) = true := decide_eq_true c84
                            clear c84
                            by_cases c85 : (rd x8_62 x9_2) < (x4_62.length : Int)
                            ·
                             rw [if_pos c85] at H
                             have c85b0 : decide ((rd x8_62 x9_2) < (x4_62.length : Int)) = true := decide_eq_true c85
                             clear c85
                             by_cases c86 : (rd x4_62 t332) = (wrap64 ((rd x4_62 (rd x8_62 x9_2)) + 1))
                             ·
                              rw [if_pos c86] at H
                              have c86b0 : ((rd x4_62 t332) == (wrap64 ((rd x4_62 (rd x8_62 x9_2)) + 1))) = true := beq_iff_eq.mpr c86
                              have c86b1 : ((rd x4_62 t332) != (wrap64 ((rd x4_62 (rd x8_62 x9_2)) + 1))) = false := bne_eq_false_iff_eq.mpr c86
                              clear c86
                              by_cases c87 : t332 < (x5_3.length : Int)
                              ·
                               rw [if_pos c87] at H
                               have c87b0 : decide (t332 < (x5_3.length : Int)) = true := decide_eq_true c87
                               clear c87
                               by_cases c88 : (rd x8_62 x9_2) < (x5_3.length : Int)
                               ·
                                rw [if_pos c88] at H
                                have c88b0 : decide ((rd x8_62 x9_2) < (x5_3.length : Int)) = true := decide_eq_true c88
                                clear c88
                                obtain ⟨y346, hy346⟩ : ∃ y_ : List Int, y_ = (x5_3.set (t332 : Int).toNat (wrap64 ((rd x5_3 t332) + (rd x5_3 (rd x8_62 x9_2))))) := ⟨_, rfl⟩
                                replace H : (spec_keFar.l2 kj62 x4_62 y346 x8_62 x9_2 t324 (t324.length : Int) (wrap64 (x59_3 + 1)) a0_0 l0_1 a0_2 t319 t322) = some (r1, r2) := by first | (rw [hy346]; exact H) | exact H
                                have Ny346 := ak_ hy346
                                clear hy346
                                have H' := ak_ H
                                clear H
                                try go_wp2
                                have n0_ := ak_ (Kd.R_drew HO_4.out)
                                have n1_ := ak_ (Kd.R_drew HO_5.out)
                                have n2_ := ak_ (Kd.R_drew HO_8.out)
                                have n3_ := ak_ (Kd.N_drew HO_57.out)
                                have n4_ := ak_ (Kd.R_drew HO_324000.out)
                                have n5_ := ak_ (k1_ BK300.out)
                                have n6_ := ak_ (k1_ BK323.out)
                                have n7_ := ak_ (b1_ HB.out)
                                clear HO_4 HO_5 HO_8 HO_57 HO_324000 BK300 BK323 HB
                                have HO_4 := n0_; have HO_5 := n1_; have HO_8 := n2_; have HO_57 := n3_; have HO_324000 := n4_; have BK300 := n5_; have BK323 := n6_; have HB := n7_
                                clear n0_ n1_ n2_ n3_ n4_ n5_ n6_ n7_
                                have p340 : 0 ≤ (t332 : Int) := odt_ (by assumption)
                                have q340 : t332 < (x4_62.length : Int) := odt_ (by assumption)
                                obtain ⟨ad340, e340, hx340_0⟩ := Kd.at_int (Kd.R_reads' HO_4.out).2.2 t332 p340 q340
                                obtain rfl : (⟨go26, 0, none⟩ : Addr) = ad340 := (by injection e340)
                                (first | simp only [add_plain] at hx340_0 | simp only [add_at] at hx340_0 | simp only [Addr.add, Nat.zero_add] at hx340_0 | skip)
                                replace p340 := eq_true p340
                                replace q340 := eq_true q340
                                obtain ⟨Ao91, co91, eo91⟩ := Kd.R_slice HO_8.out
                                (first | subst eo91 | (injection eo91 with f1_ f2_ f3_; have f4_ := f1_.symm; have f5_ := f3_.symm; clear f1_ f2_ f3_; subst f4_; subst f5_))
                                have p341 : 0 ≤ (x9_2 : Int) := odt_ (by assumption)
                                have q341 : x9_2 < (x8_62.length : Int) := odt_ (by assumption)
                                obtain ⟨ad341, e341, hx341_0⟩ := Kd.at_int (Kd.R_reads' HO_8.out).2.2 x9_2 p341 q341
                                cases e341
                                replace p341 := eq_true p341
                                replace q341 := eq_true q341
                                have p342 : 0 ≤ ((rd x8_62 x9_2) : Int) := odt_ (by assumption)
                                have q342 : (rd x8_62 x9_2) < (x4_62.length : Int) := odt_ (by assumption)
                                obtain ⟨ad342, e342, hx342_0⟩ := Kd.at_int (Kd.R_reads' HO_4.out).2.2 (rd x8_62 x9_2) p342 q342
                                obtain rfl : (⟨go26, 0, none⟩ : Addr) = ad342 := (by injection e342)
                                (first | simp only [add_plain] at hx342_0 | simp only [add_at] at hx342_0 | simp only [Addr.add, Nat.zero_add] at hx342_0 | skip)
                                replace p342 := eq_true p342
                                replace q342 := eq_true q342
                                refine start_ (n := 13) (S := fun w' => w'.cell? ⟨go26, (t332).toNat, none⟩ = some (.int .i64 (rd x4_62 t332)) ∧ w'.cell? (ad341.add (x9_2).toNat) = some (.int .i64 (rd x8_62 x9_2)) ∧ w'.cell? ⟨go26, ((rd x8_62 x9_2)).toNat, none⟩ = some (.int .i64 (rd x4_62 (rd x8_62 x9_2)))) (ds := []) (mb_ 13 0) (by kernel_rfl) rfl rfl ⟨hx340_0, hx341_0, hx342_0⟩ (fun hHeld => ?_); refine with_tabW spec_keFar.tab22 spec_keFar.bits22 (fun HT_ HW_ => ?_)
                                generalize wc.drew = w90 at HO_4 HO_5 HO_8 HO_57 HO_324000 BK300 BK323 HB hx340_0 hx341_0 hx342_0 hHeld ⊢
                                refine pu_ 0 87 13 1 ?_
                                refine pu_ 1 88 13 3 ?_
                                refine pu_ 2 89 13 7 ?_
                                refine pu_ 4 91 13 23 ?_
                                refine pu_ 5 92 13 55 ?_
                                refine pu_ 6 93 13 119 ?_
                                refine pu_ 7 94 13 247 ?_
                                refine tk_ 3 90 13 255 ?_ (hy := by rintro w' ⟨s0, s1, s2⟩; go_simp; with_reducible rfl)
                                refine tk_ 8 95 13 511 ?_ (hy := by rintro w' ⟨s0, s1, s2⟩; go_simp; with_reducible rfl)
                                refine pu_ 9 96 13 1023 ?_
                                refine tk_ 10 97 13 2047 ?_ (hy := by rintro w' ⟨s0, s1, s2⟩; go_simp; with_reducible rfl)
                                refine pu_ 11 98 13 4095 ?_
                                refine pu_ 12 99 13 8191 ?_
                                refine done_ (done_of HT_.out (by kernel_rfl)) ?_
                                try go_wp2
                                have n0_ := ak_ (Kd.R_drew HO_4.out)
                                have n1_ := ak_ (Kd.R_drew HO_5.out)
                                have n2_ := ak_ (Kd.R_drew HO_8.out)
                                have n3_ := ak_ (Kd.N_drew HO_57.out)
                                have n4_ := ak_ (Kd.R_drew HO_324000.out)
                                have n5_ := ak_ (k1_ BK300.out)
                                have n6_ := ak_ (k1_ BK323.out)
                                have n7_ := ak_ (b1_ HB.out)
                                clear HO_4 HO_5 HO_8 HO_57 HO_324000 BK300 BK323 HB
                                have HO_4 := n0_; have HO_5 := n1_; have HO_8 := n2_; have HO_57 := n3_; have HO_324000 := n4_; have BK300 := n5_; have BK323 := n6_; have HB := n7_
                                clear n0_ n1_ n2_ n3_ n4_ n5_ n6_ n7_
                                have p343 : 0 ≤ (t332 : Int) := odt_ (by assumption)
                                have q343 : t332 < (x5_3.length : Int) := odt_ (by assumption)
                                obtain ⟨ad343, e343, hx343_0⟩ := Kd.at_int (Kd.R_reads' HO_5.out).2.2 t332 p343 q343
                                obtain rfl : (⟨go28, 0, none⟩ : Addr) = ad343 := (by injection e343)
                                (first | simp only [add_plain] at hx343_0 | simp only [add_at] at hx343_0 | simp only [Addr.add, Nat.zero_add] at hx343_0 | skip)
                                replace p343 := eq_true p343
                                replace q343 := eq_true q343
                                have p344 : 0 ≤ (x9_2 : Int) := odt_ (by assumption)
                                have q344 : x9_2 < (x8_62.length : Int) := odt_ (by assumption)
                                obtain ⟨ad344, e344, hx344_0⟩ := Kd.at_int (Kd.R_reads' HO_8.out).2.2 x9_2 p344 q344
                                obtain rfl : ad341 = ad344 := (by injection e344)
                                replace p344 := eq_true p344
                                replace q344 := eq_true q344
                                have p345 : 0 ≤ ((rd x8_62 x9_2) : Int) := odt_ (by assumption)
                                have q345 : (rd x8_62 x9_2) < (x5_3.length : Int) := odt_ (by assumption)
                                obtain ⟨ad345, e345, hx345_0⟩ := Kd.at_int (Kd.R_reads' HO_5.out).2.2 (rd x8_62 x9_2) p345 q345
                                obtain rfl : (⟨go28, 0, none⟩ : Addr) = ad345 := (by injection e345)
                                (first | simp only [add_plain] at hx345_0 | simp only [add_at] at hx345_0 | simp only [Addr.add, Nat.zero_add] at hx345_0 | skip)
                                replace p345 := eq_true p345
                                replace q345 := eq_true q345
                                have p89 : 0 ≤ (t332 : Int) := odt_ (by assumption)
                                have q89 : (t332 : Int) < ((x5_3.length : Int) : Int) := odt_ (by assumption)
                                obtain ⟨hx89_0, hf89_0⟩ := Kd.R_celln 0 HO_5.out (t332 : Int) p89 q89
                                replace p89 := eq_true p89
                                replace q89 := eq_true q89
                                have HP93 := Kd.R_putn HO_5.out (t332 : Int) (wrap64 ((rd x5_3 t332) + (rd x5_3 (rd x8_62 x9_2))))
                                rw [← Ny346.out] at HP93
                                have HQ93 := ak_ HP93
                                clear HP93
                                refine start_ (n := 14) (S := fun w' => w'.cell? ⟨go28, (t332).toNat, none⟩ = some (.int .i64 (rd x5_3 t332)) ∧ w'.cell? (ad341.add (x9_2).toNat) = some (.int .i64 (rd x8_62 x9_2)) ∧ w'.cell? ⟨go28, ((rd x8_62 x9_2)).toNat, none⟩ = some (.int .i64 (rd x5_3 (rd x8_62 x9_2)))) (ds := [13]) (mb_ 14 0) (by kernel_rfl) rfl rfl ⟨hx343_0, hx344_0, hx345_0⟩ (fun hHeld => ?_); refine with_tabW spec_keFar.tab23 spec_keFar.bits23 (fun HT_ HW_ => ?_)
                                generalize w90.drew = w92 at HO_4 HO_5 HO_8 HO_57 HO_324000 BK300 BK323 HB HQ93 hf89_0 hx343_0 hx344_0 hx345_0 hx89_0 hHeld ⊢
                                refine pu_ 0 100 14 1 ?_
                                refine pu_ 1 101 14 3 ?_
                                refine pu_ 2 102 14 7 ?_
                                refine pu_ 4 104 14 23 ?_
                                refine pu_ 5 105 14 55 ?_
                                refine pu_ 6 106 14 119 ?_
                                refine pu_ 7 107 14 247 ?_
                                refine tk_ 3 103 14 255 ?_ (hy := by rintro w' ⟨s0, s1, s2⟩; go_simp; with_reducible rfl)
                                refine tk_ 8 108 14 511 ?_ (hy := by rintro w' ⟨s0, s1, s2⟩; go_simp; with_reducible rfl)
                                refine pu_ 9 109 14 1023 ?_
                                refine tk_ 10 110 14 2047 ?_ (hy := by rintro w' ⟨s0, s1, s2⟩; go_simp; with_reducible rfl)
                                refine pu_ 11 111 14 4095 ?_
                                refine pu_ 12 112 14 8191 ?_
                                refine last_ (i := 13) (N := none) (mb_ 14 16383) rfl rfl (one_of HT_.out (by kernel_rfl)) (by decide) (fun K hK => ?_)
                                refine skip_ (w1 := ?_) (by rfl) rfl ?_ ?_
                                rotate_left
                                ·
                                 go_simp
                                 rfl
                                refine hK.out _ _ ?_
                                clear hK K
                                refine done_ (done_of HT_.out (by kernel_rfl)) ?_
                                try go_wp2
                                (try simp only [← hl4_3, ← hl5_3, ← hl4_62])
                                go_roundg kj62
                                case measure => have := HK1.out; have := HK2.out; have := HK3.out; have := HJ62.out; omega
                                case rel => exact ⟨(x4_62), (y346), (x8_62), (wrap64 (x59_3 + 1)), (ry_), H', ⟨by have := HK1.out; have := HK2.out; have := HK3.out; have := HJ62.out; omega⟩, ⟨by (try simp only [hl4_1, hl4_2, hl5_2, hl4_3, hl5_3, hl4_62]); (with_reducible repeat (first | apply Kd.R_alloc | apply Kd.R_drewN | apply Kd.R_drew)); exact Kd.R_mono (Kd.R_far (p := ⟨go28, (t332 : Int).toNat, none⟩) (Kd.R_mono HO_4.out (fun k_ hk => (⟨hk, fun e_ => hk.1 (by rw [e_]; rfl)⟩ : _ ∧ k_ ≠ go28))) (fun _ hk => hk.2) (.int .i64 (wrap64 ((rd x5_3 t332) + (rd x5_3 (rd x8_62 x9_2)))))) (fun _ hk => ⟨hk.1.1, hk.1.2⟩)⟩, ⟨by (try simp only [hl4_1, hl4_2, hl5_2, hl4_3, hl5_3, hl4_62]); exact Kd.pR HQ93.out⟩, ⟨by (try simp only [hl4_1, hl4_2, hl5_2, hl4_3, hl5_3, hl4_62]); (with_reducible repeat (first | apply Kd.R_alloc | apply Kd.R_drewN | apply Kd.R_drew)); exact Kd.R_mono (Kd.R_far (p := ⟨go28, (t332 : Int).toNat, none⟩) (Kd.R_mono HO_8.out (fun k_ hk => (⟨hk, fun e_ => hk.2 (by rw [e_]; rfl)⟩ : _ ∧ k_ ≠ go28))) (fun _ hk => hk.2) (.int .i64 (wrap64 ((rd x5_3 t332) + (rd x5_3 (rd x8_62 x9_2)))))) (fun _ hk => ⟨hk.1.1, hk.1.2⟩)⟩, ⟨by (try simp only [hl4_1, hl4_2, hl5_2, hl4_3, hl5_3, hl4_62]); (with_reducible repeat (first | apply Kd.N_alloc | apply Kd.N_drewN | apply Kd.N_drew)); exact Kd.N_mono (Kd.N_far (p := ⟨go28, (t332 : Int).toNat, none⟩) (Kd.N_mono HO_57.out (fun k_ hk => (⟨hk, fun e_ => hk.2.1 (by rw [e_]; rfl)⟩ : _ ∧ k_ ≠ go28))) (fun _ hk => hk.2) (.int .i64 (wrap64 ((rd x5_3 t332) + (rd x5_3 (rd x8_62 x9_2)))))) (fun _ hk => ⟨hk.1.1, ⟨hk.1.2.1, ⟨hk.1.2.2.1, ⟨hk.1.2.2.2.1, ⟨hk.1.2.2.2.2.1, hk.1.2.2.2.2.2⟩⟩⟩⟩⟩)⟩, ⟨by (try simp only [hl4_1, hl4_2, hl5_2, hl4_3, hl5_3, hl4_62]); (with_reducible repeat (first | apply Kd.R_alloc | apply Kd.R_drewN | apply Kd.R_drew)); exact Kd.R_mono (Kd.R_far (p := ⟨go28, (t332 : Int).toNat, none⟩) (Kd.R_types HO_324000.out (Exists.choose_spec (Kd.R_typed HO_5.out go28 rfl)) (by decide)) (fun _ hk => hk.2) (.int .i64 (wrap64 ((rd x5_3 t332) + (rd x5_3 (rd x8_62 x9_2)))))) (fun _ hk => trivial)⟩, ⟨by (try simp only [hl4_1, hl4_2, hl5_2, hl4_3, hl5_3, hl4_62]); (with_reducible repeat (first | refine kN_ ?_ _ | refine k1_ ?_ | refine ka_ ?_ _)); refine blk_far ?_ (by have h_ := Kd.R_ne HO_5.out BK300.out (by decide); intro e_; exact h_ (by rw [e_]; rfl)) _; exact pk BK300.out⟩, ⟨by (try simp only [hl4_1, hl4_2, hl5_2, hl4_3, hl5_3, hl4_62]); (with_reducible repeat (first | refine kN_ ?_ _ | refine k1_ ?_ | refine ka_ ?_ _)); refine blk_far ?_ (by have h_ := Kd.R_ne HO_5.out BK323.out (by decide); intro e_; exact h_ (by rw [e_]; rfl)) _; exact pk BK323.out⟩, ⟨by repeat (first | exact HB.out | apply ba_ | apply bN_ | apply b1_ | refine below_set ?_ GB28.out | refine below_set ?_ (Aside0.out (by assumption)))⟩⟩
                               ·
                                rw [if_neg c88] at H
                                exact absurd H (by simp)
                              ·
                               rw [if_neg c87] at H
                               exact absurd H (by simp)
                             ·
                              rw [if_neg c86] at H
                              have c86b0 : ((rd x4_62 t332) == (wrap64 ((rd x4_62 (rd x8_62 x9_2)) + 1))) = false := beq_eq_false_iff_ne.mpr c86
                              have c86b1 : ((rd x4_62 t332) != (wrap64 ((rd x4_62 (rd x8_62 x9_2)) + 1))) = true := bne_iff_ne.mpr c86
                              have H' := ak_ H
                              clear H
                              try go_wp2
                              have n0_ := ak_ (Kd.R_drew HO_4.out)
                              have n1_ := ak_ (Kd.R_drew HO_5.out)
                              have n2_ := ak_ (Kd.R_drew HO_8.out)
                              have n3_ := ak_ (Kd.N_drew HO_57.out)
                              have n4_ := ak_ (Kd.R_drew HO_324000.out)
                              have n5_ := ak_ (k1_ BK300.out)
                              have n6_ := ak_ (k1_ BK323.out)
                              have n7_ := ak_ (b1_ HB.out)
                              clear HO_4 HO_5 HO_8 HO_57 HO_324000 BK300 BK323 HB
                              have HO_4 := n0_; have HO_5 := n1_; have HO_8 := n2_; have HO_57 := n3_; have HO_324000 := n4_; have BK300 := n5_; have BK323 := n6_; have HB := n7_
                              clear n0_ n1_ n2_ n3_ n4_ n5_ n6_ n7_
                              have p340 : 0 ≤ (t332 : Int) := odt_ (by assumption)
                              have q340 : t332 < (x4_62.length : Int) := odt_ (by assumption)
                              obtain ⟨ad340, e340, hx340_0⟩ := Kd.at_int (Kd.R_reads' HO_4.out).2.2 t332 p340 q340
                              obtain rfl : (⟨go26, 0, none⟩ : Addr) = ad340 := (by injection e340)
                              (first | simp only [add_plain] at hx340_0 | simp only [add_at] at hx340_0 | simp only [Addr.add, Nat.zero_add] at hx340_0 | skip)
                              replace p340 := eq_true p340
                              replace q340 := eq_true q340
                              obtain ⟨Ao95, co95, eo95⟩ := Kd.R_slice HO_8.out
                              (first | subst eo95 | (injection eo95 with f1_ f2_ f3_; have f4_ := f1_.symm; have f5_ := f3_.symm; clear f1_ f2_ f3_; subst f4_; subst f5_))
                              have p341 : 0 ≤ (x9_2 : Int) := odt_ (by assumption)
                              have q341 : x9_2 < (x8_62.length : Int) := odt_ (by assumption)
                              obtain ⟨ad341, e341, hx341_0⟩ := Kd.at_int (Kd.R_reads' HO_8.out).2.2 x9_2 p341 q341
                              cases e341
                              replace p341 := eq_true p341
                              replace q341 := eq_true q341
                              have p342 : 0 ≤ ((rd x8_62 x9_2) : Int) := odt_ (by assumption)
                              have q342 : (rd x8_62 x9_2) < (x4_62.length : Int) := odt_ (by assumption)
                              obtain ⟨ad342, e342, hx342_0⟩ := Kd.at_int (Kd.R_reads' HO_4.out).2.2 (rd x8_62 x9_2) p342 q342
                              obtain rfl : (⟨go26, 0, none⟩ : Addr) = ad342 := (by injection e342)
                              (first | simp only [add_plain] at hx342_0 | simp only [add_at] at hx342_0 | simp only [Addr.add, Nat.zero_add] at hx342_0 | skip)
                              replace p342 := eq_true p342
                              replace q342 := eq_true q342
                              refine start_ (n := 13) (S := fun w' => w'.cell? ⟨go26, (t332).toNat, none⟩ = some (.int .i64 (rd x4_62 t332)) ∧ w'.cell? (ad341.add (x9_2).toNat) = some (.int .i64 (rd x8_62 x9_2)) ∧ w'.cell? ⟨go26, ((rd x8_62 x9_2)).toNat, none⟩ = some (.int .i64 (rd x4_62 (rd x8_62 x9_2)))) (ds := []) (mb_ 13 0) (by kernel_rfl) rfl rfl ⟨hx340_0, hx341_0, hx342_0⟩ (fun hHeld => ?_); refine with_tabW spec_keFar.tab22 spec_keFar.bits22 (fun HT_ HW_ => ?_)
                              generalize wc.drew = w94 at HO_4 HO_5 HO_8 HO_57 HO_324000 BK300 BK323 HB hx340_0 hx341_0 hx342_0 hHeld ⊢
                              refine pu_ 0 87 13 1 ?_
                              refine pu_ 1 88 13 3 ?_
                              refine pu_ 2 89 13 7 ?_
                              refine pu_ 4 91 13 23 ?_
                              refine pu_ 5 92 13 55 ?_
                              refine pu_ 6 93 13 119 ?_
                              refine pu_ 7 94 13 247 ?_
                              refine tk_ 3 90 13 255 ?_ (hy := by rintro w' ⟨s0, s1, s2⟩; go_simp; with_reducible rfl)
                              refine tk_ 8 95 13 511 ?_ (hy := by rintro w' ⟨s0, s1, s2⟩; go_simp; with_reducible rfl)
                              refine pu_ 9 96 13 1023 ?_
                              refine tk_ 10 97 13 2047 ?_ (hy := by rintro w' ⟨s0, s1, s2⟩; go_simp; with_reducible rfl)
                              refine pu_ 11 98 13 4095 ?_
                              refine pu_ 12 99 13 8191 ?_
                              refine done_ (done_of HT_.out (by kernel_rfl)) ?_
                              try go_wp2
                              (try simp only [← hl4_3, ← hl5_3, ← hl4_62])
                              go_roundg kj62
                              case measure => have := HK1.out; have := HK2.out; have := HK3.out; have := HJ62.out; omega
                              case rel => exact ⟨(x4_62), (x5_3), (x8_62), (wrap64 (x59_3 + 1)), (ry_), H', ⟨by have := HK1.out; have := HK2.out; have := HK3.out; have := HJ62.out; omega⟩, ⟨by (try simp only [hl4_1, hl4_2, hl5_2, hl4_3, hl5_3, hl4_62]); exact Kd.pR HO_4.out⟩, ⟨by (try simp only [hl4_1, hl4_2, hl5_2, hl4_3, hl5_3, hl4_62]); exact Kd.pR HO_5.out⟩, ⟨by (try simp only [hl4_1, hl4_2, hl5_2, hl4_3, hl5_3, hl4_62]); exact Kd.pR HO_8.out⟩, ⟨by (try simp only [hl4_1, hl4_2, hl5_2, hl4_3, hl5_3, hl4_62]); exact Kd.pN HO_57.out⟩, ⟨by (try simp only [hl4_1, hl4_2, hl5_2, hl4_3, hl5_3, hl4_62]); exact Kd.pR HO_324000.out⟩, ⟨by (try simp only [hl4_1, hl4_2, hl5_2, hl4_3, hl5_3, hl4_62]); exact pk BK300.out⟩, ⟨by (try simp only [hl4_1, hl4_2, hl5_2, hl4_3, hl5_3, hl4_62]); exact pk BK323.out⟩, ⟨by repeat (first | exact HB.out | apply ba_ | apply bN_ | apply b1_ | refine below_set ?_ (Aside0.out (by assumption)))⟩⟩
                            ·
                             rw [if_neg c85] at H
                             exact absurd H (by simp)
                           ·
                            rw [if_neg c84] at H
                            exact absurd H (by simp)
                          ·
                           rw [if_neg c83] at H
                           exact absurd H (by simp)
                         ·
                          rw [if_neg c82] at H
                          exact absurd H (by simp)
                        ·
                         rw [if_neg c81] at H
                         exact absurd H (by simp)
                       ·
                        rw [if_neg c80] at H
                        exact absurd H (by simp)
                    ·
                     rw [if_neg c62] at H
                     exact absurd H (by simp)
                   ·
                    rw [if_neg c61] at H
                    exact absurd H (by simp)
                  ·
                   rw [if_neg c58] at H
                   exact absurd H (by simp)
                 ·
                  rw [if_neg c57] at H
                  exact absurd H (by simp)
                ·
                 rw [if_neg c56] at H
                 have c56b0 : decide (x59_3 < (t324.length : Int)) = false := decide_eq_false c56
                 have c56b9 := c56b0; (try rw [hl4_3] at c56b9); (try rw [hl5_3] at c56b9); (try rw [hl4_62] at c56b9)
                 clear c56
                 have H' := ak_ H
                 clear H
                 go_wp2
                 (try simp only [← hl4_2, ← hl5_2, ← hl4_3, ← hl5_3])
                 go_roundg k3
                 case measure => have := HK1.out; have := HK2.out; have := HK3.out; omega
                 case rel => exact ⟨(x4_3), (x5_3), (x8_3), (wrap64 (x9_2 + 1)), (ry_), H', ⟨by have := HK1.out; have := HK2.out; have := HK3.out; omega⟩, ⟨by (try simp only [hl4_1, hl4_2, hl5_2, hl4_3, hl5_3]); exact Kd.pR HO_4.out⟩, ⟨by (try simp only [hl4_1, hl4_2, hl5_2, hl4_3, hl5_3]); exact Kd.pR HO_5.out⟩, ⟨by (try simp only [hl4_1, hl4_2, hl5_2, hl4_3, hl5_3]); exact Kd.pR HO_8.out⟩, ⟨by (try simp only [hl4_1, hl4_2, hl5_2, hl4_3, hl5_3]); exact pk BK300.out⟩, ⟨by repeat (first | exact HB.out | apply ba_ | apply bN_ | apply b1_ | refine below_set ?_ (Aside0.out (by assumption)))⟩⟩
             ·
              rw [if_neg c40] at H
              exact absurd H (by simp)
            ·
             rw [if_neg c39] at H
             have c39b0 : decide (x9_2 < (x8_2.length : Int)) = false := decide_eq_false c39
             have c39b9 := c39b0; (try rw [hl4_3] at c39b9); (try rw [hl5_3] at c39b9); (try rw [hl4_62] at c39b9)
             clear c39
             simp only [Option.some.injEq, Prod.mk.injEq] at H
             obtain ⟨rfl, rfl⟩ := H
             obtain ⟨Ao96, co96, eo96⟩ := Kd.R_slice HO_8.out
             subst eo96
             go_wp2
             go_ret2
             exact ⟨_, _, by first | rfl | (simp [errW_none, errW_some] <;> rfl) | (simp only [← hji3]; first | rfl | (simp [errW_none, errW_some] <;> rfl)) | (simp [*, errW_none, errW_some] <;> rfl), by (with_reducible repeat (first | apply Kd.R_alloc | apply Kd.R_drewN | apply Kd.R_drew)); exact Kd.R_mono HO_4.out (fun _ hk => hk.1), by (with_reducible repeat (first | apply Kd.R_alloc | apply Kd.R_drewN | apply Kd.R_drew)); exact Kd.R_mono HO_5.out (fun _ hk => hk.1), by repeat (first | exact HB.out | apply ba_ | apply bN_ | apply b1_ | refine below_set ?_ GE300.out)⟩
         ·
          rw [if_neg c27] at H
          exact absurd H (by simp)
        ·
         rw [if_neg c25] at H
         exact absurd H (by simp)
       ·
        rw [if_neg c24] at H
        exact absurd H (by simp)
   ·
    rw [if_neg c5] at H
    exact absurd H (by simp)
  ·
   rw [if_neg c4] at H
   exact absurd H (by simp)
 ·
  rw [if_neg c2] at H
  exact absurd H (by simp)
end Go.Proofs.Ythkchdfkeieabaa.QGr
