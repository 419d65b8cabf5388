/- Contracts of functions of the given program, walked: each call returns what its Lean function says. Conditions: those that stand at each theorem. (Written by a program of this session.) -/
import Derived.Test.YthkchdfkeieabaaQGrx0
import Derived.Test.YthkchdfkeieabaaQGrx1
import Derived.Test.YthkchdfkeieabaaQGrx2
import Derived.Test.YthkchdfkeieabaaQGrx3
import Derived.Test.YthkchdfkeieabaaQGrx4
import Derived.Test.YthkchdfkeieabaaQGrx5
namespace Go.Proofs.Ythkchdfkeieabaa.QGr
open Go.RowKit Go.Proofs.YthkchdfkeieabaaW.PrintWords Go.Proofs.YthkchdfkeieabaaW.PrintLast Go.Proofs.YthkchdfkeieabaaW.PrintMore
open List (setIfInBounds_toArray set_cons_zero set_cons_succ map_toArray map_cons map_nil)
attribute [local go_sem] max2_int min2_int max_two min_two max_three min_three max_four min_four
set_option linter.unusedVariables false
set_option maxHeartbeats 8000000
set_option maxRecDepth 100000
set_option linter.unusedSimpArgs false
mutual
def spec_seFar.l0 : Nat → List Int → List Bool → Int → Int → List Int → Int → List Bool → Bool → Option (List Int)
 | 0, _, _, _, _, _, _, _, _ => none
 | k + 1, x5, x6, x25, x26, x221000, x221001, x222000, x222001 => if x26 < x25 then (if 0 ≤ x26 then (if x26 < (x5.length : Int) then (spec_seFar.l0 k (x5.set (x26 : Int).toNat (-1)) x6 x25 (wrap64 (x26 + 1)) x221000 x221001 x222000 x222001) else (none)) else (none)) else ((spec_seIndex.f k x222000 x222001).bind fun t229 => (if 0 ≤ t229 then (if t229 < (x5.length : Int) then (spec_seFar.l1 k (x5.set (t229 : Int).toNat 0) x6 x221000 x221001) else (none)) else (none)))
def spec_seFar.l1 : Nat → List Int → List Bool → List Int → Int → Option (List Int)
 | 0, _, _, _, _ => none
 | k + 1, x5, x6, x221000, x221001 => spec_seFar.l2 k x5 x6 (-1) x5 (x5.length : Int) 0 x221000 x221001
def spec_seFar.l2 : Nat → List Int → List Bool → Int → List Int → Int → Int → List Int → Int → Option (List Int)
 | 0, _, _, _, _, _, _, _, _ => none
 | k + 1, x5, x6, x8, x37, x38, x39, x221000, x221001 => if x39 < x38 then (if 0 ≤ x39 then (if x39 < (x37.length : Int) then (if x39 < (x6.length : Int) then (if rdOf false x6 x39 = true then (spec_seFar.l2 k x5 x6 x8 x37 x38 (wrap64 (x39 + 1)) x221000 x221001) else (if (rd x37 x39) ≥ 0 then (if x8 < 0 then (spec_seFar.l2 k x5 x6 x39 x37 x38 (wrap64 (x39 + 1)) x221000 x221001) else (if 0 ≤ x8 then (if x8 < (x5.length : Int) then (if (rd x37 x39) < (rd x5 x8) then (spec_seFar.l2 k x5 x6 x39 x37 x38 (wrap64 (x39 + 1)) x221000 x221001) else (spec_seFar.l2 k x5 x6 x8 x37 x38 (wrap64 (x39 + 1)) x221000 x221001)) else (none)) else (none))) else (spec_seFar.l2 k x5 x6 x8 x37 x38 (wrap64 (x39 + 1)) x221000 x221001))) else (none)) else (none)) else (none)) else (if x8 < 0 then (some x5) else (if 0 ≤ x8 then (if x8 < (x6.length : Int) then ((spec_seState.f k x8 (x221000.length : Int)).bind fun bt235 => ((spec_paTrips.f k x221000 x221001 bt235.1 bt235.2).bind fun t240 => (spec_seFar.l3 k x5 (x6.set (x8 : Int).toNat true) x8 t240 (t240.length : Int) 0 x221000 x221001 bt235.1 bt235.2))) else (none)) else (none)))
def spec_seFar.l3 : Nat → List Int → List Bool → Int → List (List Int) → Int → Int → List Int → Int → List Bool → Bool → Option (List Int)
 | 0, _, _, _, _, _, _, _, _, _, _ => none
 | k + 1, x5, x6, x8, x80, x81, x82, x221000, x221001, x240000, x240001 => if x82 < x81 then (if 0 ≤ x82 then (if x82 < (x80.length : Int) then ((spec_paCross.f k x240000 x240001 (rd_L2 x80 x82)).bind fun bt244 => ((spec_seIndex.f k bt244.1 bt244.2).bind fun t248 => (if 0 ≤ x8 then (if x8 < (x5.length : Int) then ((spec_paTime.f k x221000 x221001 (rd_L2 x80 x82)).bind fun t250 => (if 0 ≤ t248 then (if t248 < (x5.length : Int) then (if (rd x5 t248) < 0 then (spec_seFar.l3 k (x5.set (t248 : Int).toNat (wrap64 ((rd x5 x8) + t250))) x6 x8 x80 x81 (wrap64 (x82 + 1)) x221000 x221001 x240000 x240001) else (if (wrap64 ((rd x5 x8) + t250)) < (rd x5 t248) then (spec_seFar.l3 k (x5.set (t248 : Int).toNat (wrap64 ((rd x5 x8) + t250))) x6 x8 x80 x81 (wrap64 (x82 + 1)) x221000 x221001 x240000 x240001) else (spec_seFar.l3 k x5 x6 x8 x80 x81 (wrap64 (x82 + 1)) x221000 x221001 x240000 x240001))) else (none)) else (none))) else (none)) else (none)))) else (none)) else (none)) else (spec_seFar.l1 k x5 x6 x221000 x221001)
end
def spec_seFar.f (k : Nat) (l0_0 : List Int) (a0_1 : Int) (l1_0 : List Bool) (a1_1 : Bool) : Option (List Int) := if 0 ≤ (shl .i64 2 (l0_0.length : Int)) then (if (shl .i64 2 (l0_0.length : Int) : Int).toNat ≤ 35184372088832 then ((some (List.replicate (shl .i64 2 (l0_0.length : Int) : Int).toNat 0 : List Int)).bind fun y222 => (if 0 ≤ (y222.length : Int) then (if ((y222.length : Int) : Int).toNat ≤ 281474976710656 then (spec_seFar.l0 k y222 (List.replicate ((y222.length : Int) : Int).toNat false) (y222.length : Int) 0 l0_0 a0_1 l1_0 a1_1) else (none)) else (none))) else (none)) else (none)
theorem spec_seFar.mono_l : ∀ k, (∀ y0 y1 y2 y3 y4 y5 y6 y7, LeO (spec_seFar.l0 k y0 y1 y2 y3 y4 y5 y6 y7) (spec_seFar.l0 (k + 1) y0 y1 y2 y3 y4 y5 y6 y7)) ∧ (∀ y0 y1 y2 y3, LeO (spec_seFar.l1 k y0 y1 y2 y3) (spec_seFar.l1 (k + 1) y0 y1 y2 y3)) ∧ (∀ y0 y1 y2 y3 y4 y5 y6 y7, LeO (spec_seFar.l2 k y0 y1 y2 y3 y4 y5 y6 y7) (spec_seFar.l2 (k + 1) y0 y1 y2 y3 y4 y5 y6 y7)) ∧ (∀ y0 y1 y2 y3 y4 y5 y6 y7 y8 y9, LeO (spec_seFar.l3 k y0 y1 y2 y3 y4 y5 y6 y7 y8 y9) (spec_seFar.l3 (k + 1) y0 y1 y2 y3 y4 y5 y6 y7 y8 y9))
 | 0 => ⟨fun _ _ _ _ _ _ _ _ r h => by simp [spec_seFar.l0] at h, fun _ _ _ _ r h => by simp [spec_seFar.l1] at h, fun _ _ _ _ _ _ _ _ r h => by simp [spec_seFar.l2] at h, fun _ _ _ _ _ _ _ _ _ _ r h => by simp [spec_seFar.l3] at h⟩
 | k + 1 => by
  obtain ⟨ih0, ih1, ih2, ih3⟩ := spec_seFar.mono_l k
  refine ⟨?_, ?_, ?_, ?_⟩
  ·intro y0 y1 y2 y3 y4 y5 y6 y7
   unfold spec_seFar.l0
   repeat' first
   | (with_reducible first | exact ih0 _ _ _ _ _ _ _ _ | exact ih1 _ _ _ _ | exact ih2 _ _ _ _ _ _ _ _ | exact ih3 _ _ _ _ _ _ _ _ _ _ | exact spec_paCross.mono _ _ _ _ | exact spec_paTime.mono _ _ _ _ | exact spec_paTrips.mono _ _ _ _ _ | exact spec_seIndex.mono _ _ _ | exact spec_seState.mono _ _ _ | exact LeO.refl _ | exact LeO.none _ | refine LeO.ite ?_ ?_ | refine LeO.bind ?_ (fun _ => ?_))
   | exact ih0 _ _ _ _ _ _ _ _
   | exact ih1 _ _ _ _
   | exact ih2 _ _ _ _ _ _ _ _
   | exact ih3 _ _ _ _ _ _ _ _ _ _
   | exact spec_paCross.mono _ _ _ _
   | exact spec_paTime.mono _ _ _ _
   | exact spec_paTrips.mono _ _ _ _ _
   | exact spec_seIndex.mono _ _ _
   | exact spec_seState.mono _ _ _
   | exact LeO.none _
   | refine LeO.ite ?_ ?_
   | refine LeO.bind ?_ (fun _ => ?_)
  ·intro y0 y1 y2 y3
   unfold spec_seFar.l1
   repeat' first
   | (with_reducible first | exact ih0 _ _ _ _ _ _ _ _ | exact ih1 _ _ _ _ | exact ih2 _ _ _ _ _ _ _ _ | exact ih3 _ _ _ _ _ _ _ _ _ _ | exact spec_paCross.mono _ _ _ _ | exact spec_paTime.mono _ _ _ _ | exact spec_paTrips.mono _ _ _ _ _ | exact spec_seIndex.mono _ _ _ | exact spec_seState.mono _ _ _ | exact LeO.refl _ | exact LeO.none _ | refine LeO.ite ?_ ?_ | refine LeO.bind ?_ (fun _ => ?_))
   | exact ih0 _ _ _ _ _ _ _ _
   | exact ih1 _ _ _ _
   | exact ih2 _ _ _ _ _ _ _ _
   | exact ih3 _ _ _ _ _ _ _ _ _ _
   | exact spec_paCross.mono _ _ _ _
   | exact spec_paTime.mono _ _ _ _
   | exact spec_paTrips.mono _ _ _ _ _
   | exact spec_seIndex.mono _ _ _
   | exact spec_seState.mono _ _ _
   | exact LeO.none _
   | refine LeO.ite ?_ ?_
   | refine LeO.bind ?_ (fun _ => ?_)
  ·intro y0 y1 y2 y3 y4 y5 y6 y7
   unfold spec_seFar.l2
   repeat' first
   | (with_reducible first | exact ih0 _ _ _ _ _ _ _ _ | exact ih1 _ _ _ _ | exact ih2 _ _ _ _ _ _ _ _ | exact ih3 _ _ _ _ _ _ _ _ _ _ | exact spec_paCross.mono _ _ _ _ | exact spec_paTime.mono _ _ _ _ | exact spec_paTrips.mono _ _ _ _ _ | exact spec_seIndex.mono _ _ _ | exact spec_seState.mono _ _ _ | exact LeO.refl _ | exact LeO.none _ | refine LeO.ite ?_ ?_ | refine LeO.bind ?_ (fun _ => ?_))
   | exact ih0 _ _ _ _ _ _ _ _
   | exact ih1 _ _ _ _
   | exact ih2 _ _ _ _ _ _ _ _
   | exact ih3 _ _ _ _ _ _ _ _ _ _
   | exact spec_paCross.mono _ _ _ _
   | exact spec_paTime.mono _ _ _ _
   | exact spec_paTrips.mono _ _ _ _ _
   | exact spec_seIndex.mono _ _ _
   | exact spec_seState.mono _ _ _
   | exact LeO.none _
   | refine LeO.ite ?_ ?_
   | refine LeO.bind ?_ (fun _ => ?_)
  ·intro y0 y1 y2 y3 y4 y5 y6 y7 y8 y9
   unfold spec_seFar.l3
   repeat' first
   | (with_reducible first | exact ih0 _ _ _ _ _ _ _ _ | exact ih1 _ _ _ _ | exact ih2 _ _ _ _ _ _ _ _ | exact ih3 _ _ _ _ _ _ _ _ _ _ | exact spec_paCross.mono _ _ _ _ | exact spec_paTime.mono _ _ _ _ | exact spec_paTrips.mono _ _ _ _ _ | exact spec_seIndex.mono _ _ _ | exact spec_seState.mono _ _ _ | exact LeO.refl _ | exact LeO.none _ | refine LeO.ite ?_ ?_ | refine LeO.bind ?_ (fun _ => ?_))
   | exact ih0 _ _ _ _ _ _ _ _
   | exact ih1 _ _ _ _
   | exact ih2 _ _ _ _ _ _ _ _
   | exact ih3 _ _ _ _ _ _ _ _ _ _
   | exact spec_paCross.mono _ _ _ _
   | exact spec_paTime.mono _ _ _ _
   | exact spec_paTrips.mono _ _ _ _ _
   | exact spec_seIndex.mono _ _ _
   | exact spec_seState.mono _ _ _
   | exact LeO.none _
   | refine LeO.ite ?_ ?_
   | refine LeO.bind ?_ (fun _ => ?_)
theorem spec_seFar.mono : ∀ a0 a1 a2 a3 k, LeO (spec_seFar.f k a0 a1 a2 a3) (spec_seFar.f (k + 1) a0 a1 a2 a3) := by
 intro a0 a1 a2 a3 k
 obtain ⟨ih0, ih1, ih2, ih3⟩ := spec_seFar.mono_l k
 unfold spec_seFar.f
 repeat' first
  | (with_reducible first | exact ih0 _ _ _ _ _ _ _ _ | exact ih1 _ _ _ _ | exact ih2 _ _ _ _ _ _ _ _ | exact ih3 _ _ _ _ _ _ _ _ _ _ | exact spec_paCross.mono _ _ _ _ | exact spec_paTime.mono _ _ _ _ | exact spec_paTrips.mono _ _ _ _ _ | exact spec_seIndex.mono _ _ _ | exact spec_seState.mono _ _ _ | exact LeO.refl _ | exact LeO.none _ | refine LeO.ite ?_ ?_ | refine LeO.bind ?_ (fun _ => ?_))
  | exact ih0 _ _ _ _ _ _ _ _
  | exact ih1 _ _ _ _
  | exact ih2 _ _ _ _ _ _ _ _
  | exact ih3 _ _ _ _ _ _ _ _ _ _
  | exact spec_paCross.mono _ _ _ _
  | exact spec_paTime.mono _ _ _ _
  | exact spec_paTrips.mono _ _ _ _ _
  | exact spec_seIndex.mono _ _ _
  | exact spec_seState.mono _ _ _
  | exact LeO.none _
  | refine LeO.ite ?_ ?_
  | refine LeO.bind ?_ (fun _ => ?_)
def spec_seFar.T24 : Bool × List (List Nat × List Nat) := (true, [([], []), ([], []), ([0, 1], [0, 1]), ([2], [2]), ([], []), ([], []), ([4, 5], [4, 5]), ([3, 6], [3, 6]), ([7, 6, 0, 1, 2, 3, 4, 5, 6, 7], [7])])
def spec_seFar.B24 : List Nat := [0, 0, 3, 7, 0, 0, 48, 127, 255]
theorem spec_seFar.tab24 : rtab .any (opsOf Try.f89 24) = spec_seFar.T24 := by kernel_rfl
theorem spec_seFar.bits24 : waitsOk spec_seFar.T24.2 spec_seFar.B24 = true := by kernel_rfl
theorem spec_seFar.calls (k : Nat) (A0_0 : Option Addr) (c0_0 : Nat) (l0_0 : List Int) (a0_1 : Int) (A1_0 : Option Addr) (c1_0 : Nat) (l1_0 : List Bool) (a1_1 : Bool) (r : List Int) (w : World) (hr0_0 : Kd.C (Kd.int .i64) w A0_0 l0_0.length l0_0) (hc0_0 : l0_0.length ≤ c0_0) (hr1_0 : Kd.C Kd.bool w A1_0 l1_0.length l1_0) (hc1_0 : l1_0.length ≤ c1_0) (h : spec_seFar.f k l0_0 a0_1 l1_0 a1_1 = some r) :
  Calls Try.prog 89 #[.agg #[.slice A0_0 l0_0.length c0_0, .int .i64 a0_1], .agg #[.slice A1_0 l1_0.length c1_0, .bool a1_1]] w fun e w' => ∃ v0_ : Value, e = .returned (v0_) ∧ Kd.R (Kd.int .i64) 3 w' w.heap.size (fun _ => True) v0_ r ∧ Below w.heap.size w w' := by
 have hu34 := Try.underlying34
 have hu115 := Try.underlying115
 have HR0_0 := ak_ hr0_0
 have HC0_0 := ak_ hc0_0
 clear hr0_0 hc0_0
 have HR1_0 := ak_ hr1_0
 have HC1_0 := ak_ hc1_0
 clear hr1_0 hc1_0
 have HB := ak_ (Below.refl w.heap.size w)
 have H : (if 0 ≤ (shl .i64 2 (l0_0.length : Int)) then (if (shl .i64 2 (l0_0.length : Int) : Int).toNat ≤ 35184372088832 then ((some (List.replicate (shl .i64 2 (l0_0.length : Int) : Int).toNat 0 : List Int)).bind fun y222 => (if 0 ≤ (y222.length : Int) then (if ((y222.length : Int) : Int).toNat ≤ 281474976710656 then (spec_seFar.l0 k y222 (List.replicate ((y222.length : Int) : Int).toNat false) (y222.length : Int) 0 l0_0 a0_1 l1_0 a1_1) else (none)) else (none))) else (none)) else (none)) = some r := h
 clear h
 obtain ⟨ji3, hji3⟩ : ∃ j_ : Int, (shl .i64 2 (l0_0.length : Int)) = j_ := ⟨_, rfl⟩
 replace H : (if 0 ≤ (ji3) then (if (ji3 : Int).toNat ≤ 35184372088832 then ((some (List.replicate (ji3 : Int).toNat 0 : List Int)).bind fun y222 => (if 0 ≤ (y222.length : Int) then (if ((y222.length : Int) : Int).toNat ≤ 281474976710656 then (spec_seFar.l0 k y222 (List.replicate ((y222.length : Int) : Int).toNat false) (y222.length : Int) 0 l0_0 a0_1 l1_0 a1_1) else (none)) else (none))) else (none)) else (none)) = some r := by first | (rw [hji3] at H; exact H) | (simp only [hji3] at H ⊢; exact H)
 have hji3_ : (IntKind.i64.wrap (2 * 2 ^ min (l0_0.length : Int).toNat 64)) = ji3 := hji3
 have hji3z : (l0_0.length : Int) ≤ 64 → (IntKind.i64.wrap (2 * 2 ^ (l0_0.length : Int).toNat)) = ji3 := shl_small hji3
 have hji3p : (IntKind.i64.wrap (2 * 2 ^ min l0_0.length 64)) = ji3 := hji3_
 have hji3q : (l0_0.length : Int) ≤ 64 → (IntKind.i64.wrap (2 * 2 ^ l0_0.length)) = ji3 := hji3z
 have hji3y : (wrap64 (2 * 2 ^ min (l0_0.length : Int).toNat 64)) = ji3 := (i64_w _).symm.trans hji3_
 have hji3x : (l0_0.length : Int) ≤ 64 → (wrap64 (2 * 2 ^ (l0_0.length : Int).toNat)) = ji3 := fun h_ => (i64_w _).symm.trans (hji3z h_)
 by_cases c4 : 0 ≤ (ji3)
 ·
  rw [if_pos c4] at H
  have c4b0 := eq_true c4
  have c4b1 : decide (0 ≤ (ji3)) = true := decide_eq_true c4
  clear c4
  by_cases c5 : (ji3 : Int).toNat ≤ 35184372088832
  ·
   rw [if_pos c5] at H
   have c5b0 := eq_true c5
   have c5b1 : decide ((ji3 : Int).toNat ≤ 35184372088832) = true := decide_eq_true c5
   clear c5
   obtain ⟨y222, hy222⟩ : ∃ y_ : List Int, y_ = (List.replicate (ji3 : Int).toNat 0) := ⟨_, rfl⟩
   replace H : (if 0 ≤ (y222.length : Int) then (if ((y222.length : Int) : Int).toNat ≤ 281474976710656 then (spec_seFar.l0 k y222 (List.replicate ((y222.length : Int) : Int).toNat false) (y222.length : Int) 0 l0_0 a0_1 l1_0 a1_1) else (none)) else (none)) = some r := by first | (rw [hy222]; exact H) | exact H
   have Ny222 := ak_ hy222
   clear hy222
   by_cases c6 : 0 ≤ (y222.length : Int)
   ·
    rw [if_pos c6] at H
    have c6b0 := eq_true c6
    have c6b1 : decide (0 ≤ (y222.length : Int)) = true := decide_eq_true c6
    clear c6
    by_cases c7 : ((y222.length : Int) : Int).toNat ≤ 281474976710656
    ·
     rw [if_pos c7] at H
     have c7b0 := eq_true c7
     have c7b1 : decide (((y222.length : Int) : Int).toNat ≤ 281474976710656) = true := decide_eq_true c7
     clear c7
     obtain ⟨y225, hy225⟩ : ∃ y_ : List Bool, y_ = (List.replicate ((y222.length : Int) : Int).toNat false) := ⟨_, rfl⟩
     replace H : (spec_seFar.l0 k y222 y225 (y222.length : Int) 0 l0_0 a0_1 l1_0 a1_1) = some r := by first | (rw [hy225]; exact H) | exact H
     have Ny225 := ak_ hy225
     clear hy225
     have H' := ak_ H
     clear H
     go_enter Try.func89, Try.ntmps89
     go_wp2_with (first | ((with_reducible refine gate_dst (N := 2) rfl ?_); refine box_event ?hg (N := 2) ?hd (cs := #[.slice A0_0 l0_0.length c0_0, .int .i64 a0_1]) (t := 34) ?hr ?_; (case hd => rfl); (case hg => rfl); (case hr => go_simp <;> rfl); intro gb220 hg w8 hbox hb; have n0_ := ak_ (bs_ (bb_ HB.out) hb); have n1_ := ak_ (hbox); have n2_ := ak_ ((by rw [hg]; exact (bz_ (bb_ HB.out)) : w.heap.size ≤ gb220)); have n3_ := n2_; clear HB; have HB := n0_; have BK220 := n1_; have GW220 := n2_; have GE220 := n3_; clear n0_ n1_ n2_ n3_; clear hb hbox hg) | ((with_reducible refine gate_dst (N := 3) rfl ?_); refine box_event ?hg (N := 3) ?hd (cs := #[.slice A1_0 l1_0.length c1_0, .bool a1_1]) (t := 115) ?hr ?_; (case hd => rfl); (case hg => rfl); (case hr => go_simp <;> rfl); intro gb221 hg w9 hbox hb; have n0_ := ak_ (blk_below (pk BK220.out) hb); have n1_ := ak_ (bs_ (by repeat (first | exact HB.out | apply ba_ | apply bN_ | apply b1_ | refine below_set ?_ GE220.out)) hb); have n2_ := ak_ (hbox); have n3_ := ak_ ((by rw [hg]; exact (bz_ (by repeat (first | exact HB.out | apply ba_ | apply bN_ | apply b1_ | refine below_set ?_ GE220.out))) : w.heap.size ≤ gb221)); have n4_ := n3_; have n5_ := ak_ ((by rw [hg]; exact Nat.ne_of_lt (blk_lt (pk BK220.out)) : gb220 ≠ gb221)); have n6_ := ak_ n5_.out.symm; clear BK220; clear HB; have BK220 := n0_; have HB := n1_; have BK221 := n2_; have GW221 := n3_; have GE221 := n4_; have NB220_221 := n5_; have NB221_220 := n6_; clear n0_ n1_ n2_ n3_ n4_ n5_ n6_; clear hb hbox hg; have hnb10 := NB220_221.out; have hnc10 := NB221_220.out; have hcz11_0 : w9.cell? ⟨gb220, 0, none⟩ = some (.slice A0_0 l0_0.length c0_0) := (blk_cell BK220.out 0).trans rfl; have hcz11_1 : w9.cell? ⟨gb220, 1, none⟩ = some (.int .i64 a0_1) := (blk_cell BK220.out 1).trans rfl; have hfz11_0 := blk_frozen BK220.out 0; have hfz11_1 := blk_frozen BK220.out 1) | ((with_reducible refine gate_dst (N := 20) rfl ?_); refine Kd.R_make (Kd.int .i64) _ 3 rfl (N := 20) rfl 29 _ _ rfl ji3 rfl rfl Try.underlying29 (.int .i64 0) 8 info3 rfl (by decide) (by omega) 0 (ok := fun _ => True) (okp := fun _ => True) rfl (fun _ hk => hk) trivial (odt_ (by assumption)) (Nat.le_trans (Nat.mul_le_mul_right _ (odt_ (by assumption) : ji3.toNat ≤ 35184372088832)) (by omega)) (Below.refl _ _) (Nat.le_refl _) ?_; intro v223 w12 ho13 hb hg_ hnew_; clear hg_ hnew_; (first | rw [← Ny222.out] at ho13 | (simp only [Int.reduceToNat] at ho13; rw [← Ny222.out] at ho13)); have n0_ := ak_ (Kd.R_lower ho13 (bz_ (by repeat (first | exact HB.out | apply ba_ | apply bN_ | apply b1_ | refine below_set ?_ (Aside0.out (by assumption)))))); have n1_ := ak_ (blk_below (pk BK220.out) hb); have n2_ := ak_ (blk_below (pk BK221.out) hb); have n3_ := ak_ (bs_ (by repeat (first | exact HB.out | apply ba_ | apply bN_ | apply b1_ | refine below_set ?_ (Aside0.out (by assumption)))) hb); clear BK220; clear BK221; clear HB; have HO224 := n0_; have BK220 := n1_; have BK221 := n2_; have HB := n3_; clear n0_ n1_ n2_ n3_; clear hb ho13; obtain ⟨Ao14, co14, eo14⟩ := Kd.R_slice HO224.out; subst eo14) | ((with_reducible refine gate_dst (N := 23) rfl ?_); refine Kd.R_make Kd.bool _ 4 rfl (N := 23) rfl 38 _ _ rfl (y222.length : Int) rfl rfl Try.underlying38 (.bool false) 1 info4 rfl (by decide) (by omega) false (ok := fun _ => True) (okp := fun _ => True) rfl (fun _ hk => hk) trivial (odt_ (by assumption)) (Nat.le_trans (Nat.mul_le_mul_right _ (odt_ (by assumption) : (y222.length : Int).toNat ≤ 281474976710656)) (by omega)) (Below.refl _ _) (Nat.le_refl _) ?_; intro v226 w15 ho16 hb hg_ hnew_; clear hg_ hnew_; (first | rw [← Ny225.out] at ho16 | (simp only [Int.reduceToNat] at ho16; rw [← Ny225.out] at ho16)); have n0_ := ak_ (Kd.R_below (Kd.pR HO224.out) hb); have n1_ := ak_ (Kd.R_lower ho16 (bz_ (by repeat (first | exact HB.out | apply ba_ | apply bN_ | apply b1_ | refine below_set ?_ (Aside0.out (by assumption)))))); have n2_ := ak_ (blk_below (pk BK220.out) hb); have n3_ := ak_ (blk_below (pk BK221.out) hb); have n4_ := ak_ (bs_ (by repeat (first | exact HB.out | apply ba_ | apply bN_ | apply b1_ | refine below_set ?_ (Aside0.out (by assumption)))) hb); clear HO224; clear BK220; clear BK221; clear HB; have HO224 := n0_; have HO227 := n1_; have BK220 := n2_; have BK221 := n3_; have HB := n4_; clear n0_ n1_ n2_ n3_ n4_; clear hb ho16))
     go_loopg [26] k (fun kq v26 w' => ∃ (x5_1 : List Int) (x26_1 : Int), v26 = .int .i64 x26_1 ∧ Aside0 (spec_seFar.l0 kq x5_1 y225 (y222.length : Int) x26_1 l0_0 a0_1 l1_0 a1_1 = some r) ∧ Aside0 (kq ≤ k) ∧ Aside0 (Kd.R (Kd.int .i64) 3 w' w.heap.size (fun _ => True) (.slice Ao14 y222.length co14) x5_1) ∧ Aside0 (Kd.R Kd.bool 4 w' w.heap.size (fun _ => True) v226 y225) ∧ Aside0 (w'.heap[gb220]? = some (.cells #[(.slice A0_0 l0_0.length c0_0), .int .i64 a0_1] 34 (0, 0))) ∧ Aside0 (w'.heap[gb221]? = some (.cells #[(.slice A1_0 l1_0.length c1_0), .bool a1_1] 115 (0, 0))) ∧ Aside0 (Below w.heap.size w w'))
     case atStart => exact ⟨(y222), (0), (by first | rfl | (simp; done) | (simp [*]; done)), H', ⟨Nat.le_refl _⟩, ⟨Kd.pR HO224.out⟩, ⟨Kd.pR HO227.out⟩, ⟨pk BK220.out⟩, ⟨pk BK221.out⟩, ⟨by repeat (first | exact HB.out | apply ba_ | apply bN_ | apply b1_ | refine below_set ?_ (Aside0.out (by assumption)))⟩⟩
     case round =>
      clear H'
      try clear c1
      try clear p2
      try clear c4
      try clear c4b0
      try clear c4b1
      try clear c5
      try clear c5b0
      try clear c5b1
      try clear c6
      try clear c6b0
      try clear c6b1
      try clear p6
      try clear c7
      try clear c7b0
      try clear c7b1
      try clear c8
      try clear c10
      try clear hcz11_0
      try clear hcz11_1
      try clear hfz11_0
      try clear hfz11_1
      obtain ⟨x5_1, x26_1, rfl, HA, HK1, HO_5, HO_6, BK220, BK221, HB⟩ := hrel
      have hl5_1 := (Kd.R_reads' HO_5.out).1
      rw [hl5_1] at HO_5
      (try simp only [hl5_1])
      (try simp only [hl5_1] at BK220)
      (try simp only [hl5_1] at BK221)
      (try simp only [hl5_1] at HO_6)
      cases gk with
      | zero => exact absurd HA.out (by simp [spec_seFar.l0])
      | succ k1 =>
       have H := HA.out
       clear HA
       simp only [spec_seFar.l0] at H
       by_cases c17 : x26_1 < (y222.length : Int)
       ·
        rw [if_pos c17] at H
        have c17b0 : decide (x26_1 < (y222.length : Int)) = true := decide_eq_true c17
        clear c17
        by_cases c18 : 0 ≤ x26_1
        ·
         rw [if_pos c18] at H
         have c18b0 : decide (0 ≤ x26_1) = true := decide_eq_true c18
         clear c18
         by_cases c19 : x26_1 < (x5_1.length : Int)
         ·
          rw [if_pos c19] at H
          have c19b0 : decide (x26_1 < (x5_1.length : Int)) = true := decide_eq_true c19
          clear c19
          obtain ⟨y228, hy228⟩ : ∃ y_ : List Int, y_ = (x5_1.set (x26_1 : Int).toNat (-1)) := ⟨_, rfl⟩
          replace H : (spec_seFar.l0 k1 y228 y225 (y222.length : Int) (wrap64 (x26_1 + 1)) l0_0 a0_1 l1_0 a1_1) = some r := by first | (rw [hy228]; exact H) | exact H
          have Ny228 := ak_ hy228
          clear hy228
          have H' := ak_ H
          clear H
          have p20 : 0 ≤ (x26_1 : Int) := odt_ (by assumption)
          have q20 : (x26_1 : Int) < ((x5_1.length : Int) : Int) := odt_ (by assumption)
          obtain ⟨go20, co20, eo20, gb20, gl20, cl20, HG20⟩ := Kd.R_form HO_5.out (by omega)
          (first | cases eo20 | (injection eo20 with ea_ en_ ec_; (first | subst ea_ | (injection ea_ with ea_; subst ea_)); subst ec_; clear en_))
          have GB20 := ak_ gb20
          have GG20 := ak_ HG20
          clear gb20 gl20 HG20
          obtain ⟨hx20_0, hf20_0⟩ := Kd.R_celln 0 HO_5.out (x26_1 : Int) p20 q20
          replace p20 := eq_true p20
          replace q20 := eq_true q20
          have HP21 := Kd.R_putg HO_5.out (x26_1 : Int) (-1)
          go_wp2_with (first | ((with_reducible refine gate_store (t := 3) (p := 31) rfl ?_); refine store_event (t := 3) (p := 31) (v := ?vo_w22) (w1 := (wr.setCell ⟨go20, (x26_1 : Int).toNat, none⟩ (.int .i64 (-1)))) ?hg ?ho ?hn ?hr ?_; (case ho => rfl); (case hg => rfl); (case hn => rfl); (case hr => go_simp <;> rfl); intro w22 hw; have hg : wr.grownBy w22 (some go20) := (by rw [hw]; exact HP21.2); have hp_ : Kd.R (Kd.int .i64) 3 w22 w.heap.size (fun _ => True) (.slice (some ⟨go20, 0, none⟩) x5_1.length co14) y228 := (by rw [hw, Ny228.out]; exact HP21.1); clear HP21; have n0_ := ak_ (hp_); have n1_ := ak_ (Kd.R_over' (v := (.slice (some ⟨go20, 0, none⟩) x5_1.length co14)) (Kd.pR HO_6.out) (Kd.R_typed HO_5.out) (by decide) hg); have n2_ := ak_ (blk_grown (pk BK220.out) hg (Kd.R_ne HO_5.out BK220.out (by decide))); have n3_ := ak_ (blk_grown (pk BK221.out) hg (Kd.R_ne HO_5.out BK221.out (by decide))); have n4_ := ak_ ((by rw [hw]; exact below_set (HB.out) GB20.out : Below w.heap.size w w22)); clear HO_5; clear HO_6; clear BK220; clear BK221; clear HB; have HO_5 := n0_; have HO_6 := n1_; have BK220 := n2_; have BK221 := n3_; have HB := n4_; clear n0_ n1_ n2_ n3_ n4_; clear hg hw hp_))
          (try simp only [← hl5_1])
          go_roundg k1
          case measure => have := HK1.out; omega
          case rel => exact ⟨(y228), (wrap64 (x26_1 + 1)), (by first | rfl | (simp; done) | (simp [*]; done)), H', ⟨by have := HK1.out; omega⟩, ⟨by (try simp only [hl5_1]); exact Kd.pR HO_5.out⟩, ⟨by (try simp only [hl5_1]); exact Kd.pR HO_6.out⟩, ⟨by (try simp only [hl5_1]); exact pk BK220.out⟩, ⟨by (try simp only [hl5_1]); exact pk BK221.out⟩, ⟨by repeat (first | exact HB.out | apply ba_ | apply bN_ | apply b1_ | refine below_set ?_ (Aside0.out (by assumption)))⟩⟩
         ·
          rw [if_neg c19] at H
          exact absurd H (by simp)
        ·
         rw [if_neg c18] at H
         exact absurd H (by simp)
       ·
        rw [if_neg c17] at H
        have c17b0 : decide (x26_1 < (y222.length : Int)) = false := decide_eq_false c17
        have c17b9 := c17b0; (try rw [hl5_1] at c17b9)
        clear c17
        replace H := Option.bind_eq_some_iff.mp H
        obtain ⟨t229, A230, H⟩ := H
        replace H : (if 0 ≤ t229 then (if t229 < (x5_1.length : Int) then (spec_seFar.l1 k1 (x5_1.set (t229 : Int).toNat 0) y225 l0_0 a0_1) else (none)) else (none)) = some r := H
        have A23 := ak_ A230
        clear A230
        by_cases c24 : 0 ≤ t229
        ·
         rw [if_pos c24] at H
         have c24b0 : decide (0 ≤ t229) = true := decide_eq_true c24
         clear c24
         by_cases c25 : t229 < (x5_1.length : Int)
         ·
          rw [if_pos c25] at H
          have c25b0 : decide (t229 < (x5_1.length : Int)) = true := decide_eq_true c25
          clear c25
          obtain ⟨y230, hy230⟩ : ∃ y_ : List Int, y_ = (x5_1.set (t229 : Int).toNat 0) := ⟨_, rfl⟩
          replace H : (spec_seFar.l1 k1 y230 y225 l0_0 a0_1) = some r := by first | (rw [hy230]; exact H) | exact H
          have Ny230 := ak_ hy230
          clear hy230
          have H' := ak_ H
          clear H
          have hnb27 := NB221_220.out
          have hnc27 := NB220_221.out
          have hcz28_0 : wr.cell? ⟨gb221, 0, none⟩ = some (.slice A1_0 l1_0.length c1_0) := (blk_cell BK221.out 0).trans rfl
          have hcz28_1 : wr.cell? ⟨gb221, 1, none⟩ = some (.bool a1_1) := (blk_cell BK221.out 1).trans rfl
          have hfz28_0 := blk_frozen BK221.out 0
          have hfz28_1 := blk_frozen BK221.out 1
          go_wp2_with (first | ((with_reducible refine gate_callee (f := 91) rfl ?_); refine goesL_ (some 35) rfl rfl Try.func91 (by kernel_rfl) rfl #[.agg #[.slice A1_0 l1_0.length c1_0, .bool a1_1]] rfl (by first | rfl | (simp only [map_toArray, map_cons, map_nil]; try rfl)) ?_; (with_reducible refine (spec_seIndex.calls k1 _ _ l1_0 a1_1 t229 _ ?side1 ?side2 A23.out).mono ?_); (case side1 => repeat (first | exact (Kd.C_below HR1_0.out HB.out) | (with_reducible refine Kd.C_alloc ?_ _) | (with_reducible refine Kd.C_drewN ?_ _) | (with_reducible refine Kd.C_drew ?_))); (case side2 => exact HC1_0.out); rintro e w29 ⟨rfl, hb⟩; refine ⟨_, rfl, ?_⟩; have n0_ := ak_ (Kd.R_below (Kd.pR HO_5.out) hb); have n1_ := ak_ (Kd.R_below (Kd.pR HO_6.out) hb); have n2_ := ak_ (blk_below (pk BK220.out) hb); have n3_ := ak_ (blk_below (pk BK221.out) hb); have n4_ := ak_ (bs_ (by repeat (first | exact HB.out | apply ba_ | apply bN_ | apply b1_ | refine below_set ?_ (Aside0.out (by assumption)))) hb); clear HO_5; clear HO_6; clear BK220; clear BK221; clear HB; have HO_5 := n0_; have HO_6 := n1_; have BK220 := n2_; have BK221 := n3_; have HB := n4_; clear n0_ n1_ n2_ n3_ n4_; (try clear hb); (try clear hb2); (try clear hk); (try clear hi); have p26 : 0 ≤ (t229 : Int) := odt_ (by assumption); have q26 : (t229 : Int) < ((x5_1.length : Int) : Int) := odt_ (by assumption); obtain ⟨go26, co26, eo26, gb26, gl26, cl26, HG26⟩ := Kd.R_form HO_5.out (by omega); (first | cases eo26 | (injection eo26 with ea_ en_ ec_; (first | subst ea_ | (injection ea_ with ea_; subst ea_)); subst ec_; clear en_)); have GB26 := ak_ gb26; have GG26 := ak_ HG26; clear gb26 gl26 HG26; obtain ⟨hx26_0, hf26_0⟩ := Kd.R_celln 0 HO_5.out (t229 : Int) p26 q26; replace p26 := eq_true p26; replace q26 := eq_true q26; obtain ⟨hy30_, hz30_⟩ := Kd.R_celln 0 HO_5.out (t229 : Int) (odt_ (by assumption)) (odt_ (by assumption)); have HP30 := Kd.R_putg HO_5.out (t229 : Int) 0) | ((with_reducible refine gate_store (t := 3) (p := 36) rfl ?_); refine store_event (t := 3) (p := 36) (v := ?vo_w31) (w1 := (w29.setCell ⟨go26, (t229 : Int).toNat, none⟩ (.int .i64 0))) ?hg ?ho ?hn ?hr ?_; (case ho => rfl); (case hg => rfl); (case hn => rfl); (case hr => go_simp <;> rfl); intro w31 hw; have hg : w29.grownBy w31 (some go26) := (by rw [hw]; exact HP30.2); have hp_ : Kd.R (Kd.int .i64) 3 w31 w.heap.size (fun _ => True) (.slice (some ⟨go26, 0, none⟩) x5_1.length co14) y230 := (by rw [hw, Ny230.out]; exact HP30.1); clear HP30; have n0_ := ak_ (hp_); have n1_ := ak_ (Kd.R_over' (v := (.slice (some ⟨go26, 0, none⟩) x5_1.length co14)) (Kd.pR HO_6.out) (Kd.R_typed HO_5.out) (by decide) hg); have n2_ := ak_ (blk_grown (pk BK220.out) hg (Kd.R_ne HO_5.out BK220.out (by decide))); have n3_ := ak_ (blk_grown (pk BK221.out) hg (Kd.R_ne HO_5.out BK221.out (by decide))); have n4_ := ak_ ((by rw [hw]; exact below_set (HB.out) GB26.out : Below w.heap.size w w31)); clear HO_5; clear HO_6; clear BK220; clear BK221; clear HB; have HO_5 := n0_; have HO_6 := n1_; have BK220 := n2_; have BK221 := n3_; have HB := n4_; clear n0_ n1_ n2_ n3_ n4_; clear hg hw hp_))
          go_loopg [] k1 (fun kq w' => ∃ (x5_2 : List Int) (x6_2 : List Bool), Aside0 (spec_seFar.l1 kq x5_2 x6_2 l0_0 a0_1 = some r) ∧ Aside0 (kq ≤ k1) ∧ Aside0 (Kd.R (Kd.int .i64) 3 w' w.heap.size (fun _ => True) (.slice (some ⟨go26, 0, none⟩) x5_1.length co14) x5_2) ∧ Aside0 (Kd.R Kd.bool 4 w' w.heap.size (fun _ => True) v226 x6_2) ∧ Aside0 (w'.heap[gb220]? = some (.cells #[(.slice A0_0 l0_0.length c0_0), .int .i64 a0_1] 34 (0, 0))) ∧ Aside0 (w'.heap[gb221]? = some (.cells #[(.slice A1_0 l1_0.length c1_0), .bool a1_1] 115 (0, 0))) ∧ Aside0 (Below w.heap.size w w'))
          case atStart => exact ⟨(y230), (y225), H', ⟨Nat.le_refl _⟩, ⟨by (try simp only [hl5_1]); exact Kd.pR HO_5.out⟩, ⟨by (try simp only [hl5_1]); exact Kd.pR HO_6.out⟩, ⟨by (try simp only [hl5_1]); exact pk BK220.out⟩, ⟨by (try simp only [hl5_1]); exact pk BK221.out⟩, ⟨by repeat (first | exact HB.out | apply ba_ | apply bN_ | apply b1_ | refine below_set ?_ (Aside0.out (by assumption)))⟩⟩
          case round =>
           clear H'
           try clear c1
           try clear c2
           try clear p2
           try clear q2
           try clear hx2
           try clear hf2
           try clear c4
           try clear c4b0
           try clear c4b1
           try clear c5
           try clear c5b0
           try clear c5b1
           try clear c6
           try clear c6b0
           try clear c6b1
           try clear p6
           try clear c7
           try clear c7b0
           try clear c7b1
           try clear c8
           try clear c9
           try clear c10
           try clear c17
           try clear c17b0
           try clear c18
           try clear c18b0
           try clear c19
           try clear c19b0
           try clear p20
           try clear q20
           try clear hx20
           try clear hf20
           try clear c24
           try clear c24b0
           try clear c25
           try clear c25b0
           try clear p26
           try clear q26
           try clear hx26
           try clear hf26
           try clear c27
           try clear hcz11_0
           try clear hcz11_1
           try clear hcz28_0
           try clear hcz28_1
           try clear hfz11_0
           try clear hfz11_1
           try clear hfz28_0
           try clear hfz28_1
           try clear hx20_0
           try clear hx26_0
           try clear p2
           try clear p20
           try clear p26
           try clear p6
           try clear q20
           try clear q26
           obtain ⟨x5_2, x6_2, HA, HK2, HO_5, HO_6, BK220, BK221, HB⟩ := hrel
           have hl5_2 := (Kd.R_reads' HO_5.out).1
           rw [hl5_2] at HO_5
           (try simp only [hl5_2])
           (try simp only [hl5_2] at BK220)
           (try simp only [hl5_2] at BK221)
           (try simp only [hl5_2] at HO_6)
           cases gk with
           | zero => exact absurd HA.out (by simp [spec_seFar.l1])
           | succ k2 =>
            have H := HA.out
            clear HA
            simp only [spec_seFar.l1] at H
            have H' := ak_ H
            clear H
            go_wp2
            go_loopg [8, 39] k2 (fun kq v8 v39 w' => ∃ (x8_3 : Int) (x39_3 : Int), v8 = .int .i64 x8_3 ∧ v39 = .int .i64 x39_3 ∧ Aside0 (spec_seFar.l2 kq x5_2 x6_2 x8_3 x5_2 (x5_2.length : Int) x39_3 l0_0 a0_1 = some r) ∧ Aside0 (kq ≤ k2) ∧ Aside0 (Kd.R (Kd.int .i64) 3 w' w.heap.size (fun _ => True) (.slice (some ⟨go26, 0, none⟩) x5_2.length co14) x5_2) ∧ Aside0 (Kd.R Kd.bool 4 w' w.heap.size (fun _ => True) v226 x6_2) ∧ Aside0 (Kd.R (Kd.int .i64) 3 w' w.heap.size (fun _ => True) (.slice (some ⟨go26, 0, none⟩) x5_2.length co14) x5_2) ∧ Aside0 (w'.heap[gb220]? = some (.cells #[(.slice A0_0 l0_0.length c0_0), .int .i64 a0_1] 34 (0, 0))) ∧ Aside0 (w'.heap[gb221]? = some (.cells #[(.slice A1_0 l1_0.length c1_0), .bool a1_1] 115 (0, 0))) ∧ Aside0 (Below w.heap.size w w'))
            case atStart => exact ⟨((-1)), (0), (by first | rfl | (simp; done) | (simp [*]; done)), (by first | rfl | (simp; done) | (simp [*]; done)), H', ⟨Nat.le_refl _⟩, ⟨by (try simp only [hl5_1, hl5_2]); exact Kd.pR HO_5.out⟩, ⟨by (try simp only [hl5_1, hl5_2]); exact Kd.pR HO_6.out⟩, ⟨by (try simp only [hl5_1, hl5_2]); exact Kd.pR HO_5.out⟩, ⟨by (try simp only [hl5_1, hl5_2]); exact pk BK220.out⟩, ⟨by (try simp only [hl5_1, hl5_2]); exact pk BK221.out⟩, ⟨by repeat (first | exact HB.out | apply ba_ | apply bN_ | apply b1_ | refine below_set ?_ (Aside0.out (by assumption)))⟩⟩
            case round =>
             clear H'
             try clear c1
             try clear c2
             try clear p2
             try clear q2
             try clear hx2
             try clear hf2
             try clear c4
             try clear c4b0
             try clear c4b1
             try clear c5
             try clear c5b0
             try clear c5b1
             try clear c6
             try clear c6b0
             try clear c6b1
             try clear p6
             try clear c7
             try clear c7b0
             try clear c7b1
             try clear c8
             try clear c9
             try clear c10
             try clear c17
             try clear c17b0
             try clear c18
             try clear c18b0
             try clear c19
             try clear c19b0
             try clear p20
             try clear q20
             try clear hx20
             try clear hf20
             try clear c24
             try clear c24b0
             try clear c25
             try clear c25b0
             try clear p26
             try clear q26
             try clear hx26
             try clear hf26
             try clear c27
             try clear hcz11_0
             try clear hcz11_1
             try clear hcz28_0
             try clear hcz28_1
             try clear hfz11_0
             try clear hfz11_1
             try clear hfz28_0
             try clear hfz28_1
             try clear hx20_0
             try clear hx26_0
             try clear p2
             try clear p20
             try clear p26
             try clear p6
             try clear q2
             try clear q20
             try clear q26
             obtain ⟨x8_3, x39_3, rfl, rfl, HA, HK3, HO_5, HO_6, HO_37, BK220, BK221, HB⟩ := hrel
             cases gk with
             | zero => exact absurd HA.out (by simp [spec_seFar.l2])
             | succ k3 =>
              have H := HA.out
              clear HA
              simp only [spec_seFar.l2] at H
              by_cases c32 : x39_3 < (x5_2.length : Int)
              ·
               rw [if_pos c32] at H
               have c32b0 : decide (x39_3 < (x5_2.length : Int)) = true := decide_eq_true c32
               clear c32
               by_cases c33 : 0 ≤ x39_3
               ·
                rw [if_pos c33] at H
                have c33b0 : decide (0 ≤ x39_3) = true := decide_eq_true c33
                clear c33
                by_cases c34 : x39_3 < (x5_2.length : Int)
                ·
                 rw [if_pos c34] at H
                 have c34b0 : decide (x39_3 < (x5_2.length : Int)) = true := decide_eq_true c34
                 clear c34
                 have HC35 := ak_ H
                 clear H
                 have p231 : 0 ≤ (x39_3 : Int) := odt_ (by assumption)
                 have q231 : x39_3 < (x5_2.length : Int) := odt_ (by assumption)
                 obtain ⟨ad231, e231, hx231_0⟩ := Kd.at_int (Kd.R_reads' HO_37.out).2.2 x39_3 p231 q231
                 obtain rfl : (⟨go26, 0, none⟩ : Addr) = ad231 := (by injection e231)
                 (first | simp only [add_plain] at hx231_0 | simp only [add_at] at hx231_0 | simp only [Addr.add, Nat.zero_add] at hx231_0 | skip)
                 replace p231 := eq_true p231
                 replace q231 := eq_true q231
                 go_upto_region 13 with (fail)
                 have H := HC35.out
                 clear HC35
                 by_cases c36 : x39_3 < (x6_2.length : Int)
                 ·
                  rw [if_pos c36] at H
                  have c36b0 : decide (x39_3 < (x6_2.length : Int)) = true := decide_eq_true c36
                  clear c36
                  obtain ⟨bq37, hbq37⟩ : ∃ b_ : Bool, b_ = (rdOf false x6_2 x39_3) := ⟨_, rfl⟩
                  replace H : (if bq37 = true then (spec_seFar.l2 k3 x5_2 x6_2 x8_3 x5_2 (x5_2.length : Int) (wrap64 (x39_3 + 1)) l0_0 a0_1) else (if (rd x5_2 x39_3) ≥ 0 then (if x8_3 < 0 then (spec_seFar.l2 k3 x5_2 x6_2 x39_3 x5_2 (x5_2.length : Int) (wrap64 (x39_3 + 1)) l0_0 a0_1) else (if 0 ≤ x8_3 then (if x8_3 < (x5_2.length : Int) then (if (rd x5_2 x39_3) < (rd x5_2 x8_3) then (spec_seFar.l2 k3 x5_2 x6_2 x39_3 x5_2 (x5_2.length : Int) (wrap64 (x39_3 + 1)) l0_0 a0_1) else (spec_seFar.l2 k3 x5_2 x6_2 x8_3 x5_2 (x5_2.length : Int) (wrap64 (x39_3 + 1)) l0_0 a0_1)) else (none)) else (none))) else (spec_seFar.l2 k3 x5_2 x6_2 x8_3 x5_2 (x5_2.length : Int) (wrap64 (x39_3 + 1)) l0_0 a0_1))) = some r := by rw [← hbq37] at H; exact H
                  have Nbq37 := ak_ hbq37
                  clear hbq37
                  by_cases c38 : bq37 = true
                  ·
                   subst c38
                   have H1 : (spec_seFar.l2 k3 x5_2 x6_2 x8_3 x5_2 (x5_2.length : Int) (wrap64 (x39_3 + 1)) l0_0 a0_1) = some r := by rw [if_pos rfl] at H; exact H
                   clear H
                   have H := H1
                   clear H1
                   have H' := ak_ H
                   clear H
                   obtain ⟨Ao39, co39, eo39⟩ := Kd.R_slice HO_6.out
                   subst eo39
                   have p232 : 0 ≤ (x39_3 : Int) := odt_ (by assumption)
                   have q232 : x39_3 < (x6_2.length : Int) := odt_ (by assumption)
                   obtain ⟨ad232, e232, hx232_0⟩ := Kd.at_bool (Kd.R_reads' HO_6.out).2.2 x39_3 p232 q232
                   (try rw [← Nbq37.out] at hx232_0)
                   cases e232
                   replace p232 := eq_true p232
                   replace q232 := eq_true q232
                   go_wp2
                   go_roundg k3
                   case measure => have := HK1.out; have := HK2.out; have := HK3.out; omega
                   case rel => exact ⟨(x8_3), (wrap64 (x39_3 + 1)), (by first | rfl | (simp; done) | (simp [*]; done)), (by first | rfl | (simp; done) | (simp [*]; done)), H', ⟨by have := HK1.out; have := HK2.out; have := HK3.out; omega⟩, ⟨by (try simp only [hl5_1, hl5_2]); exact Kd.pR HO_5.out⟩, ⟨by (try simp only [hl5_1, hl5_2]); exact Kd.pR HO_6.out⟩, ⟨by (try simp only [hl5_1, hl5_2]); exact Kd.pR HO_37.out⟩, ⟨by (try simp only [hl5_1, hl5_2]); exact pk BK220.out⟩, ⟨by (try simp only [hl5_1, hl5_2]); exact pk BK221.out⟩, ⟨by repeat (first | exact HB.out | apply ba_ | apply bN_ | apply b1_ | refine below_set ?_ (Aside0.out (by assumption)))⟩⟩
                  ·
                   replace c38 := Bool.eq_false_iff.mpr c38
                   subst c38
                   have H1 : (if (rd x5_2 x39_3) ≥ 0 then (if x8_3 < 0 then (spec_seFar.l2 k3 x5_2 x6_2 x39_3 x5_2 (x5_2.length : Int) (wrap64 (x39_3 + 1)) l0_0 a0_1) else (if 0 ≤ x8_3 then (if x8_3 < (x5_2.length : Int) then (if (rd x5_2 x39_3) < (rd x5_2 x8_3) then (spec_seFar.l2 k3 x5_2 x6_2 x39_3 x5_2 (x5_2.length : Int) (wrap64 (x39_3 + 1)) l0_0 a0_1) else (spec_seFar.l2 k3 x5_2 x6_2 x8_3 x5_2 (x5_2.length : Int) (wrap64 (x39_3 + 1)) l0_0 a0_1)) else (none)) else (none))) else (spec_seFar.l2 k3 x5_2 x6_2 x8_3 x5_2 (x5_2.length : Int) (wrap64 (x39_3 + 1)) l0_0 a0_1)) = some r := by rw [if_neg (show ¬ (false = true) by decide)] at H; exact H
                   clear H
                   have H := H1
                   clear H1
                   by_cases c40 : (rd x5_2 x39_3) ≥ 0
                   ·
                    rw [if_pos c40] at H
                    have c40b0 : decide (0 ≤ (rd x5_2 x39_3)) = true := decide_eq_true c40
                    clear c40
                    by_cases c41 : x8_3 < 0
                    ·
                     rw [if_pos c41] at H
                     have c41b0 : decide (x8_3 < 0) = true := decide_eq_true c41
                     clear c41
                     have H' := ak_ H
                     clear H
                     obtain ⟨Ao42, co42, eo42⟩ := Kd.R_slice HO_6.out
                     subst eo42
                     have p232 : 0 ≤ (x39_3 : Int) := odt_ (by assumption)
                     have q232 : x39_3 < (x6_2.length : Int) := odt_ (by assumption)
                     obtain ⟨ad232, e232, hx232_0⟩ := Kd.at_bool (Kd.R_reads' HO_6.out).2.2 x39_3 p232 q232
                     (try rw [← Nbq37.out] at hx232_0)
                     cases e232
                     replace p232 := eq_true p232
                     replace q232 := eq_true q232
                     go_wp2
                     go_roundg k3
                     case measure => have := HK1.out; have := HK2.out; have := HK3.out; omega
                     case rel => exact ⟨(x39_3), (wrap64 (x39_3 + 1)), (by first | rfl | (simp; done) | (simp [*]; done)), (by first | rfl | (simp; done) | (simp [*]; done)), H', ⟨by have := HK1.out; have := HK2.out; have := HK3.out; omega⟩, ⟨by (try simp only [hl5_1, hl5_2]); exact Kd.pR HO_5.out⟩, ⟨by (try simp only [hl5_1, hl5_2]); exact Kd.pR HO_6.out⟩, ⟨by (try simp only [hl5_1, hl5_2]); exact Kd.pR HO_37.out⟩, ⟨by (try simp only [hl5_1, hl5_2]); exact pk BK220.out⟩, ⟨by (try simp only [hl5_1, hl5_2]); exact pk BK221.out⟩, ⟨by repeat (first | exact HB.out | apply ba_ | apply bN_ | apply b1_ | refine below_set ?_ (Aside0.out (by assumption)))⟩⟩
                    ·
                     rw [if_neg c41] at H
                     have c41b0 : decide (x8_3 < 0) = false := decide_eq_false c41
                     clear c41
                     by_cases c43 : 0 ≤ x8_3
                     ·
                      rw [if_pos c43] at H
                      have c43b0 : decide (0 ≤ x8_3) = true := decide_eq_true c43
                      clear c43
                      by_cases c44 : x8_3 < (x5_2.length : Int)
                      ·
                       rw [if_pos c44] at H
                       have c44b0 : decide (x8_3 < (x5_2.length : Int)) = true := decide_eq_true c44
                       clear c44
                       have HC45 := ak_ H
                       clear H
                       obtain ⟨Ao46, co46, eo46⟩ := Kd.R_slice HO_6.out
                       subst eo46
                       have p232 : 0 ≤ (x39_3 : Int) := odt_ (by assumption)
                       have q232 : x39_3 < (x6_2.length : Int) := odt_ (by assumption)
                       obtain ⟨ad232, e232, hx232_0⟩ := Kd.at_bool (Kd.R_reads' HO_6.out).2.2 x39_3 p232 q232
                       (try rw [← Nbq37.out] at hx232_0)
                       cases e232
                       replace p232 := eq_true p232
                       replace q232 := eq_true q232
                       have p233 : 0 ≤ (x8_3 : Int) := odt_ (by assumption)
                       have q233 : x8_3 < (x5_2.length : Int) := odt_ (by assumption)
                       obtain ⟨ad233, e233, hx233_0⟩ := Kd.at_int (Kd.R_reads' HO_5.out).2.2 x8_3 p233 q233
                       obtain rfl : (⟨go26, 0, none⟩ : Addr) = ad233 := (by injection e233)
                       (first | simp only [add_plain] at hx233_0 | simp only [add_at] at hx233_0 | simp only [Addr.add, Nat.zero_add] at hx233_0 | skip)
                       replace p233 := eq_true p233
                       replace q233 := eq_true q233
                       go_upto_if 64 with (fail)
                       have H := HC45.out
                       clear HC45
                       by_cases c47 : (rd x5_2 x39_3) < (rd x5_2 x8_3)
                       ·
                        rw [if_pos c47] at H
                        have c47b0 : decide ((rd x5_2 x39_3) < (rd x5_2 x8_3)) = true := decide_eq_true c47
                        clear c47
                        (first | rw [c47b0] | (simp only [i64_w, i32_w]; rw [c47b0]) | rw [c47b1] | skip)
                        have H' := ak_ H
                        clear H
                        go_wp2
                        go_roundg k3
                        case measure => have := HK1.out; have := HK2.out; have := HK3.out; omega
                        case rel => exact ⟨(x39_3), (wrap64 (x39_3 + 1)), (by first | rfl | (simp; done) | (simp [*]; done)), (by first | rfl | (simp; done) | (simp [*]; done)), H', ⟨by have := HK1.out; have := HK2.out; have := HK3.out; omega⟩, ⟨by (try simp only [hl5_1, hl5_2]); exact Kd.pR HO_5.out⟩, ⟨by (try simp only [hl5_1, hl5_2]); exact Kd.pR HO_6.out⟩, ⟨by (try simp only [hl5_1, hl5_2]); exact Kd.pR HO_37.out⟩, ⟨by (try simp only [hl5_1, hl5_2]); exact pk BK220.out⟩, ⟨by (try simp only [hl5_1, hl5_2]); exact pk BK221.out⟩, ⟨by repeat (first | exact HB.out | apply ba_ | apply bN_ | apply b1_ | refine below_set ?_ (Aside0.out (by assumption)))⟩⟩
                       ·
                        rw [if_neg c47] at H
                        have c47b0 : decide ((rd x5_2 x39_3) < (rd x5_2 x8_3)) = false := decide_eq_false c47
                        clear c47
                        (first | rw [c47b0] | (simp only [i64_w, i32_w]; rw [c47b0]) | rw [c47b1] | skip)
                        have H' := ak_ H
                        clear H
                        go_wp2
                        go_roundg k3
                        case measure => have := HK1.out; have := HK2.out; have := HK3.out; omega
                        case rel => exact ⟨(x8_3), (wrap64 (x39_3 + 1)), (by first | rfl | (simp; done) | (simp [*]; done)), (by first | rfl | (simp; done) | (simp [*]; done)), H', ⟨by have := HK1.out; have := HK2.out; have := HK3.out; omega⟩, ⟨by (try simp only [hl5_1, hl5_2]); exact Kd.pR HO_5.out⟩, ⟨by (try simp only [hl5_1, hl5_2]); exact Kd.pR HO_6.out⟩, ⟨by (try simp only [hl5_1, hl5_2]); exact Kd.pR HO_37.out⟩, ⟨by (try simp only [hl5_1, hl5_2]); exact pk BK220.out⟩, ⟨by (try simp only [hl5_1, hl5_2]); exact pk BK221.out⟩, ⟨by repeat (first | exact HB.out | apply ba_ | apply bN_ | apply b1_ | refine below_set ?_ (Aside0.out (by assumption)))⟩⟩
                      ·
                       rw [if_neg c44] at H
                       exact absurd H (by simp)
                     ·
                      rw [if_neg c43] at H
                      exact absurd H (by simp)
                   ·
                    rw [if_neg c40] at H
                    have c40b0 : decide (0 ≤ (rd x5_2 x39_3)) = false := decide_eq_false c40
                    clear c40
                    have H' := ak_ H
                    clear H
                    obtain ⟨Ao48, co48, eo48⟩ := Kd.R_slice HO_6.out
                    subst eo48
                    have p232 : 0 ≤ (x39_3 : Int) := odt_ (by assumption)
                    have q232 : x39_3 < (x6_2.length : Int) := odt_ (by assumption)
                    obtain ⟨ad232, e232, hx232_0⟩ := Kd.at_bool (Kd.R_reads' HO_6.out).2.2 x39_3 p232 q232
                    (try rw [← Nbq37.out] at hx232_0)
                    cases e232
                    replace p232 := eq_true p232
                    replace q232 := eq_true q232
                    go_wp2
                    go_roundg k3
                    case measure => have := HK1.out; have := HK2.out; have := HK3.out; omega
                    case rel => exact ⟨(x8_3), (wrap64 (x39_3 + 1)), (by first | rfl | (simp; done) | (simp [*]; done)), (by first | rfl | (simp; done) | (simp [*]; done)), H', ⟨by have := HK1.out; have := HK2.out; have := HK3.out; omega⟩, ⟨by (try simp only [hl5_1, hl5_2]); exact Kd.pR HO_5.out⟩, ⟨by (try simp only [hl5_1, hl5_2]); exact Kd.pR HO_6.out⟩, ⟨by (try simp only [hl5_1, hl5_2]); exact Kd.pR HO_37.out⟩, ⟨by (try simp only [hl5_1, hl5_2]); exact pk BK220.out⟩, ⟨by (try simp only [hl5_1, hl5_2]); exact pk BK221.out⟩, ⟨by repeat (first | exact HB.out | apply ba_ | apply bN_ | apply b1_ | refine below_set ?_ (Aside0.out (by assumption)))⟩⟩
                 ·
                  rw [if_neg c36] at H
                  exact absurd H (by simp)
                ·
                 rw [if_neg c34] at H
                 exact absurd H (by simp)
               ·
                rw [if_neg c33] at H
                exact absurd H (by simp)
              ·
               rw [if_neg c32] at H
               have c32b0 : decide (x39_3 < (x5_2.length : Int)) = false := decide_eq_false c32
               clear c32
               by_cases c49 : x8_3 < 0
               ·
                rw [if_pos c49] at H
                have c49b0 : decide (x8_3 < 0) = true := decide_eq_true c49
                clear c49
                obtain rfl := Option.some.inj H
                go_wp2
                go_ret
                exact ⟨_, by first | rfl | (simp [errW_none, errW_some] <;> rfl) | (simp only [← hji3]; first | rfl | (simp [errW_none, errW_some] <;> rfl)) | (simp [*, errW_none, errW_some] <;> rfl), by (with_reducible repeat (first | apply Kd.R_alloc | apply Kd.R_drewN | apply Kd.R_drew)); exact HO_5.out, by repeat (first | exact HB.out | apply ba_ | apply bN_ | apply b1_ | refine below_set ?_ (Aside0.out (by assumption)))⟩
               ·
                rw [if_neg c49] at H
                have c49b0 : decide (x8_3 < 0) = false := decide_eq_false c49
                clear c49
                by_cases c50 : 0 ≤ x8_3
                ·
                 rw [if_pos c50] at H
                 have c50b0 : decide (0 ≤ x8_3) = true := decide_eq_true c50
                 clear c50
                 by_cases c51 : x8_3 < (x6_2.length : Int)
                 ·
                  rw [if_pos c51] at H
                  have c51b0 : decide (x8_3 < (x6_2.length : Int)) = true := decide_eq_true c51
                  clear c51
                  obtain ⟨y234, hy234⟩ : ∃ y_ : List Bool, y_ = (x6_2.set (x8_3 : Int).toNat true) := ⟨_, rfl⟩
                  replace H : ((spec_seState.f k3 x8_3 (l0_0.length : Int)).bind fun bt235 => ((spec_paTrips.f k3 l0_0 a0_1 bt235.1 bt235.2).bind fun t240 => (spec_seFar.l3 k3 x5_2 y234 x8_3 t240 (t240.length : Int) 0 l0_0 a0_1 bt235.1 bt235.2))) = some r := by first | (rw [hy234]; exact H) | exact H
                  have Ny234 := ak_ hy234
                  clear hy234
                  replace H := Option.bind_eq_some_iff.mp H
                  obtain ⟨⟨t235, t238⟩, A530, H⟩ := H
                  replace H : ((spec_paTrips.f k3 l0_0 a0_1 t235 t238).bind fun t240 => (spec_seFar.l3 k3 x5_2 y234 x8_3 t240 (t240.length : Int) 0 l0_0 a0_1 t235 t238)) = some r := H
                  have A53 := ak_ A530
                  clear A530
                  replace H := Option.bind_eq_some_iff.mp H
                  obtain ⟨t240, A540, H⟩ := H
                  replace H : (spec_seFar.l3 k3 x5_2 y234 x8_3 t240 (t240.length : Int) 0 l0_0 a0_1 t235 t238) = some r := H
                  have A54 := ak_ A540
                  clear A540
                  have H' := ak_ H
                  clear H
                  have p52 : 0 ≤ (x8_3 : Int) := odt_ (by assumption)
                  have q52 : (x8_3 : Int) < ((x6_2.length : Int) : Int) := odt_ (by assumption)
                  obtain ⟨go52, co52, eo52, gb52, gl52, cl52, HG52⟩ := Kd.R_form HO_6.out (by omega)
                  (first | cases eo52 | (injection eo52 with ea_ en_ ec_; (first | subst ea_ | (injection ea_ with ea_; subst ea_)); subst ec_; clear en_))
                  have GB52 := ak_ gb52
                  have GG52 := ak_ HG52
                  clear gb52 gl52 HG52
                  obtain ⟨hx52_0, hf52_0⟩ := Kd.R_celln false HO_6.out (x8_3 : Int) p52 q52
                  replace p52 := eq_true p52
                  replace q52 := eq_true q52
                  have HP55 := Kd.R_putg HO_6.out (x8_3 : Int) true
                  go_wp2_with (first | ((with_reducible refine gate_store (t := 4) (p := 72) rfl ?_); refine store_event (t := 4) (p := 72) (v := ?vo_w56) (w1 := (wr.setCell ⟨go52, (x8_3 : Int).toNat, none⟩ (.bool true))) ?hg ?ho ?hn ?hr ?_; (case ho => rfl); (case hg => rfl); (case hn => rfl); (case hr => go_simp <;> rfl); intro w56 hw; have hg : wr.grownBy w56 (some go52) := (by rw [hw]; exact HP55.2); have hp_ : Kd.R Kd.bool 4 w56 w.heap.size (fun _ => True) (.slice (some ⟨go52, 0, none⟩) x6_2.length co52) y234 := (by rw [hw, Ny234.out]; exact HP55.1); clear HP55; have n0_ := ak_ (Kd.R_over' (v := (.slice (some ⟨go52, 0, none⟩) x6_2.length co52)) (Kd.pR HO_5.out) (Kd.R_typed HO_6.out) (by decide) hg); have n1_ := ak_ (hp_); have n2_ := ak_ (Kd.R_over' (v := (.slice (some ⟨go52, 0, none⟩) x6_2.length co52)) (Kd.pR HO_37.out) (Kd.R_typed HO_6.out) (by decide) hg); have n3_ := ak_ (blk_grown (pk BK220.out) hg (Kd.R_ne HO_6.out BK220.out (by decide))); have n4_ := ak_ (blk_grown (pk BK221.out) hg (Kd.R_ne HO_6.out BK221.out (by decide))); have n5_ := ak_ ((by rw [hw]; exact below_set (HB.out) GB52.out : Below w.heap.size w w56)); clear HO_5; clear HO_6; clear HO_37; clear BK220; clear BK221; clear HB; have HO_5 := n0_; have HO_6 := n1_; have HO_37 := n2_; have BK220 := n3_; have BK221 := n4_; have HB := n5_; clear n0_ n1_ n2_ n3_ n4_ n5_; clear hg hw hp_; have hnb57 := NB220_221.out; have hnc57 := NB221_220.out; have hcz58_0 : w56.cell? ⟨gb220, 0, none⟩ = some (.slice A0_0 l0_0.length c0_0) := (blk_cell BK220.out 0).trans rfl; have hcz58_1 : w56.cell? ⟨gb220, 1, none⟩ = some (.int .i64 a0_1) := (blk_cell BK220.out 1).trans rfl; have hfz58_0 := blk_frozen BK220.out 0; have hfz58_1 := blk_frozen BK220.out 1) | ((with_reducible refine gate_callee (f := 94) rfl ?_); refine goesL_ (some 77) rfl rfl Try.func94 (by kernel_rfl) rfl #[.int .i64 x8_3, .int .i64 (l0_0.length : Int)] rfl (by first | rfl | (simp only [map_toArray, map_cons, map_nil]; try rfl)) ?_; (with_reducible refine (spec_seState.calls k3 x8_3 (l0_0.length : Int) t235 t238 _ A53.out).mono ?_); rintro e w59 ⟨v236, rfl, ho0, hb⟩; refine ⟨_, rfl, ?_⟩; have n0_ := ak_ (Kd.R_below (Kd.pR HO_5.out) hb); have n1_ := ak_ (Kd.R_elder' (Kd.pR HO_6.out) (Kd.R_base ho0) hb); have n2_ := ak_ (Kd.R_below (Kd.pR HO_37.out) hb); have n3_ := ak_ (Kd.R_lower (Kd.R_new' ho0 (Kd.R_lt (Kd.pR HO_6.out))) (bz_ (by repeat (first | exact HB.out | apply ba_ | apply bN_ | apply b1_ | refine below_set ?_ (Aside0.out (by assumption)))))); have n4_ := ak_ (blk_below (pk BK220.out) hb); have n5_ := ak_ (blk_below (pk BK221.out) hb); have n6_ := ak_ (bs_ (by repeat (first | exact HB.out | apply ba_ | apply bN_ | apply b1_ | refine below_set ?_ (Aside0.out (by assumption)))) hb); clear HO_5; clear HO_6; clear HO_37; clear BK220; clear BK221; clear HB; have HO_5 := n0_; have HO_6 := n1_; have HO_37 := n2_; have HO237 := n3_; have BK220 := n4_; have BK221 := n5_; have HB := n6_; clear n0_ n1_ n2_ n3_ n4_ n5_ n6_; (try clear hb); (try clear hb2); (try clear hk); (try clear hi); (try clear ho0)) | ((with_reducible refine gate_dst (N := 11) rfl ?_); refine box_event ?hg (N := 11) ?hd (cs := #[.slice none 0 0, .bool false]) (t := 115) ?hr ?_; (case hd => rfl); (case hg => rfl); (case hr => go_simp <;> rfl); intro gb239 hg w60 hbox hb; have n0_ := ak_ (Kd.R_below (Kd.pR HO_5.out) hb); have n1_ := ak_ (Kd.R_below (Kd.pR HO_6.out) hb); have n2_ := ak_ (Kd.R_below (Kd.pR HO_37.out) hb); have n3_ := ak_ (Kd.R_below (Kd.pR HO237.out) hb); have n4_ := ak_ (blk_below (pk BK220.out) hb); have n5_ := ak_ (blk_below (pk BK221.out) hb); have n6_ := ak_ (bs_ (by repeat (first | exact HB.out | apply ba_ | apply bN_ | apply b1_ | refine below_set ?_ (Aside0.out (by assumption)))) hb); have n7_ := ak_ (hbox); have n8_ := ak_ ((by rw [hg]; exact (bz_ (by repeat (first | exact HB.out | apply ba_ | apply bN_ | apply b1_ | refine below_set ?_ (Aside0.out (by assumption))))) : w.heap.size ≤ gb239)); have n9_ := n8_; have n10_ := ak_ ((by rw [hg]; exact Nat.ne_of_lt (blk_lt (pk BK220.out)) : gb220 ≠ gb239)); have n11_ := ak_ n10_.out.symm; have n12_ := ak_ ((by rw [hg]; exact Nat.ne_of_lt (blk_lt (pk BK221.out)) : gb221 ≠ gb239)); have n13_ := ak_ n12_.out.symm; clear HO_5; clear HO_6; clear HO_37; clear HO237; clear BK220; clear BK221; clear HB; have HO_5 := n0_; have HO_6 := n1_; have HO_37 := n2_; have HO237 := n3_; have BK220 := n4_; have BK221 := n5_; have HB := n6_; have BK239 := n7_; have GW239 := n8_; have GE239 := n9_; have NB220_239 := n10_; have NB239_220 := n11_; have NB221_239 := n12_; have NB239_221 := n13_; clear n0_ n1_ n2_ n3_ n4_ n5_ n6_ n7_ n8_ n9_ n10_ n11_ n12_ n13_; clear hb hbox hg; obtain ⟨Ao61, co61, eo61⟩ := Kd.R_slice HO237.out; subst eo61; have hnb62 := NB239_220.out; have hnc62 := NB220_239.out; have hnb63 := NB239_221.out; have hnc63 := NB221_239.out; have hcz64_0 : w60.cell? ⟨gb239, 0, none⟩ = some (.slice none 0 0) := (blk_cell BK239.out 0).trans rfl; have hcz64_1 : w60.cell? ⟨gb239, 1, none⟩ = some (.bool false) := (blk_cell BK239.out 1).trans rfl; have hfz64_0 := blk_frozen BK239.out 0; have hfz64_1 := blk_frozen BK239.out 1; have hcz65_0 : w60.cell? ⟨gb220, 0, none⟩ = some (.slice A0_0 l0_0.length c0_0) := (blk_cell BK220.out 0).trans rfl; have hcz65_1 : w60.cell? ⟨gb220, 1, none⟩ = some (.int .i64 a0_1) := (blk_cell BK220.out 1).trans rfl; have hfz65_0 := blk_frozen BK220.out 0; have hfz65_1 := blk_frozen BK220.out 1) | ((with_reducible refine gate_callee (f := 128) rfl ?_); refine goesL_ (some 80) rfl rfl Try.func128 (by kernel_rfl) rfl #[.agg #[.slice A0_0 l0_0.length c0_0, .int .i64 a0_1], .agg #[.slice Ao61 t235.length co61, .bool t238]] rfl (by first | rfl | (simp only [map_toArray, map_cons, map_nil]; try rfl)) ?_; (with_reducible refine (spec_paTrips.calls k3 _ _ l0_0 a0_1 _ _ t235 t238 t240 _ ?side1 ?side2 ?side3 ?side4 A54.out).mono ?_); (case side1 => exact Kd.C_below HR0_0.out (by repeat (first | exact HB.out | apply ba_ | apply bN_ | apply b1_ | refine below_set ?_ (Aside0.out (by assumption))))); (case side2 => exact HC0_0.out); (case side3 => refine (Kd.R_reads' (e := 4) (base := w.heap.size) (ok := fun k_ => (True ∧ some k_ ≠ (.slice (some ⟨go52, 0, none⟩) x6_2.length co52 : Value).ownBlock)) (n := t235.length) (c := co61) ?_).2.2; exact (by (with_reducible repeat (first | apply Kd.R_alloc | apply Kd.R_drewN | apply Kd.R_drew)); exact (Kd.R_mono (Kd.R_far (p := ⟨gb239, 1, none⟩) (Kd.R_far (p := ⟨gb239, 0, none⟩) (Kd.R_types HO237.out BK239.out (by decide)) (fun _ hk => hk.2) (.slice Ao61 t235.length co61)) (fun _ hk => hk.2) (.bool t238)) (fun _ h_ => h_.1)))); (case side4 => exact (Kd.R_reads' HO237.out).2.1); rintro e w66 ⟨v241, rfl, ho0, hb⟩; refine ⟨_, rfl, ?_⟩; have n0_ := ak_ (Kd.R_below (by (with_reducible repeat (first | apply Kd.R_alloc | apply Kd.R_drewN | apply Kd.R_drew)); exact (Kd.R_mono (Kd.R_far (p := ⟨gb239, 1, none⟩) (Kd.R_far (p := ⟨gb239, 0, none⟩) (Kd.R_types HO_5.out BK239.out (by decide)) (fun _ hk => hk.2) (.slice Ao61 t235.length co61)) (fun _ hk => hk.2) (.bool t238)) (fun _ h_ => h_.1))) hb); have n1_ := ak_ (Kd.R_below (by (with_reducible repeat (first | apply Kd.R_alloc | apply Kd.R_drewN | apply Kd.R_drew)); exact (Kd.R_mono (Kd.R_far (p := ⟨gb239, 1, none⟩) (Kd.R_far (p := ⟨gb239, 0, none⟩) (Kd.R_types HO_6.out BK239.out (by decide)) (fun _ hk => hk.2) (.slice Ao61 t235.length co61)) (fun _ hk => hk.2) (.bool t238)) (fun _ h_ => h_.1))) hb); have n2_ := ak_ (Kd.R_below (by (with_reducible repeat (first | apply Kd.R_alloc | apply Kd.R_drewN | apply Kd.R_drew)); exact (Kd.R_mono (Kd.R_far (p := ⟨gb239, 1, none⟩) (Kd.R_far (p := ⟨gb239, 0, none⟩) (Kd.R_types HO_37.out BK239.out (by decide)) (fun _ hk => hk.2) (.slice Ao61 t235.length co61)) (fun _ hk => hk.2) (.bool t238)) (fun _ h_ => h_.1))) hb); have n3_ := ak_ (Kd.R_below (by (with_reducible repeat (first | apply Kd.R_alloc | apply Kd.R_drewN | apply Kd.R_drew)); exact (Kd.R_mono (Kd.R_far (p := ⟨gb239, 1, none⟩) (Kd.R_far (p := ⟨gb239, 0, none⟩) (Kd.R_types HO237.out BK239.out (by decide)) (fun _ hk => hk.2) (.slice Ao61 t235.length co61)) (fun _ hk => hk.2) (.bool t238)) (fun _ h_ => h_.1))) hb); have n4_ := ak_ (Kd.N_lower (Kd.N_mono (ok' := fun k_ => some k_ ≠ (.slice (some ⟨go26, 0, none⟩) x5_2.length co14 : Value).ownBlock ∧ some k_ ≠ (.slice (some ⟨go52, 0, none⟩) x6_2.length co52 : Value).ownBlock ∧ some k_ ≠ (.slice (some ⟨go26, 0, none⟩) x5_2.length co14 : Value).ownBlock ∧ some k_ ≠ (.slice Ao61 t235.length co61 : Value).ownBlock ∧ k_ ≠ gb220 ∧ k_ ≠ gb221 ∧ k_ ≠ gb239) ho0 (fun k_ hk_ => ⟨(Kd.fresh' (Kd.R_lt (by (with_reducible repeat (first | apply Kd.R_alloc | apply Kd.R_drewN | apply Kd.R_drew)); exact (Kd.R_mono (Kd.R_far (p := ⟨gb239, 1, none⟩) (Kd.R_far (p := ⟨gb239, 0, none⟩) (Kd.R_types HO_5.out BK239.out (by decide)) (fun _ hk => hk.2) (.slice Ao61 t235.length co61)) (fun _ hk => hk.2) (.bool t238)) (fun _ h_ => h_.1)))) k_ hk_), (Kd.fresh' (Kd.R_lt (by (with_reducible repeat (first | apply Kd.R_alloc | apply Kd.R_drewN | apply Kd.R_drew)); exact (Kd.R_mono (Kd.R_far (p := ⟨gb239, 1, none⟩) (Kd.R_far (p := ⟨gb239, 0, none⟩) (Kd.R_types HO_6.out BK239.out (by decide)) (fun _ hk => hk.2) (.slice Ao61 t235.length co61)) (fun _ hk => hk.2) (.bool t238)) (fun _ h_ => h_.1)))) k_ hk_), (Kd.fresh' (Kd.R_lt (by (with_reducible repeat (first | apply Kd.R_alloc | apply Kd.R_drewN | apply Kd.R_drew)); exact (Kd.R_mono (Kd.R_far (p := ⟨gb239, 1, none⟩) (Kd.R_far (p := ⟨gb239, 0, none⟩) (Kd.R_types HO_37.out BK239.out (by decide)) (fun _ hk => hk.2) (.slice Ao61 t235.length co61)) (fun _ hk => hk.2) (.bool t238)) (fun _ h_ => h_.1)))) k_ hk_), (Kd.fresh' (Kd.R_lt (by (with_reducible repeat (first | apply Kd.R_alloc | apply Kd.R_drewN | apply Kd.R_drew)); exact (Kd.R_mono (Kd.R_far (p := ⟨gb239, 1, none⟩) (Kd.R_far (p := ⟨gb239, 0, none⟩) (Kd.R_types HO237.out BK239.out (by decide)) (fun _ hk => hk.2) (.slice Ao61 t235.length co61)) (fun _ hk => hk.2) (.bool t238)) (fun _ h_ => h_.1)))) k_ hk_), (Kd.freshB (g := gb220) (o := .cells #[.slice A0_0 l0_0.length c0_0, .int .i64 a0_1] 34 (0, 0)) (by (with_reducible repeat (first | refine kN_ ?_ _ | refine k1_ ?_ | refine ka_ ?_ _)); refine blk_far ?_ NB220_239.out _; (with_reducible repeat (first | refine kN_ ?_ _ | refine k1_ ?_ | refine ka_ ?_ _)); refine blk_far ?_ NB220_239.out _; exact pk BK220.out) k_ hk_), (Kd.freshB (g := gb221) (o := .cells #[.slice A1_0 l1_0.length c1_0, .bool a1_1] 115 (0, 0)) (by (with_reducible repeat (first | refine kN_ ?_ _ | refine k1_ ?_ | refine ka_ ?_ _)); refine blk_far ?_ NB221_239.out _; (with_reducible repeat (first | refine kN_ ?_ _ | refine k1_ ?_ | refine ka_ ?_ _)); refine blk_far ?_ NB221_239.out _; exact pk BK221.out) k_ hk_), (Kd.freshB (g := gb239) (o := .cells #[.slice Ao61 t235.length co61, .bool t238] 115 (0, 0)) (by (with_reducible repeat (first | refine kN_ ?_ _ | refine k1_ ?_ | refine ka_ ?_ _)); refine blk_put (cs := #[.slice Ao61 t235.length co61, .bool false]) ?_ 1 _ rfl; (with_reducible repeat (first | refine kN_ ?_ _ | refine k1_ ?_ | refine ka_ ?_ _)); refine blk_put (cs := #[.slice none 0 0, .bool false]) ?_ 0 _ rfl; exact pk BK239.out) k_ hk_)⟩)) (bz_ (by repeat (first | exact HB.out | apply ba_ | apply bN_ | apply b1_ | refine below_set ?_ (Aside0.out (by assumption)))))); have n5_ := ak_ (blk_below (g := gb220) (o := .cells #[.slice A0_0 l0_0.length c0_0, .int .i64 a0_1] 34 (0, 0)) (by (with_reducible repeat (first | refine kN_ ?_ _ | refine k1_ ?_ | refine ka_ ?_ _)); refine blk_far ?_ NB220_239.out _; (with_reducible repeat (first | refine kN_ ?_ _ | refine k1_ ?_ | refine ka_ ?_ _)); refine blk_far ?_ NB220_239.out _; exact pk BK220.out) hb); have n6_ := ak_ (blk_below (g := gb221) (o := .cells #[.slice A1_0 l1_0.length c1_0, .bool a1_1] 115 (0, 0)) (by (with_reducible repeat (first | refine kN_ ?_ _ | refine k1_ ?_ | refine ka_ ?_ _)); refine blk_far ?_ NB221_239.out _; (with_reducible repeat (first | refine kN_ ?_ _ | refine k1_ ?_ | refine ka_ ?_ _)); refine blk_far ?_ NB221_239.out _; exact pk BK221.out) hb); have n7_ := ak_ (blk_below (g := gb239) (o := .cells #[.slice Ao61 t235.length co61, .bool t238] 115 (0, 0)) (by (with_reducible repeat (first | refine kN_ ?_ _ | refine k1_ ?_ | refine ka_ ?_ _)); refine blk_put (cs := #[.slice Ao61 t235.length co61, .bool false]) ?_ 1 _ rfl; (with_reducible repeat (first | refine kN_ ?_ _ | refine k1_ ?_ | refine ka_ ?_ _)); refine blk_put (cs := #[.slice none 0 0, .bool false]) ?_ 0 _ rfl; exact pk BK239.out) hb); have n8_ := ak_ (bs_ (by repeat (first | exact HB.out | apply ba_ | apply bN_ | apply b1_ | refine below_set ?_ (Aside0.out (by assumption)))) hb); clear HO_5; clear HO_6; clear HO_37; clear HO237; clear BK220; clear BK221; clear BK239; clear HB; have HO_5 := n0_; have HO_6 := n1_; have HO_37 := n2_; have HO237 := n3_; have HO242 := n4_; have BK220 := n5_; have BK221 := n6_; have BK239 := n7_; have HB := n8_; clear n0_ n1_ n2_ n3_ n4_ n5_ n6_ n7_ n8_; (try clear hb); (try clear hb2); (try clear hk); (try clear hi); (try clear ho0); obtain ⟨Ao67, co67, eo67⟩ := Kd.N_slice HO242.out; subst eo67))
                  go_loopg [82] k3 (fun kq v82 w' => ∃ (x5_4 : List Int) (x82_4 : Int), v82 = .int .i64 x82_4 ∧ Aside0 (spec_seFar.l3 kq x5_4 y234 x8_3 t240 (t240.length : Int) x82_4 l0_0 a0_1 t235 t238 = some r) ∧ Aside0 (kq ≤ k3) ∧ Aside0 (Kd.R (Kd.int .i64) 3 w' w.heap.size (fun _ => True) (.slice (some ⟨go26, 0, none⟩) x5_2.length co14) x5_4) ∧ Aside0 (Kd.R Kd.bool 4 w' w.heap.size (fun k_ => some k_ ≠ ((.slice Ao61 t235.length co61) : Value).ownBlock) (.slice (some ⟨go52, 0, none⟩) x6_2.length co52) y234) ∧ Aside0 (Kd.N (Kd.slice 3 (Kd.int .i64)) 29 w' w.heap.size (fun k_ => some k_ ≠ ((.slice (some ⟨go26, 0, none⟩) x5_2.length co14) : Value).ownBlock ∧ some k_ ≠ ((.slice (some ⟨go52, 0, none⟩) x6_2.length co52) : Value).ownBlock ∧ some k_ ≠ ((.slice Ao61 t235.length co61) : Value).ownBlock ∧ k_ ≠ gb220 ∧ k_ ≠ gb221 ∧ k_ ≠ gb239) (.slice Ao67 t240.length co67) t240) ∧ Aside0 (Kd.R Kd.bool 4 w' w.heap.size (fun k_ => some k_ ≠ ((.slice (some ⟨go52, 0, none⟩) x6_2.length co52) : Value).ownBlock) (.slice Ao61 t235.length co61) t235) ∧ Aside0 (w'.heap[gb220]? = some (.cells #[(.slice A0_0 l0_0.length c0_0), .int .i64 a0_1] 34 (0, 0))) ∧ Aside0 (w'.heap[gb221]? = some (.cells #[(.slice A1_0 l1_0.length c1_0), .bool a1_1] 115 (0, 0))) ∧ Aside0 (w'.heap[gb239]? = some (.cells #[(.slice Ao61 t235.length co61), .bool t238] 115 (0, 0))) ∧ Aside0 (Below w.heap.size w w'))
                  case atStart => exact ⟨(x5_2), (0), (by first | rfl | (simp; done) | (simp [*]; done)), H', ⟨Nat.le_refl _⟩, ⟨by (try simp only [hl5_1, hl5_2]); exact Kd.pR HO_5.out⟩, ⟨by (try simp only [hl5_1, hl5_2]); (with_reducible repeat (first | apply Kd.R_alloc | apply Kd.R_drewN | apply Kd.R_drew)); exact Kd.R_mono HO_6.out (fun _ hk => hk.2)⟩, ⟨by (try simp only [hl5_1, hl5_2]); (with_reducible repeat (first | apply Kd.N_alloc | apply Kd.N_drewN | apply Kd.N_drew)); exact Kd.N_mono HO242.out (fun _ hk => ⟨hk.1, ⟨hk.2.1, ⟨hk.2.2.2.1, ⟨hk.2.2.2.2.1, ⟨hk.2.2.2.2.2.1, hk.2.2.2.2.2.2⟩⟩⟩⟩⟩)⟩, ⟨by (try simp only [hl5_1, hl5_2]); (with_reducible repeat (first | apply Kd.R_alloc | apply Kd.R_drewN | apply Kd.R_drew)); exact Kd.R_mono HO237.out (fun _ hk => hk.2)⟩, ⟨by (try simp only [hl5_1, hl5_2]); exact pk BK220.out⟩, ⟨by (try simp only [hl5_1, hl5_2]); exact pk BK221.out⟩, ⟨by (try simp only [hl5_1, hl5_2]); exact pk BK239.out⟩, ⟨by repeat (first | exact HB.out | apply ba_ | apply bN_ | apply b1_ | refine below_set ?_ (Aside0.out (by assumption)))⟩⟩
                  case round =>
                   clear H'
                   try clear c1
                   try clear c2
                   try clear p2
                   try clear q2
                   try clear hx2
                   try clear hf2
                   try clear c3
                   try clear q3
                   try clear c4
                   try clear c4b0
                   try clear c4b1
                   try clear c5
                   try clear c5b0
                   try clear c5b1
                   try clear p5
                   try clear q5
                   try clear hx5
                   try clear hf5
                   try clear c6
                   try clear c6b0
                   try clear c6b1
                   try clear p6
                   try clear c7
                   try clear c7b0
                   try clear c7b1
                   try clear c8
                   try clear c9
                   try clear c10
                   try clear c12
                   try clear c17
                   try clear c17b0
                   try clear c18
                   try clear c18b0
                   try clear c19
                   try clear c19b0
                   try clear p20
                   try clear q20
                   try clear hx20
                   try clear hf20
                   try clear p23
                   try clear q23
                   try clear hx23
                   try clear c24
                   try clear c24b0
                   try clear c25
                   try clear c25b0
                   try clear p26
                   try clear q26
                   try clear hx26
                   try clear hf26
                   try clear c27
                   try clear c32
                   try clear c32b0
                   try clear c33
                   try clear c33b0
                   try clear c34
                   try clear c34b0
                   try clear c36
                   try clear c36b0
                   try clear q37
                   try clear c38
                   try clear c40
                   try clear c40b0
                   try clear c41
                   try clear c41b0
                   try clear c43
                   try clear c43b0
                   try clear c44
                   try clear c44b0
                   try clear c47
                   try clear c47b0
                   try clear c49
                   try clear c49b0
                   try clear c50
                   try clear c50b0
                   try clear c51
                   try clear c51b0
                   try clear p52
                   try clear q52
                   try clear hx52
                   try clear hf52
                   try clear c57
                   try clear c62
                   try clear c63
                   try clear p64
                   try clear hcz11_0
                   try clear hcz11_1
                   try clear hcz28_0
                   try clear hcz28_1
                   try clear hcz58_0
                   try clear hcz58_1
                   try clear hcz64_0
                   try clear hcz64_1
                   try clear hcz65_0
                   try clear hcz65_1
                   try clear hfz11_0
                   try clear hfz11_1
                   try clear hfz28_0
                   try clear hfz28_1
                   try clear hfz58_0
                   try clear hfz58_1
                   try clear hfz64_0
                   try clear hfz64_1
                   try clear hfz65_0
                   try clear hfz65_1
                   try clear hx20_0
                   try clear hx231_0
                   try clear hx232_0
                   try clear hx233_0
                   try clear hx26_0
                   try clear hx52_0
                   try clear p2
                   try clear p20
                   try clear p231
                   try clear p232
                   try clear p233
                   try clear p26
                   try clear p52
                   try clear p6
                   try clear q2
                   try clear q20
                   try clear q231
                   try clear q232
                   try clear q233
                   try clear q26
                   try clear q52
                   obtain ⟨x5_4, x82_4, rfl, HA, HK4, HO_5, HO_6, HO_80, HO_240000, BK220, BK221, BK239, HB⟩ := hrel
                   have hl5_4 := (Kd.R_reads' HO_5.out).1
                   rw [hl5_4] at HO_5
                   (try simp only [hl5_4])
                   (try simp only [hl5_4] at BK220)
                   (try simp only [hl5_4] at BK221)
                   (try simp only [hl5_4] at BK239)
                   (try simp only [hl5_4] at HO_6)
                   (try simp only [hl5_4] at HO_80)
                   (try simp only [hl5_4] at HO_240000)
                   have hl6_4 := (Kd.R_reads' HO_6.out).1
                   rw [hl6_4] at HO_6
                   (try simp only [hl6_4])
                   (try simp only [hl6_4] at BK220)
                   (try simp only [hl6_4] at BK221)
                   (try simp only [hl6_4] at BK239)
                   (try simp only [hl6_4] at HO_5)
                   (try simp only [hl6_4] at HO_80)
                   (try simp only [hl6_4] at HO_240000)
                   cases gk with
                   | zero => exact absurd HA.out (by simp [spec_seFar.l3])
                   | succ k4 =>
                    have H := HA.out
                    clear HA
                    simp only [spec_seFar.l3] at H
                    by_cases c68 : x82_4 < (t240.length : Int)
                    ·
                     rw [if_pos c68] at H
                     have c68b0 : decide (x82_4 < (t240.length : Int)) = true := decide_eq_true c68
                     clear c68
                     by_cases c69 : 0 ≤ x82_4
                     ·
                      rw [if_pos c69] at H
                      have c69b0 : decide (0 ≤ x82_4) = true := decide_eq_true c69
                      clear c69
                      by_cases c70 : x82_4 < (t240.length : Int)
                      ·
                       rw [if_pos c70] at H
                       have c70b0 : decide (x82_4 < (t240.length : Int)) = true := decide_eq_true c70
                       clear c70
                       replace H := Option.bind_eq_some_iff.mp H
                       obtain ⟨⟨t244, t247⟩, A710, H⟩ := H
                       replace H : ((spec_seIndex.f k4 t244 t247).bind fun t248 => (if 0 ≤ x8_3 then (if x8_3 < (x5_4.length : Int) then ((spec_paTime.f k4 l0_0 a0_1 (rd_L2 t240 x82_4)).bind fun t250 => (if 0 ≤ t248 then (if t248 < (x5_4.length : Int) then (if (rd x5_4 t248) < 0 then (spec_seFar.l3 k4 (x5_4.set (t248 : Int).toNat (wrap64 ((rd x5_4 x8_3) + t250))) y234 x8_3 t240 (t240.length : Int) (wrap64 (x82_4 + 1)) l0_0 a0_1 t235 t238) else (if (wrap64 ((rd x5_4 x8_3) + t250)) < (rd x5_4 t248) then (spec_seFar.l3 k4 (x5_4.set (t248 : Int).toNat (wrap64 ((rd x5_4 x8_3) + t250))) y234 x8_3 t240 (t240.length : Int) (wrap64 (x82_4 + 1)) l0_0 a0_1 t235 t238) else (spec_seFar.l3 k4 x5_4 y234 x8_3 t240 (t240.length : Int) (wrap64 (x82_4 + 1)) l0_0 a0_1 t235 t238))) else (none)) else (none))) else (none)) else (none))) = some r := H
                       have A71 := ak_ A710
                       clear A710
                       replace H := Option.bind_eq_some_iff.mp H
                       obtain ⟨t248, A720, H⟩ := H
                       replace H : (if 0 ≤ x8_3 then (if x8_3 < (x5_4.length : Int) then ((spec_paTime.f k4 l0_0 a0_1 (rd_L2 t240 x82_4)).bind fun t250 => (if 0 ≤ t248 then (if t248 < (x5_4.length : Int) then (if (rd x5_4 t248) < 0 then (spec_seFar.l3 k4 (x5_4.set (t248 : Int).toNat (wrap64 ((rd x5_4 x8_3) + t250))) y234 x8_3 t240 (t240.length : Int) (wrap64 (x82_4 + 1)) l0_0 a0_1 t235 t238) else (if (wrap64 ((rd x5_4 x8_3) + t250)) < (rd x5_4 t248) then (spec_seFar.l3 k4 (x5_4.set (t248 : Int).toNat (wrap64 ((rd x5_4 x8_3) + t250))) y234 x8_3 t240 (t240.length : Int) (wrap64 (x82_4 + 1)) l0_0 a0_1 t235 t238) else (spec_seFar.l3 k4 x5_4 y234 x8_3 t240 (t240.length : Int) (wrap64 (x82_4 + 1)) l0_0 a0_1 t235 t238))) else (none)) else (none))) else (none)) else (none)) = some r := H
                       have A72 := ak_ A720
                       clear A720
                       by_cases c73 : 0 ≤ x8_3
                       ·
                        rw [if_pos c73] at H
                        have c73b0 : decide (0 ≤ x8_3) = true := decide_eq_true c73
                        clear c73
                        by_cases c74 : x8_3 < (x5_4.length : Int)
                        ·
                         rw [if_pos c74] at H
                         have c74b0 : decide (x8_3 < (x5_4.length : Int)) = true := decide_eq_true c74
                         clear c74
                         replace H := Option.bind_eq_some_iff.mp H
                         obtain ⟨t250, A750, H⟩ := H
                         replace H : (if 0 ≤ t248 then (if t248 < (x5_4.length : Int) then (if (rd x5_4 t248) < 0 then (spec_seFar.l3 k4 (x5_4.set (t248 : Int).toNat (wrap64 ((rd x5_4 x8_3) + t250))) y234 x8_3 t240 (t240.length : Int) (wrap64 (x82_4 + 1)) l0_0 a0_1 t235 t238) else (if (wrap64 ((rd x5_4 x8_3) + t250)) < (rd x5_4 t248) then (spec_seFar.l3 k4 (x5_4.set (t248 : Int).toNat (wrap64 ((rd x5_4 x8_3) + t250))) y234 x8_3 t240 (t240.length : Int) (wrap64 (x82_4 + 1)) l0_0 a0_1 t235 t238) else (spec_seFar.l3 k4 x5_4 y234 x8_3 t240 (t240.length : Int) (wrap64 (x82_4 + 1)) l0_0 a0_1 t235 t238))) else (none)) else (none)) = some r := H
                         have A75 := ak_ A750
                         clear A750
                         have HC76 := ak_ H
                         clear H
                         have p243 : 0 ≤ (x82_4 : Int) := odt_ (by assumption)
                         have q243 : x82_4 < (t240.length : Int) := odt_ (by assumption)
                         obtain ⟨ad243, A243_0, c243_0, e243, hx243_0, hl243_0, hi243_0⟩ := at_L2 (Kd.N_reads' HO_80.out).2.2 x82_4 p243 q243
                         cases e243
                         obtain ⟨ce243, hce243, hMe243, hcc243⟩ := Kd.N_get HO_80.out [] x82_4 p243 (by first | exact q243 | exact odt_ (by assumption) | (have e_ := (Kd.N_reads' HO_80.out).1; omega))
                         obtain ⟨ua243_0, uc243_0, rfl, ul243_0, ge243_0⟩ := Kd.FK_slice_open hMe243
                         have hv243_0 := hcc243 0 _ rfl
                         rw [Nat.add_zero, show ((Kd.slice 3 (Kd.int .i64))).sz = 1 from rfl, Nat.mul_one] at hv243_0
                         replace hv243_0 := Option.some.inj (hv243_0.symm.trans hx243_0)
                         injection hv243_0 with hva_ hvn_ hvc_
                         rw [hva_] at ge243_0
                         rw [hvc_] at ul243_0
                         have HL243_0 := ak_ (show Kd.V (Kd.int .i64) 3 _ w.heap.size _ _ (rd_L2 t240 x82_4) from Kd.V_mk ul243_0 ge243_0)
                         clear hva_ hvn_ hvc_ ge243_0 ul243_0 hcc243 hce243
                         have HR243_0 := ak_ hi243_0
                         have HC243_0 := ak_ hl243_0
                         clear hi243_0 hl243_0
                         replace p243 := eq_true p243
                         replace q243 := eq_true q243
                         have hnb77 := NB239_220.out
                         have hnc77 := NB220_239.out
                         have hnb78 := NB239_221.out
                         have hnc78 := NB221_239.out
                         have hcz79_0 : wr.cell? ⟨gb239, 0, none⟩ = some (.slice Ao61 t235.length co61) := (blk_cell BK239.out 0).trans rfl
                         have hcz79_1 : wr.cell? ⟨gb239, 1, none⟩ = some (.bool t238) := (blk_cell BK239.out 1).trans rfl
                         have hfz79_0 := blk_frozen BK239.out 0
                         have hfz79_1 := blk_frozen BK239.out 1
                         try go_wp2_with (first | ((with_reducible refine gate_callee (f := 96) rfl ?_); refine goesL_ (some 88) rfl rfl Try.func96 (by kernel_rfl) rfl #[.agg #[.slice Ao61 t235.length co61, .bool t238], .slice A243_0 (rd_L2 t240 x82_4).length c243_0] rfl (by first | rfl | (simp only [map_toArray, map_cons, map_nil]; try rfl)) ?_; (with_reducible refine (spec_paCross.calls k4 _ _ t235 t238 _ _ (rd_L2 t240 x82_4) t244 t247 _ ?side1 ?side2 ?side3 ?side4 A71.out).mono ?_); (case side1 => repeat (first | exact (Kd.R_reads' HO_240000.out).2.2 | (with_reducible refine Kd.C_alloc ?_ _) | (with_reducible refine Kd.C_drewN ?_ _) | (with_reducible refine Kd.C_drew ?_))); (case side2 => exact (Kd.R_reads' HO_240000.out).2.1); (case side3 => repeat (first | exact (by repeat (first | (with_reducible exact HR243_0.out) | (with_reducible refine Kd.C_alloc ?_ _) | (with_reducible refine Kd.C_drewN ?_ _) | (with_reducible refine Kd.C_drew ?_) | exact HR243_0.out)) | (with_reducible refine Kd.C_alloc ?_ _) | (with_reducible refine Kd.C_drewN ?_ _) | (with_reducible refine Kd.C_drew ?_))); (case side4 => exact HC243_0.out); rintro e w80 ⟨v245, rfl, ho0, hb⟩; refine ⟨_, rfl, ?_⟩; have n0_ := ak_ (Kd.R_below (Kd.pR HO_5.out) hb); have n1_ := ak_ (Kd.R_elder' (Kd.pR HO_6.out) (Kd.R_base ho0) hb); have n2_ := ak_ (Kd.N_elder' (Kd.pN HO_80.out) (Kd.R_base ho0) hb); have n3_ := ak_ (Kd.R_elder' (Kd.pR HO_240000.out) (Kd.R_base ho0) hb); have n4_ := ak_ (Kd.V_elder' (Kd.pV HL243_0.out) (Kd.R_base ho0) hb); have n5_ := ak_ (Kd.R_lower (Kd.R_new' (Kd.R_new' ho0 (Kd.R_lt (Kd.pR HO_6.out))) (Kd.R_lt (Kd.pR HO_240000.out))) (bz_ (by repeat (first | exact HB.out | apply ba_ | apply bN_ | apply b1_ | refine below_set ?_ (Aside0.out (by assumption)))))); have n6_ := ak_ (blk_below (pk BK220.out) hb); have n7_ := ak_ (blk_below (pk BK221.out) hb); have n8_ := ak_ (blk_below (pk BK239.out) hb); have n9_ := ak_ (Kd.C_below (by repeat (first | (with_reducible exact HR243_0.out) | (with_reducible refine Kd.C_alloc ?_ _) | (with_reducible refine Kd.C_drewN ?_ _) | (with_reducible refine Kd.C_drew ?_) | exact HR243_0.out)) hb); have n10_ := ak_ (bs_ (by repeat (first | exact HB.out | apply ba_ | apply bN_ | apply b1_ | refine below_set ?_ (Aside0.out (by assumption)))) hb); clear HO_5; clear HO_6; clear HO_80; clear HO_240000; clear HL243_0; clear BK220; clear BK221; clear BK239; clear HR243_0; clear HB; have HO_5 := n0_; have HO_6 := n1_; have HO_80 := n2_; have HO_240000 := n3_; have HL243_0 := n4_; have HO246 := n5_; have BK220 := n6_; have BK221 := n7_; have BK239 := n8_; have HR243_0 := n9_; have HB := n10_; clear n0_ n1_ n2_ n3_ n4_ n5_ n6_ n7_ n8_ n9_ n10_; (try clear hb); (try clear hb2); (try clear hk); (try clear hi); (try clear ho0); obtain ⟨Ao81, co81, eo81⟩ := Kd.R_slice HO246.out; subst eo81) | ((with_reducible refine gate_callee (f := 91) rfl ?_); refine goesL_ (some 89) rfl rfl Try.func91 (by kernel_rfl) rfl #[.agg #[.slice Ao81 t244.length co81, .bool t247]] rfl (by first | rfl | (simp only [map_toArray, map_cons, map_nil]; try rfl)) ?_; (with_reducible refine (spec_seIndex.calls k4 _ _ t244 t247 t248 _ ?side1 ?side2 A72.out).mono ?_); (case side1 => repeat (first | exact (Kd.R_reads' HO246.out).2.2 | (with_reducible refine Kd.C_alloc ?_ _) | (with_reducible refine Kd.C_drewN ?_ _) | (with_reducible refine Kd.C_drew ?_))); (case side2 => exact (Kd.R_reads' HO246.out).2.1); rintro e w82 ⟨rfl, hb⟩; refine ⟨_, rfl, ?_⟩; have n0_ := ak_ (Kd.R_below (Kd.pR HO_5.out) hb); have n1_ := ak_ (Kd.R_below (Kd.pR HO_6.out) hb); have n2_ := ak_ (Kd.N_below (Kd.pN HO_80.out) hb); have n3_ := ak_ (Kd.R_below (Kd.pR HO_240000.out) hb); have n4_ := ak_ (Kd.V_below (Kd.pV HL243_0.out) hb); have n5_ := ak_ (Kd.R_below (Kd.pR HO246.out) hb); have n6_ := ak_ (blk_below (pk BK220.out) hb); have n7_ := ak_ (blk_below (pk BK221.out) hb); have n8_ := ak_ (blk_below (pk BK239.out) hb); have n9_ := ak_ (Kd.C_below (by repeat (first | (with_reducible exact HR243_0.out) | (with_reducible refine Kd.C_alloc ?_ _) | (with_reducible refine Kd.C_drewN ?_ _) | (with_reducible refine Kd.C_drew ?_) | exact HR243_0.out)) hb); have n10_ := ak_ (bs_ (by repeat (first | exact HB.out | apply ba_ | apply bN_ | apply b1_ | refine below_set ?_ (Aside0.out (by assumption)))) hb); clear HO_5; clear HO_6; clear HO_80; clear HO_240000; clear HL243_0; clear HO246; clear BK220; clear BK221; clear BK239; clear HR243_0; clear HB; have HO_5 := n0_; have HO_6 := n1_; have HO_80 := n2_; have HO_240000 := n3_; have HL243_0 := n4_; have HO246 := n5_; have BK220 := n6_; have BK221 := n7_; have BK239 := n8_; have HR243_0 := n9_; have HB := n10_; clear n0_ n1_ n2_ n3_ n4_ n5_ n6_ n7_ n8_ n9_ n10_; (try clear hb); (try clear hb2); (try clear hk); (try clear hi)))
                         have n0_ := ak_ (Kd.R_drew HO_5.out)
                         have n1_ := ak_ (Kd.R_drew HO_6.out)
                         have n2_ := ak_ (Kd.N_drew HO_80.out)
                         have n3_ := ak_ (Kd.R_drew HO_240000.out)
                         have n4_ := ak_ (Kd.V_drew HL243_0.out)
                         have n5_ := ak_ (Kd.R_drew HO246.out)
                         have n6_ := ak_ (k1_ BK220.out)
                         have n7_ := ak_ (k1_ BK221.out)
                         have n8_ := ak_ (k1_ BK239.out)
                         have n9_ := ak_ (Kd.C_drew HR243_0.out)
                         have n10_ := ak_ (b1_ HB.out)
                         clear HO_5 HO_6 HO_80 HO_240000 HL243_0 HO246 BK220 BK221 BK239 HR243_0 HB
                         have HO_5 := n0_; have HO_6 := n1_; have HO_80 := n2_; have HO_240000 := n3_; have HL243_0 := n4_; have HO246 := n5_; have BK220 := n6_; have BK221 := n7_; have BK239 := n8_; have HR243_0 := n9_; have HB := n10_
                         clear n0_ n1_ n2_ n3_ n4_ n5_ n6_ n7_ n8_ n9_ n10_
                         have p249 : 0 ≤ (x8_3 : Int) := odt_ (by assumption)
                         have q249 : x8_3 < (x5_4.length : Int) := odt_ (by assumption)
                         obtain ⟨ad249, e249, hx249_0⟩ := Kd.at_int (Kd.R_reads' HO_5.out).2.2 x8_3 p249 q249
                         obtain rfl : (⟨go26, 0, none⟩ : Addr) = ad249 := (by injection e249)
                         (first | simp only [add_plain] at hx249_0 | simp only [add_at] at hx249_0 | simp only [Addr.add, Nat.zero_add] at hx249_0 | skip)
                         replace p249 := eq_true p249
                         replace q249 := eq_true q249
                         refine start_ (n := 9) (S := fun w' => w'.cell? ⟨gb220, 0, none⟩ = some (.slice A0_0 l0_0.length c0_0) ∧ w'.cell? ⟨gb220, 1, none⟩ = some (.int .i64 a0_1) ∧ w'.cell? ⟨go26, (x8_3).toNat, none⟩ = some (.int .i64 (rd x5_4 x8_3))) (ds := []) (mb_ 9 0) (by kernel_rfl) rfl rfl ⟨(blk_cell BK220.out 0).trans rfl, (blk_cell BK220.out 1).trans rfl, hx249_0⟩ (fun hHeld => ?_); refine with_tabW spec_seFar.tab24 spec_seFar.bits24 (fun HT_ HW_ => ?_)
                         generalize w82.drew = w83 at HO_5 HO_6 HO_80 HO_240000 HL243_0 HO246 BK220 BK221 BK239 HR243_0 HB hx249_0 hHeld ⊢
                         refine pure_ (i := 0) (N := some 90) (v := ?_) (a' := ?_) (mb_ 9 1) rfl rfl (any_of HT_.out (by kernel_rfl)) (fun _ _ _ h => h) (Or.inl ⟨by rfl, ?_⟩) ?_ ?_
                         rotate_left
                         ·
                          intro w'
                          go_simp
                          with_reducible rfl
                         rotate_left
                         ·
                          simp only [Act.put, setIfInBounds_toArray, set_cons_zero, set_cons_succ, i64_w, i32_w]
                          rfl
                         refine pure_ (i := 1) (N := some 91) (v := ?_) (a' := ?_) (mb_ 9 3) rfl rfl (any_of HT_.out (by kernel_rfl)) (fun _ _ _ h => h) (Or.inl ⟨by rfl, ?_⟩) ?_ ?_
                         rotate_left
                         ·
                          intro w'
                          go_simp
                          with_reducible rfl
                         rotate_left
                         ·
                          simp only [Act.put, setIfInBounds_toArray, set_cons_zero, set_cons_succ, i64_w, i32_w]
                          rfl
                         refine pure_ (i := 2) (N := some 92) (v := ?_) (a' := ?_) (mb_ 9 7) rfl rfl (any_of HT_.out (by kernel_rfl)) (fun _ _ _ h => h) (Or.inl ⟨by rfl, ?_⟩) ?_ ?_
                         rotate_left
                         ·
                          intro w'
                          go_simp
                          with_reducible rfl
                         rotate_left
                         ·
                          simp only [Act.put, setIfInBounds_toArray, set_cons_zero, set_cons_succ, i64_w, i32_w]
                          rfl
                         refine pure_ (i := 5) (N := some 95) (v := ?_) (a' := ?_) (mb_ 9 39) rfl rfl (any_of HT_.out (by kernel_rfl)) (fun _ _ _ h => h) (Or.inl ⟨by rfl, ?_⟩) ?_ ?_
                         rotate_left
                         ·
                          intro w'
                          go_simp
                          with_reducible rfl
                         rotate_left
                         ·
                          simp only [Act.put, setIfInBounds_toArray, set_cons_zero, set_cons_succ, i64_w, i32_w]
                          rfl
                         refine take_ (i := 3) (N := some 93) (v := ?_) (a' := ?_) (mb_ 9 47) rfl rfl (take_ofW HT_.out HW_.out (by kernel_rfl)) (fun _ _ _ h => h) (Or.inl ⟨by rfl, ?_⟩) hHeld ?_ ?_
                         rotate_left
                         ·
                          rintro w' ⟨s0, s1, s2⟩
                          go_simp
                          with_reducible rfl
                         rotate_left
                         ·
                          simp only [Act.put, setIfInBounds_toArray, set_cons_zero, set_cons_succ, i64_w, i32_w]
                          rfl
                         refine take_ (i := 4) (N := some 94) (v := ?_) (a' := ?_) (mb_ 9 63) rfl rfl (take_ofW HT_.out HW_.out (by kernel_rfl)) (fun _ _ _ h => h) (Or.inl ⟨by rfl, ?_⟩) hHeld ?_ ?_
                         rotate_left
                         ·
                          rintro w' ⟨s0, s1, s2⟩
                          go_simp
                          with_reducible rfl
                         rotate_left
                         ·
                          simp only [Act.put, setIfInBounds_toArray, set_cons_zero, set_cons_succ, i64_w, i32_w]
                          rfl
                         refine one_ (i := 6) (N := some 96) (mb_ 9 127) rfl rfl (one_of HT_.out (by kernel_rfl)) (by decide) (fun K hK => ?_)
                         refine goes_ Try.func129 (by kernel_rfl) rfl #[.agg #[.slice A0_0 l0_0.length c0_0, .int .i64 a0_1], .slice A243_0 (rd_L2 t240 x82_4).length c243_0] (by rfl) rfl rfl (by first | rfl | (simp only [map_toArray, map_cons, map_nil]; try rfl)) ?_
                         with_reducible refine (spec_paTime.calls k4 _ _ l0_0 a0_1 _ _ (rd_L2 t240 x82_4) t250 _ ?side1 ?side2 ?side3 ?side4 A75.out).mono ?_
                         (case side1 => repeat (first | exact (Kd.C_below HR0_0.out HB.out) | (with_reducible refine Kd.C_alloc ?_ _) | (with_reducible refine Kd.C_drewN ?_ _) | (with_reducible refine Kd.C_drew ?_)))
                         (case side2 => exact HC0_0.out)
                         (case side3 => repeat (first | exact (by repeat (first | (with_reducible exact HR243_0.out) | (with_reducible refine Kd.C_alloc ?_ _) | (with_reducible refine Kd.C_drewN ?_ _) | (with_reducible refine Kd.C_drew ?_) | exact HR243_0.out)) | (with_reducible refine Kd.C_alloc ?_ _) | (with_reducible refine Kd.C_drewN ?_ _) | (with_reducible refine Kd.C_drew ?_)))
                         (case side4 => exact HC243_0.out)
                         rintro e w84 ⟨rfl, hb⟩
                         have HS2_ := (hb.cell (World.block_lt_of_cell? _ _ (hHeld.2.2))).trans (hHeld.2.2)
                         refine ⟨_, rfl, ?_⟩
                         have n0_ := ak_ (Kd.R_below (Kd.pR HO_5.out) hb)
                         have n1_ := ak_ (Kd.R_below (Kd.pR HO_6.out) hb)
                         have n2_ := ak_ (Kd.N_below (Kd.pN HO_80.out) hb)
                         have n3_ := ak_ (Kd.R_below (Kd.pR HO_240000.out) hb)
                         have n4_ := ak_ (Kd.V_below (Kd.pV HL243_0.out) hb)
                         have n5_ := ak_ (Kd.R_below (Kd.pR HO246.out) hb)
                         have n6_ := ak_ (blk_below (pk BK220.out) hb)
                         have n7_ := ak_ (blk_below (pk BK221.out) hb)
                         have n8_ := ak_ (blk_below (pk BK239.out) hb)
                         have n9_ := ak_ (Kd.C_below (by repeat (first | (with_reducible exact HR243_0.out) | (with_reducible refine Kd.C_alloc ?_ _) | (with_reducible refine Kd.C_drewN ?_ _) | (with_reducible refine Kd.C_drew ?_) | exact HR243_0.out)) hb)
                         have n10_ := ak_ (bs_ (by repeat (first | exact HB.out | apply ba_ | apply bN_ | apply b1_ | refine below_set ?_ (Aside0.out (by assumption)))) hb)
                         clear HO_5 HO_6 HO_80 HO_240000 HL243_0 HO246 BK220 BK221 BK239 HR243_0 HB
                         have HO_5 := n0_; have HO_6 := n1_; have HO_80 := n2_; have HO_240000 := n3_; have HL243_0 := n4_; have HO246 := n5_; have BK220 := n6_; have BK221 := n7_; have BK239 := n8_; have HR243_0 := n9_; have HB := n10_
                         clear n0_ n1_ n2_ n3_ n4_ n5_ n6_ n7_ n8_ n9_ n10_
                         (try clear hb)
                         (try clear hb2)
                         (try clear hk)
                         (try clear hi)
                         refine hK.out _ _ ⟨(blk_cell BK220.out 0).trans rfl, (blk_cell BK220.out 1).trans rfl, HS2_⟩ (fun hHeld => ?_)
                         clear hK K
                         refine norm_ (a' := ?_) ?_ ?_
                         rotate_left
                         ·
                          show Act.put _ (some 96) _ = _
                          simp only [Act.put, setIfInBounds_toArray, set_cons_zero, set_cons_succ, i64_w, i32_w]
                          rfl
                         refine pure_ (i := 7) (N := some 97) (v := ?_) (a' := ?_) (mb_ 9 255) rfl rfl (any_of HT_.out (by kernel_rfl)) (fun _ _ _ h => h) (Or.inl ⟨by rfl, ?_⟩) ?_ ?_
                         rotate_left
                         ·
                          intro w'
                          go_simp
                          with_reducible rfl
                         rotate_left
                         ·
                          simp only [Act.put, setIfInBounds_toArray, set_cons_zero, set_cons_succ, i64_w, i32_w]
                          rfl
                         refine pure_ (i := 8) (N := some 15) (v := ?_) (a' := ?_) (mb_ 9 511) rfl rfl (any_of HT_.out (by kernel_rfl)) (fun _ _ _ h => h) (Or.inl ⟨by rfl, ?_⟩) ?_ ?_
                         rotate_left
                         ·
                          intro w'
                          go_simp
                          with_reducible rfl
                         rotate_left
                         ·
                          simp only [Act.put, setIfInBounds_toArray, set_cons_zero, set_cons_succ, i64_w, i32_w]
                          rfl
                         refine done_ (done_of HT_.out (by kernel_rfl)) ?_
                         go_upto_region 25 with (fail)
                         have H := HC76.out
                         clear HC76
                         by_cases c85 : 0 ≤ t248
                         ·
                          rw [if_pos c85] at H
                          have c85b0 : decide (0 ≤ t248) = true := decide_eq_true c85
                          clear c85
                          by_cases c86 : t248 < (x5_4.length : Int)
                          ·
                           rw [if_pos c86] at H
                           have c86b0 : decide (t248 < (x5_4.length : Int)) = true := decide_eq_true c86
                           clear c86
                           by_cases c87 : (rd x5_4 t248) < 0
                           ·
                            rw [if_pos c87] at H
                            have c87b0 : decide ((rd x5_4 t248) < 0) = true := decide_eq_true c87
                            clear c87
                            obtain ⟨y252, hy252⟩ : ∃ y_ : List Int, y_ = (x5_4.set (t248 : Int).toNat (wrap64 ((rd x5_4 x8_3) + t250))) := ⟨_, rfl⟩
                            replace H : (spec_seFar.l3 k4 y252 y234 x8_3 t240 (t240.length : Int) (wrap64 (x82_4 + 1)) l0_0 a0_1 t235 t238) = some r := by first | (rw [hy252]; exact H) | exact H
                            have Ny252 := ak_ hy252
                            clear hy252
                            have H' := ak_ H
                            clear H
                            have p251 : 0 ≤ (t248 : Int) := odt_ (by assumption)
                            have q251 : t248 < (x5_4.length : Int) := odt_ (by assumption)
                            obtain ⟨ad251, e251, hx251_0⟩ := Kd.at_int (Kd.R_reads' HO_5.out).2.2 t248 p251 q251
                            obtain rfl : (⟨go26, 0, none⟩ : Addr) = ad251 := (by injection e251)
                            (first | simp only [add_plain] at hx251_0 | simp only [add_at] at hx251_0 | simp only [Addr.add, Nat.zero_add] at hx251_0 | skip)
                            replace p251 := eq_true p251
                            replace q251 := eq_true q251
                            have p88 : 0 ≤ (t248 : Int) := odt_ (by assumption)
                            have q88 : (t248 : Int) < ((x5_4.length : Int) : Int) := odt_ (by assumption)
                            obtain ⟨hx88_0, hf88_0⟩ := Kd.R_celln 0 HO_5.out (t248 : Int) p88 q88
                            replace p88 := eq_true p88
                            replace q88 := eq_true q88
                            have HP89 := Kd.R_putg HO_5.out (t248 : Int) (wrap64 ((rd x5_4 x8_3) + t250))
                            go_wp2_with (first | ((with_reducible refine gate_store (t := 3) (p := 114) rfl ?_); refine store_event (t := 3) (p := 114) (v := ?vo_w90) (w1 := (w84.setCell ⟨go26, (t248 : Int).toNat, none⟩ (.int .i64 (wrap64 ((rd x5_4 x8_3) + t250))))) ?hg ?ho ?hn ?hr ?_; (case ho => rfl); (case hg => rfl); (case hn => rfl); (case hr => go_simp <;> rfl); intro w90 hw; have hg : w84.grownBy w90 (some go26) := (by rw [hw]; exact HP89.2); have hp_ : Kd.R (Kd.int .i64) 3 w90 w.heap.size (fun _ => True) (.slice (some ⟨go26, 0, none⟩) x5_4.length co14) y252 := (by rw [hw, Ny252.out]; exact HP89.1); clear HP89; have n0_ := ak_ (hp_); have n1_ := ak_ (Kd.R_over' (v := (.slice (some ⟨go26, 0, none⟩) x5_4.length co14)) (Kd.pR HO_6.out) (Kd.R_typed HO_5.out) (by decide) hg); have n2_ := ak_ (Kd.N_afterv (v := (.slice (some ⟨go26, 0, none⟩) x5_4.length co14)) (v1 := (.slice (some ⟨go26, 0, none⟩) x5_4.length co14)) (ok := (fun k_ => some k_ ≠ (.slice (some ⟨go52, 0, none⟩) y234.length co52 : Value).ownBlock ∧ some k_ ≠ (.slice Ao61 t235.length co61 : Value).ownBlock ∧ some k_ ≠ (.slice Ao81 t244.length co81 : Value).ownBlock ∧ k_ ≠ gb220 ∧ k_ ≠ gb221 ∧ k_ ≠ gb239)) (by (with_reducible repeat (first | apply Kd.N_alloc | apply Kd.N_drewN | apply Kd.N_drew)); exact Kd.N_mono HO_80.out (fun _ hk => ⟨⟨hk.1.2.1, ⟨hk.1.2.2.1, ⟨hk.2, ⟨hk.1.2.2.2.1, ⟨hk.1.2.2.2.2.1, hk.1.2.2.2.2.2⟩⟩⟩⟩⟩, hk.1.1⟩)) hg (.inl rfl)); have n3_ := ak_ (Kd.R_over' (v := (.slice (some ⟨go26, 0, none⟩) x5_4.length co14)) (Kd.pR HO_240000.out) (Kd.R_typed HO_5.out) (by decide) hg); have n4_ := ak_ (blk_grown (pk BK220.out) hg (Kd.R_ne HO_5.out BK220.out (by decide))); have n5_ := ak_ (blk_grown (pk BK221.out) hg (Kd.R_ne HO_5.out BK221.out (by decide))); have n6_ := ak_ (blk_grown (pk BK239.out) hg (Kd.R_ne HO_5.out BK239.out (by decide))); have n7_ := ak_ (Kd.V_afterv (v := (.slice (some ⟨go26, 0, none⟩) x5_4.length co14)) (v1 := (.slice (some ⟨go26, 0, none⟩) x5_4.length co14)) (ok := (fun k_ => some k_ ≠ (.slice (some ⟨go52, 0, none⟩) y234.length co52 : Value).ownBlock ∧ some k_ ≠ (.slice (some ad243) t240.length co67 : Value).ownBlock ∧ some k_ ≠ (.slice Ao61 t235.length co61 : Value).ownBlock ∧ some k_ ≠ (.slice Ao81 t244.length co81 : Value).ownBlock ∧ k_ ≠ gb220 ∧ k_ ≠ gb221 ∧ k_ ≠ gb239)) (by (with_reducible repeat (first | apply Kd.V_alloc | apply Kd.V_drewN | apply Kd.V_drew)); exact Kd.V_mono HL243_0.out (fun _ hk => ⟨⟨hk.1.1.2.1, ⟨hk.1.2, ⟨hk.1.1.2.2.1, ⟨hk.2, ⟨hk.1.1.2.2.2.1, ⟨hk.1.1.2.2.2.2.1, hk.1.1.2.2.2.2.2⟩⟩⟩⟩⟩⟩, hk.1.1.1⟩)) hg (.inl rfl)); have n8_ := ak_ (Kd.R_over' (v := (.slice (some ⟨go26, 0, none⟩) x5_4.length co14)) (Kd.pR HO246.out) (Kd.R_typed HO_5.out) (by decide) hg); have n9_ := ak_ ((by rw [hw]; exact below_set (HB.out) GB26.out : Below w.heap.size w w90)); clear HO_5; clear HO_6; clear HO_80; clear HO_240000; clear BK220; clear BK221; clear BK239; clear HL243_0; clear HO246; clear HB; have HO_5 := n0_; have HO_6 := n1_; have HO_80 := n2_; have HO_240000 := n3_; have BK220 := n4_; have BK221 := n5_; have BK239 := n6_; have HL243_0 := n7_; have HO246 := n8_; have HB := n9_; clear n0_ n1_ n2_ n3_ n4_ n5_ n6_ n7_ n8_ n9_; clear hg hw hp_))
                            (try simp only [← hl5_4, ← hl6_4])
                            go_roundg k4
                            case measure => have := HK1.out; have := HK2.out; have := HK3.out; have := HK4.out; omega
                            case rel => exact ⟨(y252), (wrap64 (x82_4 + 1)), (by first | rfl | (simp; done) | (simp [*]; done)), H', ⟨by have := HK1.out; have := HK2.out; have := HK3.out; have := HK4.out; omega⟩, ⟨by (try simp only [hl5_1, hl5_2, hl5_4, hl6_4]); exact Kd.pR HO_5.out⟩, ⟨by (try simp only [hl5_1, hl5_2, hl5_4, hl6_4]); (with_reducible repeat (first | apply Kd.R_alloc | apply Kd.R_drewN | apply Kd.R_drew)); exact Kd.R_mono HO_6.out (fun _ hk => hk.1)⟩, ⟨by (try simp only [hl5_1, hl5_2, hl5_4, hl6_4]); (with_reducible repeat (first | apply Kd.N_alloc | apply Kd.N_drewN | apply Kd.N_drew)); exact Kd.N_mono HO_80.out (fun _ hk => ⟨hk.2, ⟨hk.1.1, ⟨hk.1.2.1, ⟨hk.1.2.2.2.1, ⟨hk.1.2.2.2.2.1, hk.1.2.2.2.2.2⟩⟩⟩⟩⟩)⟩, ⟨by (try simp only [hl5_1, hl5_2, hl5_4, hl6_4]); (with_reducible repeat (first | apply Kd.R_alloc | apply Kd.R_drewN | apply Kd.R_drew)); exact Kd.R_mono HO_240000.out (fun _ hk => hk.1)⟩, ⟨by (try simp only [hl5_1, hl5_2, hl5_4, hl6_4]); exact pk BK220.out⟩, ⟨by (try simp only [hl5_1, hl5_2, hl5_4, hl6_4]); exact pk BK221.out⟩, ⟨by (try simp only [hl5_1, hl5_2, hl5_4, hl6_4]); exact pk BK239.out⟩, ⟨by repeat (first | exact HB.out | apply ba_ | apply bN_ | apply b1_ | refine below_set ?_ (Aside0.out (by assumption)))⟩⟩
                           ·
                            rw [if_neg c87] at H
                            have c87b0 : decide ((rd x5_4 t248) < 0) = false := decide_eq_false c87
                            clear c87
                            have HC91 := ak_ H
                            clear H
                            have p251 : 0 ≤ (t248 : Int) := odt_ (by assumption)
                            have q251 : t248 < (x5_4.length : Int) := odt_ (by assumption)
                            obtain ⟨ad251, e251, hx251_0⟩ := Kd.at_int (Kd.R_reads' HO_5.out).2.2 t248 p251 q251
                            obtain rfl : (⟨go26, 0, none⟩ : Addr) = ad251 := (by injection e251)
                            (first | simp only [add_plain] at hx251_0 | simp only [add_at] at hx251_0 | simp only [Addr.add, Nat.zero_add] at hx251_0 | skip)
                            replace p251 := eq_true p251
                            replace q251 := eq_true q251
                            have p253 : 0 ≤ (t248 : Int) := odt_ (by assumption)
                            have q253 : t248 < (x5_4.length : Int) := odt_ (by assumption)
                            obtain ⟨ad253, e253, hx253_0⟩ := Kd.at_int (Kd.R_reads' HO_5.out).2.2 t248 p253 q253
                            obtain rfl : (⟨go26, 0, none⟩ : Addr) = ad253 := (by injection e253)
                            (first | simp only [add_plain] at hx253_0 | simp only [add_at] at hx253_0 | simp only [Addr.add, Nat.zero_add] at hx253_0 | skip)
                            replace p253 := eq_true p253
                            replace q253 := eq_true q253
                            go_upto_if 110 with (fail)
                            have H := HC91.out
                            clear HC91
                            by_cases c92 : (wrap64 ((rd x5_4 x8_3) + t250)) < (rd x5_4 t248)
                            ·
                             rw [if_pos c92] at H
                             have c92b0 : decide ((wrap64 ((rd x5_4 x8_3) + t250)) < (rd x5_4 t248)) = true := decide_eq_true c92
                             clear c92
                             (first | rw [c92b0] | (simp only [i64_w, i32_w]; rw [c92b0]) | rw [c92b1] | skip)
                             obtain ⟨y254, hy254⟩ : ∃ y_ : List Int, y_ = (x5_4.set (t248 : Int).toNat (wrap64 ((rd x5_4 x8_3) + t250))) := ⟨_, rfl⟩
                             replace H : (spec_seFar.l3 k4 y254 y234 x8_3 t240 (t240.length : Int) (wrap64 (x82_4 + 1)) l0_0 a0_1 t235 t238) = some r := by first | (rw [hy254]; exact H) | exact H
                             have Ny254 := ak_ hy254
                             clear hy254
                             have H' := ak_ H
                             clear H
                             have p93 : 0 ≤ (t248 : Int) := odt_ (by assumption)
                             have q93 : (t248 : Int) < ((x5_4.length : Int) : Int) := odt_ (by assumption)
                             obtain ⟨hx93_0, hf93_0⟩ := Kd.R_celln 0 HO_5.out (t248 : Int) p93 q93
                             replace p93 := eq_true p93
                             replace q93 := eq_true q93
                             have HP94 := Kd.R_putg HO_5.out (t248 : Int) (wrap64 ((rd x5_4 x8_3) + t250))
                             go_wp2_with (first | ((with_reducible refine gate_store (t := 3) (p := 114) rfl ?_); refine store_event (t := 3) (p := 114) (v := ?vo_w95) (w1 := (w84.setCell ⟨go26, (t248 : Int).toNat, none⟩ (.int .i64 (wrap64 ((rd x5_4 x8_3) + t250))))) ?hg ?ho ?hn ?hr ?_; (case ho => rfl); (case hg => rfl); (case hn => rfl); (case hr => go_simp <;> rfl); intro w95 hw; have hg : w84.grownBy w95 (some go26) := (by rw [hw]; exact HP94.2); have hp_ : Kd.R (Kd.int .i64) 3 w95 w.heap.size (fun _ => True) (.slice (some ⟨go26, 0, none⟩) x5_4.length co14) y254 := (by rw [hw, Ny254.out]; exact HP94.1); clear HP94; have n0_ := ak_ (hp_); have n1_ := ak_ (Kd.R_over' (v := (.slice (some ⟨go26, 0, none⟩) x5_4.length co14)) (Kd.pR HO_6.out) (Kd.R_typed HO_5.out) (by decide) hg); have n2_ := ak_ (Kd.N_afterv (v := (.slice (some ⟨go26, 0, none⟩) x5_4.length co14)) (v1 := (.slice (some ⟨go26, 0, none⟩) x5_4.length co14)) (ok := (fun k_ => some k_ ≠ (.slice (some ⟨go52, 0, none⟩) y234.length co52 : Value).ownBlock ∧ some k_ ≠ (.slice Ao61 t235.length co61 : Value).ownBlock ∧ some k_ ≠ (.slice Ao81 t244.length co81 : Value).ownBlock ∧ k_ ≠ gb220 ∧ k_ ≠ gb221 ∧ k_ ≠ gb239)) (by (with_reducible repeat (first | apply Kd.N_alloc | apply Kd.N_drewN | apply Kd.N_drew)); exact Kd.N_mono HO_80.out (fun _ hk => ⟨⟨hk.1.2.1, ⟨hk.1.2.2.1, ⟨hk.2, ⟨hk.1.2.2.2.1, ⟨hk.1.2.2.2.2.1, hk.1.2.2.2.2.2⟩⟩⟩⟩⟩, hk.1.1⟩)) hg (.inl rfl)); have n3_ := ak_ (Kd.R_over' (v := (.slice (some ⟨go26, 0, none⟩) x5_4.length co14)) (Kd.pR HO_240000.out) (Kd.R_typed HO_5.out) (by decide) hg); have n4_ := ak_ (blk_grown (pk BK220.out) hg (Kd.R_ne HO_5.out BK220.out (by decide))); have n5_ := ak_ (blk_grown (pk BK221.out) hg (Kd.R_ne HO_5.out BK221.out (by decide))); have n6_ := ak_ (blk_grown (pk BK239.out) hg (Kd.R_ne HO_5.out BK239.out (by decide))); have n7_ := ak_ (Kd.V_afterv (v := (.slice (some ⟨go26, 0, none⟩) x5_4.length co14)) (v1 := (.slice (some ⟨go26, 0, none⟩) x5_4.length co14)) (ok := (fun k_ => some k_ ≠ (.slice (some ⟨go52, 0, none⟩) y234.length co52 : Value).ownBlock ∧ some k_ ≠ (.slice (some ad243) t240.length co67 : Value).ownBlock ∧ some k_ ≠ (.slice Ao61 t235.length co61 : Value).ownBlock ∧ some k_ ≠ (.slice Ao81 t244.length co81 : Value).ownBlock ∧ k_ ≠ gb220 ∧ k_ ≠ gb221 ∧ k_ ≠ gb239)) (by (with_reducible repeat (first | apply Kd.V_alloc | apply Kd.V_drewN | apply Kd.V_drew)); exact Kd.V_mono HL243_0.out (fun _ hk => ⟨⟨hk.1.1.2.1, ⟨hk.1.2, ⟨hk.1.1.2.2.1, ⟨hk.2, ⟨hk.1.1.2.2.2.1, ⟨hk.1.1.2.2.2.2.1, hk.1.1.2.2.2.2.2⟩⟩⟩⟩⟩⟩, hk.1.1.1⟩)) hg (.inl rfl)); have n8_ := ak_ (Kd.R_over' (v := (.slice (some ⟨go26, 0, none⟩) x5_4.length co14)) (Kd.pR HO246.out) (Kd.R_typed HO_5.out) (by decide) hg); have n9_ := ak_ ((by rw [hw]; exact below_set (HB.out) GB26.out : Below w.heap.size w w95)); clear HO_5; clear HO_6; clear HO_80; clear HO_240000; clear BK220; clear BK221; clear BK239; clear HL243_0; clear HO246; clear HB; have HO_5 := n0_; have HO_6 := n1_; have HO_80 := n2_; have HO_240000 := n3_; have BK220 := n4_; have BK221 := n5_; have BK239 := n6_; have HL243_0 := n7_; have HO246 := n8_; have HB := n9_; clear n0_ n1_ n2_ n3_ n4_ n5_ n6_ n7_ n8_ n9_; clear hg hw hp_))
                             (try simp only [← hl5_4, ← hl6_4])
                             go_roundg k4
                             case measure => have := HK1.out; have := HK2.out; have := HK3.out; have := HK4.out; omega
                             case rel => exact ⟨(y254), (wrap64 (x82_4 + 1)), (by first | rfl | (simp; done) | (simp [*]; done)), H', ⟨by have := HK1.out; have := HK2.out; have := HK3.out; have := HK4.out; omega⟩, ⟨by (try simp only [hl5_1, hl5_2, hl5_4, hl6_4]); exact Kd.pR HO_5.out⟩, ⟨by (try simp only [hl5_1, hl5_2, hl5_4, hl6_4]); (with_reducible repeat (first | apply Kd.R_alloc | apply Kd.R_drewN | apply Kd.R_drew)); exact Kd.R_mono HO_6.out (fun _ hk => hk.1)⟩, ⟨by (try simp only [hl5_1, hl5_2, hl5_4, hl6_4]); (with_reducible repeat (first | apply Kd.N_alloc | apply Kd.N_drewN | apply Kd.N_drew)); exact Kd.N_mono HO_80.out (fun _ hk => ⟨hk.2, ⟨hk.1.1, ⟨hk.1.2.1, ⟨hk.1.2.2.2.1, ⟨hk.1.2.2.2.2.1, hk.1.2.2.2.2.2⟩⟩⟩⟩⟩)⟩, ⟨by (try simp only [hl5_1, hl5_2, hl5_4, hl6_4]); (with_reducible repeat (first | apply Kd.R_alloc | apply Kd.R_drewN | apply Kd.R_drew)); exact Kd.R_mono HO_240000.out (fun _ hk => hk.1)⟩, ⟨by (try simp only [hl5_1, hl5_2, hl5_4, hl6_4]); exact pk BK220.out⟩, ⟨by (try simp only [hl5_1, hl5_2, hl5_4, hl6_4]); exact pk BK221.out⟩, ⟨by (try simp only [hl5_1, hl5_2, hl5_4, hl6_4]); exact pk BK239.out⟩, ⟨by repeat (first | exact HB.out | apply ba_ | apply bN_ | apply b1_ | refine below_set ?_ (Aside0.out (by assumption)))⟩⟩
                            ·
                             rw [if_neg c92] at H
                             have c92b0 : decide ((wrap64 ((rd x5_4 x8_3) + t250)) < (rd x5_4 t248)) = false := decide_eq_false c92
                             clear c92
                             (first | rw [c92b0] | (simp only [i64_w, i32_w]; rw [c92b0]) | rw [c92b1] | skip)
                             have H' := ak_ H
                             clear H
                             go_wp2
                             (try simp only [← hl5_4, ← hl6_4])
                             go_roundg k4
                             case measure => have := HK1.out; have := HK2.out; have := HK3.out; have := HK4.out; omega
                             case rel => exact ⟨(x5_4), (wrap64 (x82_4 + 1)), (by first | rfl | (simp; done) | (simp [*]; done)), H', ⟨by have := HK1.out; have := HK2.out; have := HK3.out; have := HK4.out; omega⟩, ⟨by (try simp only [hl5_1, hl5_2, hl5_4, hl6_4]); exact Kd.pR HO_5.out⟩, ⟨by (try simp only [hl5_1, hl5_2, hl5_4, hl6_4]); (with_reducible repeat (first | apply Kd.R_alloc | apply Kd.R_drewN | apply Kd.R_drew)); exact Kd.R_mono HO_6.out (fun _ hk => hk.1)⟩, ⟨by (try simp only [hl5_1, hl5_2, hl5_4, hl6_4]); (with_reducible repeat (first | apply Kd.N_alloc | apply Kd.N_drewN | apply Kd.N_drew)); exact Kd.N_mono HO_80.out (fun _ hk => ⟨hk.1.1, ⟨hk.1.2.1, ⟨hk.1.2.2.1, ⟨hk.1.2.2.2.1, ⟨hk.1.2.2.2.2.1, hk.1.2.2.2.2.2⟩⟩⟩⟩⟩)⟩, ⟨by (try simp only [hl5_1, hl5_2, hl5_4, hl6_4]); (with_reducible repeat (first | apply Kd.R_alloc | apply Kd.R_drewN | apply Kd.R_drew)); exact Kd.R_mono HO_240000.out (fun _ hk => hk.1)⟩, ⟨by (try simp only [hl5_1, hl5_2, hl5_4, hl6_4]); exact pk BK220.out⟩, ⟨by (try simp only [hl5_1, hl5_2, hl5_4, hl6_4]); exact pk BK221.out⟩, ⟨by (try simp only [hl5_1, hl5_2, hl5_4, hl6_4]); exact pk BK239.out⟩, ⟨by repeat (first | exact HB.out | apply ba_ | apply bN_ | apply b1_ | refine below_set ?_ (Aside0.out (by assumption)))⟩⟩
                          ·
                           rw [if_neg c86] at H
                           exact absurd H (by simp)
                         ·
                          rw [if_neg c85] at H
                          exact absurd H (by simp)
                        ·
                         rw [if_neg c74] at H
                         exact absurd H (by simp)
                       ·
                        rw [if_neg c73] at H
                        exact absurd H (by simp)
                      ·
                       rw [if_neg c70] at H
                       exact absurd H (by simp)
                     ·
                      rw [if_neg c69] at H
                      exact absurd H (by simp)
                    ·
                     rw [if_neg c68] at H
                     have c68b0 : decide (x82_4 < (t240.length : Int)) = false := decide_eq_false c68
                     have c68b9 := c68b0; (try rw [hl5_4] at c68b9); (try rw [hl6_4] at c68b9)
                     clear c68
                     have H' := ak_ H
                     clear H
                     go_wp2
                     (try simp only [← hl5_2, ← hl5_4, ← hl6_4])
                     go_roundg k4
                     case measure => have := HK1.out; have := HK2.out; have := HK3.out; have := HK4.out; omega
                     case rel => exact ⟨(x5_4), (y234), H', ⟨by have := HK1.out; have := HK2.out; have := HK3.out; have := HK4.out; omega⟩, ⟨by (try simp only [hl5_1, hl5_2, hl5_4, hl6_4]); exact Kd.pR HO_5.out⟩, ⟨by (try simp only [hl5_1, hl5_2, hl5_4, hl6_4]); (with_reducible repeat (first | apply Kd.R_alloc | apply Kd.R_drewN | apply Kd.R_drew)); exact Kd.R_mono HO_6.out (fun _ hk => trivial)⟩, ⟨by (try simp only [hl5_1, hl5_2, hl5_4, hl6_4]); exact pk BK220.out⟩, ⟨by (try simp only [hl5_1, hl5_2, hl5_4, hl6_4]); exact pk BK221.out⟩, ⟨by repeat (first | exact HB.out | apply ba_ | apply bN_ | apply b1_ | refine below_set ?_ (Aside0.out (by assumption)))⟩⟩
                 ·
                  rw [if_neg c51] at H
                  exact absurd H (by simp)
                ·
                 rw [if_neg c50] at H
                 exact absurd H (by simp)
         ·
          rw [if_neg c25] at H
          exact absurd H (by simp)
        ·
         rw [if_neg c24] at H
         exact absurd H (by simp)
    ·
     rw [if_neg c7] at H
     exact absurd H (by simp)
   ·
    rw [if_neg c6] at H
    exact absurd H (by simp)
  ·
   rw [if_neg c5] at H
   exact absurd H (by simp)
 ·
  rw [if_neg c4] at H
  exact absurd H (by simp)
end Go.Proofs.Ythkchdfkeieabaa.QGr
