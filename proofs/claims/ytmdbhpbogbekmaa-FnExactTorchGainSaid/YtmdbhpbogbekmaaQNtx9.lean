/- Contracts of functions of the given program, walked. Conditions: those at each theorem. -/
import Derived.Test.YtmdbhpbogbekmaaQNtx0
import Derived.Test.YtmdbhpbogbekmaaQNtx5
import Derived.Test.YtmdbhpbogbekmaaQNtx7
namespace Go.Proofs.Ytmdbhpbogbekmaa.QNt
open Go.RowKit Go.Proofs.YtmdbhpbogbekmaaW.PrintWords Go.Proofs.YtmdbhpbogbekmaaW.PrintLast Go.Proofs.YtmdbhpbogbekmaaW.PrintMore
open List (setIfInBounds_toArray set_cons_zero set_cons_succ map_toArray map_cons map_nil)
attribute [local go_sem] max2_int min2_int max_two min_two max_three min_three max_four min_four
set_option linter.unusedVariables false
set_option maxHeartbeats 8000000
set_option maxRecDepth 100000
set_option linter.unusedSimpArgs false
mutual
def spec_toLeast.l0 : Nat → Bool → List Int → Int → Int → List Int → Int → Int → Option (List Int)
 | 0, _, _, _, _, _, _, _ => none
 | k + 1, x1, x6, x25, x26, x364000, x364001, x364002 => if x26 < x25 then (if 0 ≤ x26 then (if x26 < (x6.length : Int) then ((some (x6.set (x26 : Int).toNat (-1) : List Int)).bind fun y367 => ((spec_toCampOf.f k x364000 x364001 x364002 x26).bind fun bt368 => ((spec_toOver.f k bt368.1 bt368.2).bind fun t372 => (if t372 = true then (spec_toLeast.l0 k x1 (y367.set (x26 : Int).toNat 0) x25 (wrap64 (x26 + 1)) x364000 x364001 x364002) else (spec_toLeast.l0 k x1 y367 x25 (wrap64 (x26 + 1)) x364000 x364001 x364002))))) else (none)) else (none)) else (spec_toLeast.l1 k x1 x6 true x364000 x364001 x364002)
def spec_toLeast.l1 : Nat → Bool → List Int → Bool → List Int → Int → Int → Option (List Int)
 | 0, _, _, _, _, _, _ => none
 | k + 1, x1, x6, x8, x364000, x364001, x364002 => if x8 = true then (spec_toLeast.l2 k x1 x6 false (x6.length : Int) 0 x364000 x364001 x364002) else (some x6)
def spec_toLeast.l2 : Nat → Bool → List Int → Bool → Int → Int → List Int → Int → Int → Option (List Int)
 | 0, _, _, _, _, _, _, _, _ => none
 | k + 1, x1, x6, x8, x42, x43, x364000, x364001, x364002 => if x43 < x42 then ((spec_toCampOf.f k x364000 x364001 x364002 x43).bind fun bt374 => ((spec_toRounds.f k x364000 x364001 x364002 bt374.1 bt374.2).bind fun t379 => (spec_toLeast.l3 k x1 x6 x8 x43 x42 x43 t379 (t379.length : Int) 0 x364000 x364001 x364002 bt374.1 bt374.2))) else (spec_toLeast.l1 k x1 x6 x8 x364000 x364001 x364002)
def spec_toLeast.l3 : Nat → Bool → List Int → Bool → Int → Int → Int → List (List (List Int)) → Int → Int → List Int → Int → Int → List Bool → Int → Option (List Int)
 | 0, _, _, _, _, _, _, _, _, _, _, _, _, _, _ => none
 | k + 1, x1, x6, x8, x9, x42, x43, x51, x52, x53, x364000, x364001, x364002, x379000, x379001 => if x53 < x52 then (if 0 ≤ x53 then (if x53 < (x51.length : Int) then ((spec_toAfter.f k x379000 x379001 (rd_L3 x51 x53)).bind fun bt383 => ((spec_toCode.f k x364000 x364001 x364002 bt383.1 bt383.2).bind fun t387 => (if 0 ≤ t387 then (if t387 < (x6.length : Int) then (if (rd x6 t387) < 0 then (spec_toLeast.l3 k x1 x6 x8 x9 x42 x43 x51 x52 (wrap64 (x53 + 1)) x364000 x364001 x364002 x379000 x379001) else (if x1 = true then (if 0 ≤ x9 then (if x9 < (x6.length : Int) then (if (rd x6 x9) < 0 then (spec_toLeast.l3 k x1 (x6.set (x9 : Int).toNat (wrap64 ((rd x6 t387) + 1))) true x9 x42 x43 x51 x52 (wrap64 (x53 + 1)) x364000 x364001 x364002 x379000 x379001) else (if (wrap64 ((rd x6 t387) + 1)) < (rd x6 x9) then (spec_toLeast.l3 k x1 (x6.set (x9 : Int).toNat (wrap64 ((rd x6 t387) + 1))) true x9 x42 x43 x51 x52 (wrap64 (x53 + 1)) x364000 x364001 x364002 x379000 x379001) else (spec_toLeast.l3 k x1 x6 x8 x9 x42 x43 x51 x52 (wrap64 (x53 + 1)) x364000 x364001 x364002 x379000 x379001))) else (none)) else (none)) else ((spec_toTime.f k x364000 x364001 x364002 (rd_L3 x51 x53)).bind fun t393 => (if 0 ≤ x9 then (if x9 < (x6.length : Int) then (if (rd x6 x9) < 0 then (spec_toLeast.l3 k x1 (x6.set (x9 : Int).toNat (wrap64 ((rd x6 t387) + t393))) true x9 x42 x43 x51 x52 (wrap64 (x53 + 1)) x364000 x364001 x364002 x379000 x379001) else (if (wrap64 ((rd x6 t387) + t393)) < (rd x6 x9) then (spec_toLeast.l3 k x1 (x6.set (x9 : Int).toNat (wrap64 ((rd x6 t387) + t393))) true x9 x42 x43 x51 x52 (wrap64 (x53 + 1)) x364000 x364001 x364002 x379000 x379001) else (spec_toLeast.l3 k x1 x6 x8 x9 x42 x43 x51 x52 (wrap64 (x53 + 1)) x364000 x364001 x364002 x379000 x379001))) else (none)) else (none))))) else (none)) else (none)))) else (none)) else (none)) else (spec_toLeast.l2 k x1 x6 x8 x42 (wrap64 (x43 + 1)) x364000 x364001 x364002)
end
def spec_toLeast.f (k : Nat) (l0_0 : List Int) (a0_1 : Int) (a0_2 : Int) (a1 : Bool) : Option (List Int) := if 0 ≤ (shl .i64 (wrap64 (a0_2 + 1)) (l0_0.length : Int)) then (if (shl .i64 (wrap64 (a0_2 + 1)) (l0_0.length : Int) : Int).toNat ≤ 35184372088832 then ((some (List.replicate (shl .i64 (wrap64 (a0_2 + 1)) (l0_0.length : Int) : Int).toNat 0 : List Int)).bind fun y364 => (spec_toLeast.l0 k a1 y364 (y364.length : Int) 0 l0_0 a0_1 a0_2)) else (none)) else (none)
theorem spec_toLeast.mono_l : ∀ k, (∀ y0 y1 y2 y3 y4 y5 y6, LeO (spec_toLeast.l0 k y0 y1 y2 y3 y4 y5 y6) (spec_toLeast.l0 (k + 1) y0 y1 y2 y3 y4 y5 y6)) ∧ (∀ y0 y1 y2 y3 y4 y5, LeO (spec_toLeast.l1 k y0 y1 y2 y3 y4 y5) (spec_toLeast.l1 (k + 1) y0 y1 y2 y3 y4 y5)) ∧ (∀ y0 y1 y2 y3 y4 y5 y6 y7, LeO (spec_toLeast.l2 k y0 y1 y2 y3 y4 y5 y6 y7) (spec_toLeast.l2 (k + 1) y0 y1 y2 y3 y4 y5 y6 y7)) ∧ (∀ y0 y1 y2 y3 y4 y5 y6 y7 y8 y9 y10 y11 y12 y13, LeO (spec_toLeast.l3 k y0 y1 y2 y3 y4 y5 y6 y7 y8 y9 y10 y11 y12 y13) (spec_toLeast.l3 (k + 1) y0 y1 y2 y3 y4 y5 y6 y7 y8 y9 y10 y11 y12 y13))
 | 0 => ⟨fun _ _ _ _ _ _ _ r h => by simp [spec_toLeast.l0] at h, fun _ _ _ _ _ _ r h => by simp [spec_toLeast.l1] at h, fun _ _ _ _ _ _ _ _ r h => by simp [spec_toLeast.l2] at h, fun _ _ _ _ _ _ _ _ _ _ _ _ _ _ r h => by simp [spec_toLeast.l3] at h⟩
 | k + 1 => by
  obtain ⟨ih0, ih1, ih2, ih3⟩ := spec_toLeast.mono_l k
  refine ⟨?_, ?_, ?_, ?_⟩
  ·intro y0 y1 y2 y3 y4 y5 y6
   unfold spec_toLeast.l0
   repeat' first
   | (with_reducible first | exact ih0 _ _ _ _ _ _ _ | exact ih1 _ _ _ _ _ _ | exact ih2 _ _ _ _ _ _ _ _ | exact ih3 _ _ _ _ _ _ _ _ _ _ _ _ _ _ | exact spec_toAfter.mono _ _ _ _ | exact spec_toCampOf.mono _ _ _ _ _ | exact spec_toCode.mono _ _ _ _ _ _ | exact spec_toOver.mono _ _ _ | exact spec_toRounds.mono _ _ _ _ _ _ | exact spec_toTime.mono _ _ _ _ _ | exact LeO.refl _ | exact LeO.none _ | refine LeO.ite ?_ ?_ | refine LeO.bind ?_ (fun _ => ?_))
  ·intro y0 y1 y2 y3 y4 y5
   unfold spec_toLeast.l1
   repeat' first
   | (with_reducible first | exact ih0 _ _ _ _ _ _ _ | exact ih1 _ _ _ _ _ _ | exact ih2 _ _ _ _ _ _ _ _ | exact ih3 _ _ _ _ _ _ _ _ _ _ _ _ _ _ | exact spec_toAfter.mono _ _ _ _ | exact spec_toCampOf.mono _ _ _ _ _ | exact spec_toCode.mono _ _ _ _ _ _ | exact spec_toOver.mono _ _ _ | exact spec_toRounds.mono _ _ _ _ _ _ | exact spec_toTime.mono _ _ _ _ _ | exact LeO.refl _ | exact LeO.none _ | refine LeO.ite ?_ ?_ | refine LeO.bind ?_ (fun _ => ?_))
  ·intro y0 y1 y2 y3 y4 y5 y6 y7
   unfold spec_toLeast.l2
   repeat' first
   | (with_reducible first | exact ih0 _ _ _ _ _ _ _ | exact ih1 _ _ _ _ _ _ | exact ih2 _ _ _ _ _ _ _ _ | exact ih3 _ _ _ _ _ _ _ _ _ _ _ _ _ _ | exact spec_toAfter.mono _ _ _ _ | exact spec_toCampOf.mono _ _ _ _ _ | exact spec_toCode.mono _ _ _ _ _ _ | exact spec_toOver.mono _ _ _ | exact spec_toRounds.mono _ _ _ _ _ _ | exact spec_toTime.mono _ _ _ _ _ | exact LeO.refl _ | exact LeO.none _ | refine LeO.ite ?_ ?_ | refine LeO.bind ?_ (fun _ => ?_))
  ·intro y0 y1 y2 y3 y4 y5 y6 y7 y8 y9 y10 y11 y12 y13
   unfold spec_toLeast.l3
   repeat' first
   | (with_reducible first | exact ih0 _ _ _ _ _ _ _ | exact ih1 _ _ _ _ _ _ | exact ih2 _ _ _ _ _ _ _ _ | exact ih3 _ _ _ _ _ _ _ _ _ _ _ _ _ _ | exact spec_toAfter.mono _ _ _ _ | exact spec_toCampOf.mono _ _ _ _ _ | exact spec_toCode.mono _ _ _ _ _ _ | exact spec_toOver.mono _ _ _ | exact spec_toRounds.mono _ _ _ _ _ _ | exact spec_toTime.mono _ _ _ _ _ | exact LeO.refl _ | exact LeO.none _ | refine LeO.ite ?_ ?_ | refine LeO.bind ?_ (fun _ => ?_))
def spec_toLeast.T20 : Bool × List (List Nat × List Nat) := (true, [([], []), ([], []), ([], []), ([], []), ([2, 3], [2, 3]), ([1, 4, 4], [1, 4]), ([0, 5], [0, 5]), ([6], [6]), ([7, 5, 0, 1, 2, 3, 4, 5, 6, 7], [7])])
def spec_toLeast.B20 : List Nat := [0, 0, 0, 0, 12, 30, 63, 127, 255]
theorem spec_toLeast.tab20 : rtab .any (opsOf Try.f57 20) = spec_toLeast.T20 := by kernel_rfl
theorem spec_toLeast.bits20 : waitsOk spec_toLeast.T20.2 spec_toLeast.B20 = true := by kernel_rfl
theorem spec_toLeast.calls (k : Nat) (A0_0 : Option Addr) (c0_0 : Nat) (l0_0 : List Int) (a0_1 : Int) (a0_2 : Int) (a1 : Bool) (r : List Int) (w : World) (hr0_0 : Kd.C (Kd.int .i64) w A0_0 l0_0.length l0_0) (hc0_0 : l0_0.length ≤ c0_0) (h : spec_toLeast.f k l0_0 a0_1 a0_2 a1 = some r) :
  Calls Try.prog 57 #[.agg #[.slice A0_0 l0_0.length c0_0, .int .i64 a0_1, .int .i64 a0_2], .bool a1] w fun e w' => ∃ v0_ : Value, e = .returned (v0_) ∧ Kd.R (Kd.int .i64) 3 w' w.heap.size (fun _ => True) v0_ r ∧ Below w.heap.size w w' := by
 have hu33 := Try.underlying33
 have hu35 := Try.underlying35
 have HR0_0 := ak_ hr0_0
 have HC0_0 := ak_ hc0_0
 clear hr0_0 hc0_0
 have HB := ak_ (Below.refl w.heap.size w)
 have H : (if 0 ≤ (shl .i64 (wrap64 (a0_2 + 1)) (l0_0.length : Int)) then (if (shl .i64 (wrap64 (a0_2 + 1)) (l0_0.length : Int) : Int).toNat ≤ 35184372088832 then ((some (List.replicate (shl .i64 (wrap64 (a0_2 + 1)) (l0_0.length : Int) : Int).toNat 0 : List Int)).bind fun y364 => (spec_toLeast.l0 k a1 y364 (y364.length : Int) 0 l0_0 a0_1 a0_2)) else (none)) else (none)) = some r := h
 clear h
 obtain ⟨ji3, hji3⟩ : ∃ j_ : Int, (shl .i64 (wrap64 (a0_2 + 1)) (l0_0.length : Int)) = j_ := ⟨_, rfl⟩
 replace H : (if 0 ≤ (ji3) then (if (ji3 : Int).toNat ≤ 35184372088832 then ((some (List.replicate (ji3 : Int).toNat 0 : List Int)).bind fun y364 => (spec_toLeast.l0 k a1 y364 (y364.length : Int) 0 l0_0 a0_1 a0_2)) else (none)) else (none)) = some r := by first | (rw [hji3] at H; exact H) | (simp only [hji3] at H ⊢; exact H)
 have hji3_ : (IntKind.i64.wrap ((wrap64 (a0_2 + 1)) * 2 ^ min (l0_0.length : Int).toNat 64)) = ji3 := hji3
 have hji3z : (l0_0.length : Int) ≤ 64 → (IntKind.i64.wrap ((wrap64 (a0_2 + 1)) * 2 ^ (l0_0.length : Int).toNat)) = ji3 := shl_small hji3
 have hji3p : (IntKind.i64.wrap ((wrap64 (a0_2 + 1)) * 2 ^ min l0_0.length 64)) = ji3 := hji3_
 have hji3q : (l0_0.length : Int) ≤ 64 → (IntKind.i64.wrap ((wrap64 (a0_2 + 1)) * 2 ^ l0_0.length)) = ji3 := hji3z
 have hji3y : (wrap64 ((wrap64 (a0_2 + 1)) * 2 ^ min (l0_0.length : Int).toNat 64)) = ji3 := (i64_w _).symm.trans hji3_
 have hji3x : (l0_0.length : Int) ≤ 64 → (wrap64 ((wrap64 (a0_2 + 1)) * 2 ^ (l0_0.length : Int).toNat)) = ji3 := fun h_ => (i64_w _).symm.trans (hji3z h_)
 by_cases c4 : 0 ≤ (ji3)
 ·
  rw [if_pos c4] at H
  have c4b0 := eq_true c4
  have c4b1 := decide_eq_true c4
  clear c4
  by_cases c5 : (ji3 : Int).toNat ≤ 35184372088832
  ·
   rw [if_pos c5] at H
   have c5b0 := eq_true c5
   have c5b1 := decide_eq_true c5
   clear c5
   obtain ⟨y364, hy364⟩ : ∃ y_ : List Int, y_ = (List.replicate (ji3 : Int).toNat 0) := ⟨_, rfl⟩
   replace H : (spec_toLeast.l0 k a1 y364 (y364.length : Int) 0 l0_0 a0_1 a0_2) = some r := by first | (rw [hy364]; exact H) | exact H
   have Ny364 := ak_ hy364
   clear hy364
   have H' := ak_ H
   clear H
   go_enter Try.func57, Try.ntmps57
   go_wp2_with (first | ((with_reducible refine gate_dst (N := 2) rfl ?_); refine bx_ 2 #[.slice A0_0 l0_0.length c0_0, .int .i64 a0_1, .int .i64 a0_2] 33 ?_; intro gb363 hg w6 hbox hb; have BK363 := ak_ (hbox); have GW363 := ak_ ((by rw [hg]; exact (bz_ (bb_ HB.out)) : w.heap.size ≤ gb363)); replace HB := ak_ (bs_ (bb_ HB.out) hb); have GE363 := GW363; clear hb hbox hg; obtain ⟨hcz7_0, hcz7_1, hcz7_2, hfz7_0, hfz7_1, hfz7_2⟩ := c3_ BK363.out) | ((with_reducible refine gate_dst (N := 23) rfl ?_); refine Kd.R_make (Kd.int .i64) _ 3 rfl (N := 23) rfl 22 _ _ rfl ji3 rfl rfl Try.underlying22 (.int .i64 0) 8 info3 rfl (by decide) (by omega) 0 (ok := fun _ => True) (okp := fun _ => True) rfl (fun _ hk => hk) trivial (odt_ (by assumption)) (Nat.le_trans (Nat.mul_le_mul_right _ (odt_ (by assumption) : ji3.toNat ≤ 35184372088832)) (by omega)) (Below.refl _ _) (Nat.le_refl _) ?_; intro v365 w8 ho9 hb hg_ hnew_; clear hg_ hnew_; (first | rw [← Ny364.out] at ho9 | (simp only [Int.reduceToNat] at ho9; rw [← Ny364.out] at ho9)); have HO366 := ak_ (Kd.R_lower ho9 (bz_ bl_)); replace BK363 := ak_ (blk_below (pk BK363.out) hb); replace HB := ak_ (bs_ bl_ hb); clear hb ho9; obtain ⟨Ao10, co10, eo10⟩ := Kd.R_slice HO366.out; subst eo10))
   go_loopg [26] k (fun kq v26 w' => ∃ (x6_1 : List Int) (x26_1 : Int), v26 = .int .i64 x26_1 ∧ Aside0 (spec_toLeast.l0 kq a1 x6_1 (y364.length : Int) x26_1 l0_0 a0_1 a0_2 = some r) ∧ Aside0 (kq ≤ k) ∧ Aside0 (Kd.R (Kd.int .i64) 3 w' w.heap.size (fun _ => True) (.slice Ao10 y364.length co10) x6_1) ∧ Aside0 (w'.heap[gb363]? = some (.cells #[(.slice A0_0 l0_0.length c0_0), .int .i64 a0_1, .int .i64 a0_2] 33 (0, 0))) ∧ Aside0 (Below w.heap.size w w'))
   case atStart => exact ⟨(y364), (0), (ry_), H', ⟨Nat.le_refl _⟩, ⟨Kd.pR HO366.out⟩, ⟨pk BK363.out⟩, ⟨bl_⟩⟩
   case round =>
    clear H'
    try clear p2
    try clear c4
    try clear c4b0
    try clear c4b1
    try clear c5
    try clear c5b0
    try clear c5b1
    try clear p6
    try clear hcz7_0
    try clear hcz7_1
    try clear hcz7_2
    try clear hfz7_0
    try clear hfz7_1
    try clear hfz7_2
    obtain ⟨x6_1, x26_1, rfl, HA, HK1, HO_6, BK363, HB⟩ := hrel
    have hl6_1 := (Kd.R_reads' HO_6.out).1
    rw [hl6_1] at HO_6
    (try simp only [hl6_1])
    (try simp only [hl6_1] at BK363)
    cases gk with
    | zero => exact absurd HA.out (by simp [spec_toLeast.l0])
    | succ k1 =>
     have H := HA.out
     clear HA
     simp only [spec_toLeast.l0] at H
     by_cases c11 : x26_1 < (y364.length : Int)
     ·
      rw [if_pos c11] at H
      have c11b0 := decide_eq_true c11
      have c11b9 := c11b0; (try rw [hl6_1] at c11b9)
      clear c11
      by_cases c12 : 0 ≤ x26_1
      ·
       rw [if_pos c12] at H
       have c12b0 := decide_eq_true c12
       clear c12
       by_cases c13 : x26_1 < (x6_1.length : Int)
       ·
        rw [if_pos c13] at H
        have c13b0 := decide_eq_true c13
        have c13b9 := c13b0; (try rw [hl6_1] at c13b9)
        clear c13
        obtain ⟨y367, hy367⟩ : ∃ y_ : List Int, y_ = (x6_1.set (x26_1 : Int).toNat (-1)) := ⟨_, rfl⟩
        replace H : ((spec_toCampOf.f k1 l0_0 a0_1 a0_2 x26_1).bind fun bt368 => ((spec_toOver.f k1 bt368.1 bt368.2).bind fun t372 => (if t372 = true then (spec_toLeast.l0 k1 a1 (y367.set (x26_1 : Int).toNat 0) (y364.length : Int) (wrap64 (x26_1 + 1)) l0_0 a0_1 a0_2) else (spec_toLeast.l0 k1 a1 y367 (y364.length : Int) (wrap64 (x26_1 + 1)) l0_0 a0_1 a0_2)))) = some r := by first | (rw [hy367]; exact H) | exact H
        have Ny367 := ak_ hy367
        clear hy367
        replace H := Option.bind_eq_some_iff.mp H
        obtain ⟨⟨t368, t371⟩, A150, H⟩ := H
        replace H : ((spec_toOver.f k1 t368 t371).bind fun t372 => (if t372 = true then (spec_toLeast.l0 k1 a1 (y367.set (x26_1 : Int).toNat 0) (y364.length : Int) (wrap64 (x26_1 + 1)) l0_0 a0_1 a0_2) else (spec_toLeast.l0 k1 a1 y367 (y364.length : Int) (wrap64 (x26_1 + 1)) l0_0 a0_1 a0_2))) = some r := H
        have A15 := ak_ A150
        clear A150
        replace H := Option.bind_eq_some_iff.mp H
        obtain ⟨t372, A160, H⟩ := H
        replace H : (if t372 = true then (spec_toLeast.l0 k1 a1 (y367.set (x26_1 : Int).toNat 0) (y364.length : Int) (wrap64 (x26_1 + 1)) l0_0 a0_1 a0_2) else (spec_toLeast.l0 k1 a1 y367 (y364.length : Int) (wrap64 (x26_1 + 1)) l0_0 a0_1 a0_2)) = some r := H
        have A16 := ak_ A160
        clear A160
        have HC17 := ak_ H
        clear H
        have p14 : 0 ≤ (x26_1 : Int) := od_
        have q14 : (x26_1 : Int) < ((x6_1.length : Int) : Int) := od_
        obtain ⟨go14, co14, eo14, gb14, gl14, cl14, HG14⟩ := Kd.R_form HO_6.out (by omega)
        (first | cases eo14 | (injection eo14 with ea_ en_ ec_; (first | subst ea_ | (injection ea_ with ea_; subst ea_)); subst ec_; clear en_))
        have GB14 := ak_ gb14
        have GG14 := ak_ HG14
        clear gb14 gl14 HG14
        obtain ⟨hx14_0, hf14_0⟩ := Kd.R_celln 0 HO_6.out (x26_1 : Int) p14 q14
        replace p14 := eq_true p14
        replace q14 := eq_true q14
        have HP18 := Kd.R_putg HO_6.out (x26_1 : Int) (-1)
        go_upto_if 35 with (first | ((with_reducible refine gate_store (t := 3) (p := 31) rfl ?_); refine store_event (t := 3) (p := 31) (v := ?vo_w19) (w1 := (wr.setCell ⟨go14, (x26_1 : Int).toNat, none⟩ (.int .i64 (-1)))) ?hg ?ho ?hn ?hr ?_; (case ho => rfl); (case hg => rfl); (case hn => rfl); (case hr => go_simp <;> rfl); intro w19 hw; have hg : wr.grownBy w19 (some go14) := (by rw [hw]; exact HP18.2); have hp_ : Kd.R (Kd.int .i64) 3 w19 w.heap.size (fun _ => True) (.slice (some ⟨go14, 0, none⟩) x6_1.length co10) y367 := (by rw [hw, Ny367.out]; exact HP18.1); clear HP18; replace BK363 := ak_ (blk_grown (pk BK363.out) hg (Kd.R_ne HO_6.out BK363.out (by decide))); replace HO_6 := ak_ (hp_); replace HB := ak_ ((by rw [hw]; exact below_set (HB.out) GB14.out : Below w.heap.size w w19)); clear hg hw hp_; obtain ⟨hcz20_0, hcz20_1, hcz20_2, hfz20_0, hfz20_1, hfz20_2⟩ := c3_ BK363.out) | ((with_reducible refine gate_callee (f := 51) rfl ?_); refine goesL_ (some 34) rfl rfl Try.func51 (by kernel_rfl) rfl #[.agg #[.slice A0_0 l0_0.length c0_0, .int .i64 a0_1, .int .i64 a0_2], .int .i64 x26_1] rfl rs_ ?_; (with_reducible refine (spec_toCampOf.calls k1 _ _ l0_0 a0_1 a0_2 x26_1 t368 t371 _ ?side1 ?side2 A15.out).mono ?_); (case side1 => exact cs_ (Kd.C_below HR0_0.out HB.out)); (case side2 => exact HC0_0.out); rintro e w21 ⟨v369, rfl, ho0, hb⟩; refine ⟨_, rfl, ?_⟩; replace HO_6 := ak_ (Kd.R_below (Kd.pR HO_6.out) hb); have HO370 := ak_ (Kd.R_lower ho0 (bz_ bl_)); replace BK363 := ak_ (blk_below (pk BK363.out) hb); replace HB := ak_ (bs_ bl_ hb); (try clear hb); (try clear hb2); (try clear hk); (try clear hi); (try clear ho0); obtain ⟨Ao22, co22, eo22⟩ := Kd.R_slice HO370.out; subst eo22) | ((with_reducible refine gate_callee (f := 61) rfl ?_); refine goesL_ (some 35) rfl rfl Try.func61 (by kernel_rfl) rfl #[.agg #[.slice Ao22 t368.length co22, .int .i64 t371]] rfl rs_ ?_; (with_reducible refine (spec_toOver.calls k1 _ _ t368 t371 t372 _ ?side1 ?side2 A16.out).mono ?_); (case side1 => exact cs_ ((Kd.R_reads' HO370.out).2.2)); (case side2 => exact (Kd.R_reads' HO370.out).2.1); rintro e w23 ⟨rfl, hb⟩; refine ⟨_, rfl, ?_⟩; replace HO_6 := ak_ (Kd.R_below (Kd.pR HO_6.out) hb); replace HO370 := ak_ (Kd.R_below (Kd.pR HO370.out) hb); replace BK363 := ak_ (blk_below (pk BK363.out) hb); replace HB := ak_ (bs_ bl_ hb); (try clear hb); (try clear hb2); (try clear hk); (try clear hi)))
        (try simp only [Act.put, setIfInBounds_toArray, set_cons_zero, set_cons_succ])
        have H := HC17.out
        clear HC17
        by_cases c24 : t372 = true
        ·
         subst c24
         have H1 : (spec_toLeast.l0 k1 a1 (y367.set (x26_1 : Int).toNat 0) (y364.length : Int) (wrap64 (x26_1 + 1)) l0_0 a0_1 a0_2) = some r := by rw [if_pos rfl] at H; exact H
         clear H
         have H := H1
         clear H1
         obtain ⟨y373, hy373⟩ : ∃ y_ : List Int, y_ = (y367.set (x26_1 : Int).toNat 0) := ⟨_, rfl⟩
         replace H : (spec_toLeast.l0 k1 a1 y373 (y364.length : Int) (wrap64 (x26_1 + 1)) l0_0 a0_1 a0_2) = some r := by first | (rw [hy373]; exact H) | exact H
         have Ny373 := ak_ hy373
         clear hy373
         have H' := ak_ H
         clear H
         have p25 : 0 ≤ (x26_1 : Int) := od_
         have q25 : (x26_1 : Int) < ((x6_1.length : Int) : Int) := od_
         obtain ⟨hx25_0, hf25_0⟩ := Kd.R_celln 0 HO_6.out (x26_1 : Int) p25 q25
         replace p25 := eq_true p25
         replace q25 := eq_true q25
         have HP26 := Kd.R_putg HO_6.out (x26_1 : Int) 0
         go_wp2_with (first | ((with_reducible refine gate_store (t := 3) (p := 38) rfl ?_); refine store_event (t := 3) (p := 38) (v := ?vo_w27) (w1 := (w23.setCell ⟨go14, (x26_1 : Int).toNat, none⟩ (.int .i64 0))) ?hg ?ho ?hn ?hr ?_; (case ho => rfl); (case hg => rfl); (case hn => rfl); (case hr => go_simp <;> rfl); intro w27 hw; have hg : w23.grownBy w27 (some go14) := (by rw [hw]; exact HP26.2); have hp_ : Kd.R (Kd.int .i64) 3 w27 w.heap.size (fun _ => True) (.slice (some ⟨go14, 0, none⟩) x6_1.length co10) y373 := (by rw [hw, Ny373.out]; exact HP26.1); clear HP26; replace BK363 := ak_ (blk_grown (pk BK363.out) hg (Kd.R_ne HO_6.out BK363.out (by decide))); replace HO370 := ak_ (Kd.R_over' (v := (.slice (some ⟨go14, 0, none⟩) x6_1.length co10)) (Kd.pR HO370.out) (Kd.R_typed HO_6.out) (by decide) hg); replace HO_6 := ak_ (hp_); replace HB := ak_ ((by rw [hw]; exact below_set (HB.out) GB14.out : Below w.heap.size w w27)); clear hg hw hp_))
         (try simp only [← hl6_1])
         go_roundg k1
         case measure => have := HK1.out; omega
         case rel => exact ⟨(y373), (wrap64 (x26_1 + 1)), (ry_), H', ⟨by have := HK1.out; omega⟩, ⟨by (try simp only [hl6_1]); exact Kd.pR HO_6.out⟩, ⟨by (try simp only [hl6_1]); exact pk BK363.out⟩, ⟨bl_⟩⟩
        ·
         replace c24 := Bool.eq_false_iff.mpr c24
         subst c24
         have H1 : (spec_toLeast.l0 k1 a1 y367 (y364.length : Int) (wrap64 (x26_1 + 1)) l0_0 a0_1 a0_2) = some r := by rw [if_neg (show ¬ (false = true) by decide)] at H; exact H
         clear H
         have H := H1
         clear H1
         have H' := ak_ H
         clear H
         go_wp2
         (try simp only [← hl6_1])
         go_roundg k1
         case measure => have := HK1.out; omega
         case rel => exact ⟨(y367), (wrap64 (x26_1 + 1)), (ry_), H', ⟨by have := HK1.out; omega⟩, ⟨by (try simp only [hl6_1]); exact Kd.pR HO_6.out⟩, ⟨by (try simp only [hl6_1]); exact pk BK363.out⟩, ⟨bl_⟩⟩
       ·
        rw [if_neg c13] at H
        exact absurd H (by simp)
      ·
       rw [if_neg c12] at H
       exact absurd H (by simp)
     ·
      rw [if_neg c11] at H
      have c11b0 := decide_eq_false c11
      have c11b9 := c11b0; (try rw [hl6_1] at c11b9)
      clear c11
      have H' := ak_ H
      clear H
      go_wp2
      go_loopg [8] k1 (fun kq v8 w' => ∃ (x6_2 : List Int) (x8_2 : Bool), v8 = .bool x8_2 ∧ Aside0 (spec_toLeast.l1 kq a1 x6_2 x8_2 l0_0 a0_1 a0_2 = some r) ∧ Aside0 (kq ≤ k1) ∧ Aside0 (Kd.R (Kd.int .i64) 3 w' w.heap.size (fun _ => True) (.slice Ao10 x6_1.length co10) x6_2) ∧ Aside0 (w'.heap[gb363]? = some (.cells #[(.slice A0_0 l0_0.length c0_0), .int .i64 a0_1, .int .i64 a0_2] 33 (0, 0))) ∧ Aside0 (Below w.heap.size w w'))
      case atStart => exact ⟨(x6_1), (true), (ry_), H', ⟨Nat.le_refl _⟩, ⟨by (try simp only [hl6_1]); exact Kd.pR HO_6.out⟩, ⟨by (try simp only [hl6_1]); exact pk BK363.out⟩, ⟨bl_⟩⟩
      case round =>
       clear H'
       try clear c1
       try clear p1
       try clear q1
       try clear hx1
       try clear c2
       try clear p2
       try clear q2
       try clear hx2
       try clear hf2
       try clear c4
       try clear c4b0
       try clear c4b1
       try clear c5
       try clear c5b0
       try clear c5b1
       try clear c6
       try clear p6
       try clear c11
       try clear c11b0
       try clear c12
       try clear c12b0
       try clear c13
       try clear c13b0
       try clear p14
       try clear q14
       try clear hx14
       try clear hf14
       try clear c24
       try clear p25
       try clear q25
       try clear hx25
       try clear hf25
       try clear hcz20_0
       try clear hcz20_1
       try clear hcz20_2
       try clear hcz7_0
       try clear hcz7_1
       try clear hcz7_2
       try clear hfz20_0
       try clear hfz20_1
       try clear hfz20_2
       try clear hfz7_0
       try clear hfz7_1
       try clear hfz7_2
       try clear hx14_0
       try clear hx25_0
       try clear p14
       try clear p2
       try clear p25
       try clear p6
       try clear q14
       try clear q25
       obtain ⟨x6_2, x8_2, rfl, HA, HK2, HO_6, BK363, HB⟩ := hrel
       have hl6_2 := (Kd.R_reads' HO_6.out).1
       rw [hl6_2] at HO_6
       (try simp only [hl6_2])
       (try simp only [hl6_2] at BK363)
       cases gk with
       | zero => exact absurd HA.out (by simp [spec_toLeast.l1])
       | succ k2 =>
        have H := HA.out
        clear HA
        simp only [spec_toLeast.l1] at H
        by_cases c28 : x8_2 = true
        ·
         subst c28
         have H1 : (spec_toLeast.l2 k2 a1 x6_2 false (x6_2.length : Int) 0 l0_0 a0_1 a0_2) = some r := by rw [if_pos rfl] at H; exact H
         clear H
         have H := H1
         clear H1
         have H' := ak_ H
         clear H
         go_wp2
         go_loopg [8, 43] k2 (fun kq v8 v43 w' => ∃ (x6_3 : List Int) (x8_3 : Bool) (x43_3 : Int), v8 = .bool x8_3 ∧ v43 = .int .i64 x43_3 ∧ Aside0 (spec_toLeast.l2 kq a1 x6_3 x8_3 (x6_2.length : Int) x43_3 l0_0 a0_1 a0_2 = some r) ∧ Aside0 (kq ≤ k2) ∧ Aside0 (Kd.R (Kd.int .i64) 3 w' w.heap.size (fun _ => True) (.slice Ao10 x6_2.length co10) x6_3) ∧ Aside0 (w'.heap[gb363]? = some (.cells #[(.slice A0_0 l0_0.length c0_0), .int .i64 a0_1, .int .i64 a0_2] 33 (0, 0))) ∧ Aside0 (Below w.heap.size w w'))
         case atStart => exact ⟨(x6_2), (false), (0), (ry_), (ry_), H', ⟨Nat.le_refl _⟩, ⟨by (try simp only [hl6_1, hl6_2]); exact Kd.pR HO_6.out⟩, ⟨by (try simp only [hl6_1, hl6_2]); exact pk BK363.out⟩, ⟨bl_⟩⟩
         case round =>
          clear H'
          try clear c1
          try clear p1
          try clear q1
          try clear hx1
          try clear c2
          try clear p2
          try clear q2
          try clear hx2
          try clear hf2
          try clear c4
          try clear c4b0
          try clear c4b1
          try clear c5
          try clear c5b0
          try clear c5b1
          try clear c6
          try clear p6
          try clear c11
          try clear c11b0
          try clear c12
          try clear c12b0
          try clear c13
          try clear c13b0
          try clear p14
          try clear q14
          try clear hx14
          try clear hf14
          try clear c24
          try clear p25
          try clear q25
          try clear hx25
          try clear hf25
          try clear c28
          try clear hcz20_0
          try clear hcz20_1
          try clear hcz20_2
          try clear hcz7_0
          try clear hcz7_1
          try clear hcz7_2
          try clear hfz20_0
          try clear hfz20_1
          try clear hfz20_2
          try clear hfz7_0
          try clear hfz7_1
          try clear hfz7_2
          try clear hx14_0
          try clear hx25_0
          try clear p1
          try clear p14
          try clear p2
          try clear p25
          try clear p6
          try clear q1
          try clear q14
          try clear q2
          try clear q25
          obtain ⟨x6_3, x8_3, x43_3, rfl, rfl, HA, HK3, HO_6, BK363, HB⟩ := hrel
          have hl6_3 := (Kd.R_reads' HO_6.out).1
          rw [hl6_3] at HO_6
          (try simp only [hl6_3])
          (try simp only [hl6_3] at BK363)
          cases gk with
          | zero => exact absurd HA.out (by simp [spec_toLeast.l2])
          | succ k3 =>
           have H := HA.out
           clear HA
           simp only [spec_toLeast.l2] at H
           by_cases c29 : x43_3 < (x6_2.length : Int)
           ·
            rw [if_pos c29] at H
            have c29b0 := decide_eq_true c29
            have c29b9 := c29b0; (try rw [hl6_1] at c29b9); (try rw [hl6_2] at c29b9); (try rw [hl6_3] at c29b9)
            clear c29
            replace H := Option.bind_eq_some_iff.mp H
            obtain ⟨⟨t374, t377⟩, A300, H⟩ := H
            replace H : ((spec_toRounds.f k3 l0_0 a0_1 a0_2 t374 t377).bind fun t379 => (spec_toLeast.l3 k3 a1 x6_3 x8_3 x43_3 (x6_2.length : Int) x43_3 t379 (t379.length : Int) 0 l0_0 a0_1 a0_2 t374 t377)) = some r := H
            have A30 := ak_ A300
            clear A300
            replace H := Option.bind_eq_some_iff.mp H
            obtain ⟨t379, A310, H⟩ := H
            replace H : (spec_toLeast.l3 k3 a1 x6_3 x8_3 x43_3 (x6_2.length : Int) x43_3 t379 (t379.length : Int) 0 l0_0 a0_1 a0_2 t374 t377) = some r := H
            have A31 := ak_ A310
            clear A310
            have H' := ak_ H
            clear H
            obtain ⟨hcz32_0, hcz32_1, hcz32_2, hfz32_0, hfz32_1, hfz32_2⟩ := c3_ BK363.out
            go_wp2_with (first | ((with_reducible refine gate_callee (f := 51) rfl ?_); refine goesL_ (some 48) rfl rfl Try.func51 (by kernel_rfl) rfl #[.agg #[.slice A0_0 l0_0.length c0_0, .int .i64 a0_1, .int .i64 a0_2], .int .i64 x43_3] rfl rs_ ?_; (with_reducible refine (spec_toCampOf.calls k3 _ _ l0_0 a0_1 a0_2 x43_3 t374 t377 _ ?side1 ?side2 A30.out).mono ?_); (case side1 => exact cs_ (Kd.C_below HR0_0.out HB.out)); (case side2 => exact HC0_0.out); rintro e w33 ⟨v375, rfl, ho0, hb⟩; refine ⟨_, rfl, ?_⟩; replace HO_6 := ak_ (Kd.R_below (Kd.pR HO_6.out) hb); have HO376 := ak_ (Kd.R_lower ho0 (bz_ bl_)); replace BK363 := ak_ (blk_below (pk BK363.out) hb); replace HB := ak_ (bs_ bl_ hb); (try clear hb); (try clear hb2); (try clear hk); (try clear hi); (try clear ho0)) | ((with_reducible refine gate_dst (N := 10) rfl ?_); refine bx_ 10 #[.slice none 0 0, .int .i64 0] 35 ?_; intro gb378 hg w34 hbox hb; replace HO_6 := ak_ (Kd.R_below (Kd.pR HO_6.out) hb); replace HO376 := ak_ (Kd.R_below (Kd.pR HO376.out) hb); have BK378 := ak_ (hbox); have GW378 := ak_ ((by rw [hg]; exact (bz_ bl_) : w.heap.size ≤ gb378)); replace HB := ak_ (bs_ bl_ hb); have GE378 := GW378; have NB363_378 := ak_ ((by rw [hg]; exact Nat.ne_of_lt (blk_lt (pk BK363.out)) : gb363 ≠ gb378)); replace BK363 := ak_ (blk_below (pk BK363.out) hb); have NB378_363 := ak_ NB363_378.out.symm; clear hb hbox hg; obtain ⟨Ao35, co35, eo35⟩ := Kd.R_slice HO376.out; subst eo35; have hnb36 := NB378_363.out; have hnc36 := NB363_378.out; obtain ⟨hcz37_0, hcz37_1, hfz37_0, hfz37_1⟩ := c2_ BK378.out; obtain ⟨hcz38_0, hcz38_1, hcz38_2, hfz38_0, hfz38_1, hfz38_2⟩ := c3_ BK363.out) | ((with_reducible refine gate_callee (f := 38) rfl ?_); refine goesL_ (some 51) rfl rfl Try.func38 (by kernel_rfl) rfl #[.agg #[.slice A0_0 l0_0.length c0_0, .int .i64 a0_1, .int .i64 a0_2], .agg #[.slice Ao35 t374.length co35, .int .i64 t377]] rfl rs_ ?_; (with_reducible refine (spec_toRounds.calls k3 _ _ l0_0 a0_1 a0_2 _ _ t374 t377 t379 _ ?side1 ?side2 ?side3 ?side4 A31.out).mono ?_); (case side1 => exact Kd.C_below HR0_0.out bl_); (case side2 => exact HC0_0.out); (case side3 => refine (Kd.R_reads' (e := 4) (base := w.heap.size) (ok := fun k_ => True) (n := t374.length) (c := co35) ?_).2.2; exact (by (with_reducible repeat (first | apply Kd.R_alloc | apply Kd.R_drewN | apply Kd.R_drew)); exact (Kd.R_mono (Kd.R_far (p := ⟨gb378, 1, none⟩) (Kd.R_far (p := ⟨gb378, 0, none⟩) (Kd.R_types HO376.out BK378.out (by decide)) (fun _ hk => hk.2) (.slice Ao35 t374.length co35)) (fun _ hk => hk.2) (.int .i64 t377)) (fun _ h_ => h_.1)))); (case side4 => exact (Kd.R_reads' HO376.out).2.1); rintro e w39 ⟨v380, rfl, ho0, hb⟩; refine ⟨_, rfl, ?_⟩; have HO381 := ak_ (Kd.N_lower (Kd.N_mono (ok' := fun k_ => some k_ ≠ (.slice Ao10 x6_3.length co10 : Value).ownBlock ∧ some k_ ≠ (.slice Ao35 t374.length co35 : Value).ownBlock ∧ k_ ≠ gb363 ∧ k_ ≠ gb378) ho0 (fun k_ hk_ => ⟨(Kd.fresh' (Kd.R_lt (by (with_reducible repeat (first | apply Kd.R_alloc | apply Kd.R_drewN | apply Kd.R_drew)); exact (Kd.R_mono (Kd.R_far (p := ⟨gb378, 1, none⟩) (Kd.R_far (p := ⟨gb378, 0, none⟩) (Kd.R_types HO_6.out BK378.out (by decide)) (fun _ hk => hk.2) (.slice Ao35 t374.length co35)) (fun _ hk => hk.2) (.int .i64 t377)) (fun _ h_ => h_.1)))) k_ hk_), (Kd.fresh' (Kd.R_lt (by (with_reducible repeat (first | apply Kd.R_alloc | apply Kd.R_drewN | apply Kd.R_drew)); exact (Kd.R_mono (Kd.R_far (p := ⟨gb378, 1, none⟩) (Kd.R_far (p := ⟨gb378, 0, none⟩) (Kd.R_types HO376.out BK378.out (by decide)) (fun _ hk => hk.2) (.slice Ao35 t374.length co35)) (fun _ hk => hk.2) (.int .i64 t377)) (fun _ h_ => h_.1)))) k_ hk_), (Kd.freshB (g := gb363) (o := .cells #[.slice A0_0 l0_0.length c0_0, .int .i64 a0_1, .int .i64 a0_2] 33 (0, 0)) (by (with_reducible repeat (first | refine kN_ ?_ _ | refine k1_ ?_ | refine ka_ ?_ _)); refine blk_far ?_ NB363_378.out _; (with_reducible repeat (first | refine kN_ ?_ _ | refine k1_ ?_ | refine ka_ ?_ _)); refine blk_far ?_ NB363_378.out _; exact pk BK363.out) k_ hk_), (Kd.freshB (g := gb378) (o := .cells #[.slice Ao35 t374.length co35, .int .i64 t377] 35 (0, 0)) (by (with_reducible repeat (first | refine kN_ ?_ _ | refine k1_ ?_ | refine ka_ ?_ _)); refine blk_put (cs := #[.slice Ao35 t374.length co35, .int .i64 0]) ?_ 1 _ rfl; (with_reducible repeat (first | refine kN_ ?_ _ | refine k1_ ?_ | refine ka_ ?_ _)); refine blk_put (cs := #[.slice none 0 0, .int .i64 0]) ?_ 0 _ rfl; exact pk BK378.out) k_ hk_)⟩)) (bz_ bl_)); replace HO_6 := ak_ (Kd.R_below (by (with_reducible repeat (first | apply Kd.R_alloc | apply Kd.R_drewN | apply Kd.R_drew)); exact (Kd.R_mono (Kd.R_far (p := ⟨gb378, 1, none⟩) (Kd.R_far (p := ⟨gb378, 0, none⟩) (Kd.R_types HO_6.out BK378.out (by decide)) (fun _ hk => hk.2) (.slice Ao35 t374.length co35)) (fun _ hk => hk.2) (.int .i64 t377)) (fun _ h_ => h_.1))) hb); replace HO376 := ak_ (Kd.R_below (by (with_reducible repeat (first | apply Kd.R_alloc | apply Kd.R_drewN | apply Kd.R_drew)); exact (Kd.R_mono (Kd.R_far (p := ⟨gb378, 1, none⟩) (Kd.R_far (p := ⟨gb378, 0, none⟩) (Kd.R_types HO376.out BK378.out (by decide)) (fun _ hk => hk.2) (.slice Ao35 t374.length co35)) (fun _ hk => hk.2) (.int .i64 t377)) (fun _ h_ => h_.1))) hb); replace BK363 := ak_ (blk_below (g := gb363) (o := .cells #[.slice A0_0 l0_0.length c0_0, .int .i64 a0_1, .int .i64 a0_2] 33 (0, 0)) (by (with_reducible repeat (first | refine kN_ ?_ _ | refine k1_ ?_ | refine ka_ ?_ _)); refine blk_far ?_ NB363_378.out _; (with_reducible repeat (first | refine kN_ ?_ _ | refine k1_ ?_ | refine ka_ ?_ _)); refine blk_far ?_ NB363_378.out _; exact pk BK363.out) hb); replace BK378 := ak_ (blk_below (g := gb378) (o := .cells #[.slice Ao35 t374.length co35, .int .i64 t377] 35 (0, 0)) (by (with_reducible repeat (first | refine kN_ ?_ _ | refine k1_ ?_ | refine ka_ ?_ _)); refine blk_put (cs := #[.slice Ao35 t374.length co35, .int .i64 0]) ?_ 1 _ rfl; (with_reducible repeat (first | refine kN_ ?_ _ | refine k1_ ?_ | refine ka_ ?_ _)); refine blk_put (cs := #[.slice none 0 0, .int .i64 0]) ?_ 0 _ rfl; exact pk BK378.out) hb); replace HB := ak_ (bs_ bl_ hb); (try clear hb); (try clear hb2); (try clear hk); (try clear hi); (try clear ho0); obtain ⟨Ao40, co40, eo40⟩ := Kd.N_slice HO381.out; subst eo40))
            go_loopg [8, 53] k3 (fun kq v8 v53 w' => ∃ (x6_4 : List Int) (x8_4 : Bool) (x53_4 : Int), v8 = .bool x8_4 ∧ v53 = .int .i64 x53_4 ∧ Aside0 (spec_toLeast.l3 kq a1 x6_4 x8_4 x43_3 (x6_2.length : Int) x43_3 t379 (t379.length : Int) x53_4 l0_0 a0_1 a0_2 t374 t377 = some r) ∧ Aside0 (kq ≤ k3) ∧ Aside0 (Kd.R (Kd.int .i64) 3 w' w.heap.size (fun _ => True) (.slice Ao10 x6_3.length co10) x6_4) ∧ Aside0 (Kd.N (Kd.slice 22 (Kd.slice 3 (Kd.int .i64))) 57 w' w.heap.size (fun k_ => some k_ ≠ ((.slice Ao10 x6_3.length co10) : Value).ownBlock ∧ some k_ ≠ ((.slice Ao35 t374.length co35) : Value).ownBlock ∧ k_ ≠ gb363 ∧ k_ ≠ gb378) (.slice Ao40 t379.length co40) t379) ∧ Aside0 (Kd.R Kd.bool 4 w' w.heap.size (fun _ => True) (.slice Ao35 t374.length co35) t374) ∧ Aside0 (w'.heap[gb363]? = some (.cells #[(.slice A0_0 l0_0.length c0_0), .int .i64 a0_1, .int .i64 a0_2] 33 (0, 0))) ∧ Aside0 (w'.heap[gb378]? = some (.cells #[(.slice Ao35 t374.length co35), .int .i64 t377] 35 (0, 0))) ∧ Aside0 (Below w.heap.size w w'))
            case atStart => exact ⟨(x6_3), (x8_3), (0), (ry_), (ry_), H', ⟨Nat.le_refl _⟩, ⟨by (try simp only [hl6_1, hl6_2, hl6_3]); exact Kd.pR HO_6.out⟩, ⟨by (try simp only [hl6_1, hl6_2, hl6_3]); exact Kd.pN HO381.out⟩, ⟨by (try simp only [hl6_1, hl6_2, hl6_3]); exact Kd.pR HO376.out⟩, ⟨by (try simp only [hl6_1, hl6_2, hl6_3]); exact pk BK363.out⟩, ⟨by (try simp only [hl6_1, hl6_2, hl6_3]); exact pk BK378.out⟩, ⟨bl_⟩⟩
            case round =>
             clear H'
             try clear c1
             try clear p1
             try clear q1
             try clear hx1
             try clear c2
             try clear p2
             try clear q2
             try clear hx2
             try clear hf2
             try clear c3
             try clear c4
             try clear c4b0
             try clear c4b1
             try clear c5
             try clear c5b0
             try clear c5b1
             try clear c6
             try clear p6
             try clear c11
             try clear c11b0
             try clear c12
             try clear c12b0
             try clear c13
             try clear c13b0
             try clear p14
             try clear q14
             try clear hx14
             try clear hf14
             try clear c24
             try clear p25
             try clear q25
             try clear hx25
             try clear hf25
             try clear c28
             try clear c29
             try clear c29b0
             try clear c36
             try clear c38
             try clear hcz20_0
             try clear hcz20_1
             try clear hcz20_2
             try clear hcz32_0
             try clear hcz32_1
             try clear hcz32_2
             try clear hcz37_0
             try clear hcz37_1
             try clear hcz38_0
             try clear hcz38_1
             try clear hcz38_2
             try clear hcz7_0
             try clear hcz7_1
             try clear hcz7_2
             try clear hfz20_0
             try clear hfz20_1
             try clear hfz20_2
             try clear hfz32_0
             try clear hfz32_1
             try clear hfz32_2
             try clear hfz37_0
             try clear hfz37_1
             try clear hfz38_0
             try clear hfz38_1
             try clear hfz38_2
             try clear hfz7_0
             try clear hfz7_1
             try clear hfz7_2
             try clear hx14_0
             try clear hx25_0
             try clear p1
             try clear p14
             try clear p2
             try clear p25
             try clear p6
             try clear q1
             try clear q14
             try clear q2
             try clear q25
             obtain ⟨x6_4, x8_4, x53_4, rfl, rfl, HA, HK4, HO_6, HO_51, HO_379000, BK363, BK378, HB⟩ := hrel
             have hl6_4 := (Kd.R_reads' HO_6.out).1
             rw [hl6_4] at HO_6
             (try simp only [hl6_4])
             (try simp only [hl6_4] at BK363)
             (try simp only [hl6_4] at BK378)
             (try simp only [hl6_4] at HO_51)
             (try simp only [hl6_4] at HO_379000)
             cases gk with
             | zero => exact absurd HA.out (by simp [spec_toLeast.l3])
             | succ k4 =>
              have H := HA.out
              clear HA
              simp only [spec_toLeast.l3] at H
              by_cases c41 : x53_4 < (t379.length : Int)
              ·
               rw [if_pos c41] at H
               have c41b0 := decide_eq_true c41
               have c41b9 := c41b0; (try rw [hl6_1] at c41b9); (try rw [hl6_2] at c41b9); (try rw [hl6_3] at c41b9); (try rw [hl6_4] at c41b9)
               clear c41
               by_cases c42 : 0 ≤ x53_4
               ·
                rw [if_pos c42] at H
                have c42b0 := decide_eq_true c42
                clear c42
                by_cases c43 : x53_4 < (t379.length : Int)
                ·
                 rw [if_pos c43] at H
                 have c43b0 := decide_eq_true c43
                 have c43b9 := c43b0; (try rw [hl6_1] at c43b9); (try rw [hl6_2] at c43b9); (try rw [hl6_3] at c43b9); (try rw [hl6_4] at c43b9)
                 clear c43
                 replace H := Option.bind_eq_some_iff.mp H
                 obtain ⟨⟨t383, t386⟩, A440, H⟩ := H
                 replace H : ((spec_toCode.f k4 l0_0 a0_1 a0_2 t383 t386).bind fun t387 => (if 0 ≤ t387 then (if t387 < (x6_4.length : Int) then (if (rd x6_4 t387) < 0 then (spec_toLeast.l3 k4 a1 x6_4 x8_4 x43_3 (x6_2.length : Int) x43_3 t379 (t379.length : Int) (wrap64 (x53_4 + 1)) l0_0 a0_1 a0_2 t374 t377) else (if a1 = true then (if 0 ≤ x43_3 then (if x43_3 < (x6_4.length : Int) then (if (rd x6_4 x43_3) < 0 then (spec_toLeast.l3 k4 a1 (x6_4.set (x43_3 : Int).toNat (wrap64 ((rd x6_4 t387) + 1))) true x43_3 (x6_2.length : Int) x43_3 t379 (t379.length : Int) (wrap64 (x53_4 + 1)) l0_0 a0_1 a0_2 t374 t377) else (if (wrap64 ((rd x6_4 t387) + 1)) < (rd x6_4 x43_3) then (spec_toLeast.l3 k4 a1 (x6_4.set (x43_3 : Int).toNat (wrap64 ((rd x6_4 t387) + 1))) true x43_3 (x6_2.length : Int) x43_3 t379 (t379.length : Int) (wrap64 (x53_4 + 1)) l0_0 a0_1 a0_2 t374 t377) else (spec_toLeast.l3 k4 a1 x6_4 x8_4 x43_3 (x6_2.length : Int) x43_3 t379 (t379.length : Int) (wrap64 (x53_4 + 1)) l0_0 a0_1 a0_2 t374 t377))) else (none)) else (none)) else ((spec_toTime.f k4 l0_0 a0_1 a0_2 (rd_L3 t379 x53_4)).bind fun t393 => (if 0 ≤ x43_3 then (if x43_3 < (x6_4.length : Int) then (if (rd x6_4 x43_3) < 0 then (spec_toLeast.l3 k4 a1 (x6_4.set (x43_3 : Int).toNat (wrap64 ((rd x6_4 t387) + t393))) true x43_3 (x6_2.length : Int) x43_3 t379 (t379.length : Int) (wrap64 (x53_4 + 1)) l0_0 a0_1 a0_2 t374 t377) else (if (wrap64 ((rd x6_4 t387) + t393)) < (rd x6_4 x43_3) then (spec_toLeast.l3 k4 a1 (x6_4.set (x43_3 : Int).toNat (wrap64 ((rd x6_4 t387) + t393))) true x43_3 (x6_2.length : Int) x43_3 t379 (t379.length : Int) (wrap64 (x53_4 + 1)) l0_0 a0_1 a0_2 t374 t377) else (spec_toLeast.l3 k4 a1 x6_4 x8_4 x43_3 (x6_2.length : Int) x43_3 t379 (t379.length : Int) (wrap64 (x53_4 + 1)) l0_0 a0_1 a0_2 t374 t377))) else (none)) else (none))))) else (none)) else (none))) = some r := H
                 have A44 := ak_ A440
                 clear A440
                 replace H := Option.bind_eq_some_iff.mp H
                 obtain ⟨t387, A450, H⟩ := H
                 replace H : (if 0 ≤ t387 then (if t387 < (x6_4.length : Int) then (if (rd x6_4 t387) < 0 then (spec_toLeast.l3 k4 a1 x6_4 x8_4 x43_3 (x6_2.length : Int) x43_3 t379 (t379.length : Int) (wrap64 (x53_4 + 1)) l0_0 a0_1 a0_2 t374 t377) else (if a1 = true then (if 0 ≤ x43_3 then (if x43_3 < (x6_4.length : Int) then (if (rd x6_4 x43_3) < 0 then (spec_toLeast.l3 k4 a1 (x6_4.set (x43_3 : Int).toNat (wrap64 ((rd x6_4 t387) + 1))) true x43_3 (x6_2.length : Int) x43_3 t379 (t379.length : Int) (wrap64 (x53_4 + 1)) l0_0 a0_1 a0_2 t374 t377) else (if (wrap64 ((rd x6_4 t387) + 1)) < (rd x6_4 x43_3) then (spec_toLeast.l3 k4 a1 (x6_4.set (x43_3 : Int).toNat (wrap64 ((rd x6_4 t387) + 1))) true x43_3 (x6_2.length : Int) x43_3 t379 (t379.length : Int) (wrap64 (x53_4 + 1)) l0_0 a0_1 a0_2 t374 t377) else (spec_toLeast.l3 k4 a1 x6_4 x8_4 x43_3 (x6_2.length : Int) x43_3 t379 (t379.length : Int) (wrap64 (x53_4 + 1)) l0_0 a0_1 a0_2 t374 t377))) else (none)) else (none)) else ((spec_toTime.f k4 l0_0 a0_1 a0_2 (rd_L3 t379 x53_4)).bind fun t393 => (if 0 ≤ x43_3 then (if x43_3 < (x6_4.length : Int) then (if (rd x6_4 x43_3) < 0 then (spec_toLeast.l3 k4 a1 (x6_4.set (x43_3 : Int).toNat (wrap64 ((rd x6_4 t387) + t393))) true x43_3 (x6_2.length : Int) x43_3 t379 (t379.length : Int) (wrap64 (x53_4 + 1)) l0_0 a0_1 a0_2 t374 t377) else (if (wrap64 ((rd x6_4 t387) + t393)) < (rd x6_4 x43_3) then (spec_toLeast.l3 k4 a1 (x6_4.set (x43_3 : Int).toNat (wrap64 ((rd x6_4 t387) + t393))) true x43_3 (x6_2.length : Int) x43_3 t379 (t379.length : Int) (wrap64 (x53_4 + 1)) l0_0 a0_1 a0_2 t374 t377) else (spec_toLeast.l3 k4 a1 x6_4 x8_4 x43_3 (x6_2.length : Int) x43_3 t379 (t379.length : Int) (wrap64 (x53_4 + 1)) l0_0 a0_1 a0_2 t374 t377))) else (none)) else (none))))) else (none)) else (none)) = some r := H
                 have A45 := ak_ A450
                 clear A450
                 by_cases c46 : 0 ≤ t387
                 ·
                  rw [if_pos c46] at H
                  have c46b0 := decide_eq_true c46
                  clear c46
                  by_cases c47 : t387 < (x6_4.length : Int)
                  ·
                   rw [if_pos c47] at H
                   have c47b0 := decide_eq_true c47
                   have c47b9 := c47b0; (try rw [hl6_1] at c47b9); (try rw [hl6_2] at c47b9); (try rw [hl6_3] at c47b9); (try rw [hl6_4] at c47b9)
                   clear c47
                   have HC48 := ak_ H
                   clear H
                   have p382 : 0 ≤ (x53_4 : Int) := od_
                   have q382 : x53_4 < (t379.length : Int) := od_
                   obtain ⟨ad382, A382_0, c382_0, e382, hx382_0, hl382_0, hi382_0⟩ := at_L3 (Kd.N_reads' HO_51.out).2.2 x53_4 p382 q382
                   cases e382
                   obtain ⟨ce382, hce382, hMe382, hcc382⟩ := Kd.N_get HO_51.out [] x53_4 p382 (by first | exact q382 | exact odt_ (by assumption) | (have e_ := (Kd.N_reads' HO_51.out).1; omega))
                   obtain ⟨ua382_0, uc382_0, rfl, ul382_0, ge382_0⟩ := Kd.FK_slice_open hMe382
                   have hv382_0 := hcc382 0 _ rfl
                   rw [Nat.add_zero, show ((Kd.slice 22 (Kd.slice 3 (Kd.int .i64)))).sz = 1 from rfl, Nat.mul_one] at hv382_0
                   replace hv382_0 := Option.some.inj (hv382_0.symm.trans hx382_0)
                   injection hv382_0 with hva_ hvn_ hvc_
                   rw [hva_] at ge382_0
                   rw [hvc_] at ul382_0
                   have HL382_0 := ak_ (show Kd.V (Kd.slice 3 (Kd.int .i64)) 22 _ w.heap.size _ _ (rd_L3 t379 x53_4) from Kd.V_mk ul382_0 ge382_0)
                   clear hva_ hvn_ hvc_ ge382_0 ul382_0 hcc382 hce382
                   have HR382_0 := ak_ hi382_0
                   have HC382_0 := ak_ hl382_0
                   clear hi382_0 hl382_0
                   replace p382 := eq_true p382
                   replace q382 := eq_true q382
                   try go_wp2
                   have n0_ := ak_ (Kd.R_drew HO_6.out)
                   have n1_ := ak_ (Kd.N_drew HO_51.out)
                   have n2_ := ak_ (Kd.R_drew HO_379000.out)
                   have n3_ := ak_ (Kd.V_drew HL382_0.out)
                   have n4_ := ak_ (k1_ BK363.out)
                   have n5_ := ak_ (k1_ BK378.out)
                   have n6_ := ak_ (Kd.C_drew HR382_0.out)
                   have n7_ := ak_ (b1_ HB.out)
                   clear HO_6 HO_51 HO_379000 HL382_0 BK363 BK378 HR382_0 HB
                   have HO_6 := n0_; have HO_51 := n1_; have HO_379000 := n2_; have HL382_0 := n3_; have BK363 := n4_; have BK378 := n5_; have HR382_0 := n6_; have HB := n7_
                   clear n0_ n1_ n2_ n3_ n4_ n5_ n6_ n7_
                   have p388 : 0 ≤ (t387 : Int) := od_
                   have q388 : t387 < (x6_4.length : Int) := od_
                   obtain ⟨ad388, e388, hx388_0⟩ := Kd.at_int (Kd.R_reads' HO_6.out).2.2 t387 p388 q388
                   cases e388
                   replace p388 := eq_true p388
                   replace q388 := eq_true q388
                   refine start_ (n := 9) (S := fun w' => w'.cell? ⟨gb363, 0, none⟩ = some (.slice A0_0 l0_0.length c0_0) ∧ w'.cell? ⟨gb363, 1, none⟩ = some (.int .i64 a0_1) ∧ w'.cell? ⟨gb363, 2, none⟩ = some (.int .i64 a0_2) ∧ w'.cell? ⟨gb378, 0, none⟩ = some (.slice Ao35 t374.length co35) ∧ w'.cell? ⟨gb378, 1, none⟩ = some (.int .i64 t377) ∧ w'.cell? (ad388.add (t387).toNat) = some (.int .i64 (rd x6_4 t387))) (ds := []) (mb_ 9 0) (by kernel_rfl) rfl rfl ⟨(blk_cell BK363.out 0).trans rfl, (blk_cell BK363.out 1).trans rfl, (blk_cell BK363.out 2).trans rfl, (blk_cell BK378.out 0).trans rfl, (blk_cell BK378.out 1).trans rfl, hx388_0⟩ (fun hHeld => ?_); refine with_tabW spec_toLeast.tab20 spec_toLeast.bits20 (fun HT_ HW_ => ?_)
                   generalize wr.drew = w49 at HO_6 HO_51 HO_379000 HL382_0 BK363 BK378 HR382_0 HB hx388_0 hHeld ⊢
                   refine pu_ 0 57 9 1 ?_
                   refine pu_ 3 60 9 9 ?_
                   refine tk_ 1 58 9 11 ?_ (hy := by rintro w' ⟨s0, s1, s2, s3, s4, s5⟩; go_simp; with_reducible rfl)
                   refine tk_ 2 59 9 15 ?_ (hy := by rintro w' ⟨s0, s1, s2, s3, s4, s5⟩; go_simp; with_reducible rfl)
                   refine on_ 4 61 9 31 (fun K hK => ?_)
                   refine goes_ Try.func53 (by kernel_rfl) rfl #[.agg #[.slice Ao35 t374.length co35, .int .i64 t377], .slice A382_0 (rd_L3 t379 x53_4).length c382_0] (by rfl) rfl rfl rs_ ?_
                   with_reducible refine (spec_toAfter.calls k4 _ _ t374 t377 _ _ (rd_L3 t379 x53_4) t383 t386 _ ?side1 ?side2 ?side3 ?side4 A44.out).mono ?_
                   (case side1 => exact cs_ ((Kd.R_reads' HO_379000.out).2.2))
                   (case side2 => exact (Kd.R_reads' HO_379000.out).2.1)
                   (case side3 => repeat (first | exact (by repeat (first | (with_reducible exact HR382_0.out) | (with_reducible refine Kd.C_alloc ?_ _) | (with_reducible refine Kd.C_drewN ?_ _) | (with_reducible refine Kd.C_drew ?_) | exact HR382_0.out)) | (with_reducible refine Kd.C_alloc ?_ _) | (with_reducible refine Kd.C_drewN ?_ _) | (with_reducible refine Kd.C_drew ?_)))
                   (case side4 => exact HC382_0.out)
                   rintro e w50 ⟨v384, rfl, ho0, hb⟩
                   have HS5_ := (hb.cell (World.block_lt_of_cell? _ _ (hHeld.2.2.2.2.2))).trans (hHeld.2.2.2.2.2)
                   refine ⟨_, rfl, ?_⟩
                   have n0_ := ak_ (Kd.R_below (Kd.pR HO_6.out) hb)
                   have n1_ := ak_ (Kd.N_elder' (Kd.pN HO_51.out) (Kd.R_base ho0) hb)
                   have n2_ := ak_ (Kd.R_elder' (Kd.pR HO_379000.out) (Kd.R_base ho0) hb)
                   have n3_ := ak_ (Kd.V_elder' (Kd.pV HL382_0.out) (Kd.R_base ho0) hb)
                   have n4_ := ak_ (Kd.R_lower (Kd.R_new' ho0 (Kd.R_lt (Kd.pR HO_379000.out))) (bz_ bl_))
                   have n5_ := ak_ (blk_below (pk BK363.out) hb)
                   have n6_ := ak_ (blk_below (pk BK378.out) hb)
                   have n7_ := ak_ (Kd.C_below (by repeat (first | (with_reducible exact HR382_0.out) | (with_reducible refine Kd.C_alloc ?_ _) | (with_reducible refine Kd.C_drewN ?_ _) | (with_reducible refine Kd.C_drew ?_) | exact HR382_0.out)) hb)
                   have n8_ := ak_ (bs_ bl_ hb)
                   clear HO_6 HO_51 HO_379000 HL382_0 BK363 BK378 HR382_0 HB
                   have HO_6 := n0_; have HO_51 := n1_; have HO_379000 := n2_; have HL382_0 := n3_; have HO385 := n4_; have BK363 := n5_; have BK378 := n6_; have HR382_0 := n7_; have HB := n8_
                   clear n0_ n1_ n2_ n3_ n4_ n5_ n6_ n7_ n8_
                   (try clear hb)
                   (try clear hb2)
                   (try clear hk)
                   (try clear hi)
                   (try clear ho0)
                   obtain ⟨Ao51, co51, eo51⟩ := Kd.R_slice HO385.out
                   (first | subst eo51 | (injection eo51 with f1_ f2_ f3_; have f4_ := f1_.symm; have f5_ := f3_.symm; clear f1_ f2_ f3_; subst f4_; subst f5_))
                   refine hK.out _ _ ⟨(blk_cell BK363.out 0).trans rfl, (blk_cell BK363.out 1).trans rfl, (blk_cell BK363.out 2).trans rfl, (blk_cell BK378.out 0).trans rfl, (blk_cell BK378.out 1).trans rfl, HS5_⟩ (fun hHeld => ?_)
                   clear hK K
                   refine nm_ ?_
                   refine on_ 5 62 9 63 (fun K hK => ?_)
                   refine goes_ Try.func52 (by kernel_rfl) rfl #[.agg #[.slice A0_0 l0_0.length c0_0, .int .i64 a0_1, .int .i64 a0_2], .agg #[.slice Ao51 t383.length co51, .int .i64 t386]] (by rfl) rfl rfl rs_ ?_
                   with_reducible refine (spec_toCode.calls k4 _ _ l0_0 a0_1 a0_2 _ _ t383 t386 t387 _ ?side1 ?side2 ?side3 ?side4 A45.out).mono ?_
                   (case side1 => exact cs_ (Kd.C_below HR0_0.out HB.out))
                   (case side2 => exact HC0_0.out)
                   (case side3 => exact cs_ ((Kd.R_reads' HO385.out).2.2))
                   (case side4 => exact (Kd.R_reads' HO385.out).2.1)
                   rintro e w52 ⟨rfl, hb⟩
                   have HS5_ := (hb.cell (World.block_lt_of_cell? _ _ (hHeld.2.2.2.2.2))).trans (hHeld.2.2.2.2.2)
                   refine ⟨_, rfl, ?_⟩
                   have n0_ := ak_ (Kd.R_below (Kd.pR HO_6.out) hb)
                   have n1_ := ak_ (Kd.N_below (Kd.pN HO_51.out) hb)
                   have n2_ := ak_ (Kd.R_below (Kd.pR HO_379000.out) hb)
                   have n3_ := ak_ (Kd.V_below (Kd.pV HL382_0.out) hb)
                   have n4_ := ak_ (Kd.R_below (Kd.pR HO385.out) hb)
                   have n5_ := ak_ (blk_below (pk BK363.out) hb)
                   have n6_ := ak_ (blk_below (pk BK378.out) hb)
                   have n7_ := ak_ (Kd.C_below (by repeat (first | (with_reducible exact HR382_0.out) | (with_reducible refine Kd.C_alloc ?_ _) | (with_reducible refine Kd.C_drewN ?_ _) | (with_reducible refine Kd.C_drew ?_) | exact HR382_0.out)) hb)
                   have n8_ := ak_ (bs_ bl_ hb)
                   clear HO_6 HO_51 HO_379000 HL382_0 HO385 BK363 BK378 HR382_0 HB
                   have HO_6 := n0_; have HO_51 := n1_; have HO_379000 := n2_; have HL382_0 := n3_; have HO385 := n4_; have BK363 := n5_; have BK378 := n6_; have HR382_0 := n7_; have HB := n8_
                   clear n0_ n1_ n2_ n3_ n4_ n5_ n6_ n7_ n8_
                   (try clear hb)
                   (try clear hb2)
                   (try clear hk)
                   (try clear hi)
                   refine hK.out _ _ ⟨(blk_cell BK363.out 0).trans rfl, (blk_cell BK363.out 1).trans rfl, (blk_cell BK363.out 2).trans rfl, (blk_cell BK378.out 0).trans rfl, (blk_cell BK378.out 1).trans rfl, HS5_⟩ (fun hHeld => ?_)
                   clear hK K
                   refine nm_ ?_
                   refine pu_ 6 63 9 127 ?_
                   refine tk_ 7 64 9 255 ?_ (hy := by rintro w' ⟨s0, s1, s2, s3, s4, s5⟩; go_simp; with_reducible rfl)
                   refine pu_ 8 13 9 511 ?_
                   refine done_ (done_of HT_.out (by kernel_rfl)) ?_
                   go_upto_if 66 with (fail)
                   have H := HC48.out
                   clear HC48
                   by_cases c53 : (rd x6_4 t387) < 0
                   ·
                    rw [if_pos c53] at H
                    have c53b0 := decide_eq_true c53
                    clear c53
                    (first | rw [c53b0] | (simp only [i64_w, i32_w]; rw [c53b0]) | rw [c53b1] | skip)
                    have H' := ak_ H
                    clear H
                    go_wp2
                    (try simp only [← hl6_4])
                    go_roundg k4
                    case measure => have := HK1.out; have := HK2.out; have := HK3.out; have := HK4.out; omega
                    case rel => exact ⟨(x6_4), (x8_4), (wrap64 (x53_4 + 1)), (ry_), (ry_), H', ⟨by have := HK1.out; have := HK2.out; have := HK3.out; have := HK4.out; omega⟩, ⟨by (try simp only [hl6_1, hl6_2, hl6_3, hl6_4]); exact Kd.pR HO_6.out⟩, ⟨by (try simp only [hl6_1, hl6_2, hl6_3, hl6_4]); (with_reducible repeat (first | apply Kd.N_alloc | apply Kd.N_drewN | apply Kd.N_drew)); exact Kd.N_mono HO_51.out (fun _ hk => ⟨hk.1.1, ⟨hk.1.2.1, ⟨hk.1.2.2.1, hk.1.2.2.2⟩⟩⟩)⟩, ⟨by (try simp only [hl6_1, hl6_2, hl6_3, hl6_4]); (with_reducible repeat (first | apply Kd.R_alloc | apply Kd.R_drewN | apply Kd.R_drew)); exact Kd.R_mono HO_379000.out (fun _ hk => trivial)⟩, ⟨by (try simp only [hl6_1, hl6_2, hl6_3, hl6_4]); exact pk BK363.out⟩, ⟨by (try simp only [hl6_1, hl6_2, hl6_3, hl6_4]); exact pk BK378.out⟩, ⟨bl_⟩⟩
                   ·
                    rw [if_neg c53] at H
                    have c53b0 := decide_eq_false c53
                    clear c53
                    (first | rw [c53b0] | (simp only [i64_w, i32_w]; rw [c53b0]) | rw [c53b1] | skip)
                    by_cases c54 : a1 = true
                    ·
                     subst c54
                     have H1 : (if 0 ≤ x43_3 then (if x43_3 < (x6_4.length : Int) then (if (rd x6_4 x43_3) < 0 then (spec_toLeast.l3 k4 true (x6_4.set (x43_3 : Int).toNat (wrap64 ((rd x6_4 t387) + 1))) true x43_3 (x6_2.length : Int) x43_3 t379 (t379.length : Int) (wrap64 (x53_4 + 1)) l0_0 a0_1 a0_2 t374 t377) else (if (wrap64 ((rd x6_4 t387) + 1)) < (rd x6_4 x43_3) then (spec_toLeast.l3 k4 true (x6_4.set (x43_3 : Int).toNat (wrap64 ((rd x6_4 t387) + 1))) true x43_3 (x6_2.length : Int) x43_3 t379 (t379.length : Int) (wrap64 (x53_4 + 1)) l0_0 a0_1 a0_2 t374 t377) else (spec_toLeast.l3 k4 true x6_4 x8_4 x43_3 (x6_2.length : Int) x43_3 t379 (t379.length : Int) (wrap64 (x53_4 + 1)) l0_0 a0_1 a0_2 t374 t377))) else (none)) else (none)) = some r := by rw [if_pos rfl] at H; exact H
                     clear H
                     have H := H1
                     clear H1
                     by_cases c55 : 0 ≤ x43_3
                     ·
                      rw [if_pos c55] at H
                      have c55b0 := decide_eq_true c55
                      clear c55
                      by_cases c56 : x43_3 < (x6_4.length : Int)
                      ·
                       rw [if_pos c56] at H
                       have c56b0 := decide_eq_true c56
                       have c56b9 := c56b0; (try rw [hl6_1] at c56b9); (try rw [hl6_2] at c56b9); (try rw [hl6_3] at c56b9); (try rw [hl6_4] at c56b9)
                       clear c56
                       by_cases c57 : (rd x6_4 x43_3) < 0
                       ·
                        rw [if_pos c57] at H
                        have c57b0 := decide_eq_true c57
                        clear c57
                        obtain ⟨y390, hy390⟩ : ∃ y_ : List Int, y_ = (x6_4.set (x43_3 : Int).toNat (wrap64 ((rd x6_4 t387) + 1))) := ⟨_, rfl⟩
                        replace H : (spec_toLeast.l3 k4 true y390 true x43_3 (x6_2.length : Int) x43_3 t379 (t379.length : Int) (wrap64 (x53_4 + 1)) l0_0 a0_1 a0_2 t374 t377) = some r := by first | (rw [hy390]; exact H) | exact H
                        have Ny390 := ak_ hy390
                        clear hy390
                        have H' := ak_ H
                        clear H
                        have p389 : 0 ≤ (x43_3 : Int) := od_
                        have q389 : x43_3 < (x6_4.length : Int) := od_
                        obtain ⟨ad389, e389, hx389_0⟩ := Kd.at_int (Kd.R_reads' HO_6.out).2.2 x43_3 p389 q389
                        obtain rfl : ad388 = ad389 := (by injection e389)
                        replace p389 := eq_true p389
                        replace q389 := eq_true q389
                        have p58 : 0 ≤ (x43_3 : Int) := od_
                        have q58 : (x43_3 : Int) < ((x6_4.length : Int) : Int) := od_
                        obtain ⟨go58, co58, eo58, gb58, gl58, cl58, HG58⟩ := Kd.R_form HO_6.out (by omega)
                        (first | cases eo58 | (injection eo58 with ea_ en_ ec_; (first | subst ea_ | (injection ea_ with ea_; subst ea_)); subst ec_; clear en_))
                        have GB58 := ak_ gb58
                        have GG58 := ak_ HG58
                        clear gb58 gl58 HG58
                        (first | simp only [add_plain] at hx388_0 | skip)
                        (first | simp only [add_plain] at hx389_0 | skip)
                        obtain ⟨hx58_0, hf58_0⟩ := Kd.R_celln 0 HO_6.out (x43_3 : Int) p58 q58
                        replace p58 := eq_true p58
                        replace q58 := eq_true q58
                        have HP59 := Kd.R_putg HO_6.out (x43_3 : Int) (wrap64 ((rd x6_4 t387) + 1))
                        go_wp2_with (first | ((with_reducible refine gate_store (t := 3) (p := 92) rfl ?_); refine store_event (t := 3) (p := 92) (v := ?vo_w60) (w1 := (w52.setCell ⟨go58, (x43_3 : Int).toNat, none⟩ (.int .i64 (wrap64 ((rd x6_4 t387) + 1))))) ?hg ?ho ?hn ?hr ?_; (case ho => rfl); (case hg => rfl); (case hn => rfl); (case hr => go_simp <;> rfl); intro w60 hw; have hg : w52.grownBy w60 (some go58) := (by rw [hw]; exact HP59.2); have hp_ : Kd.R (Kd.int .i64) 3 w60 w.heap.size (fun _ => True) (.slice (some ⟨go58, 0, none⟩) x6_4.length co10) y390 := (by rw [hw, Ny390.out]; exact HP59.1); clear HP59; replace HO_51 := ak_ (Kd.N_afterv (v := (.slice (some ⟨go58, 0, none⟩) x6_4.length co10)) (v1 := (.slice (some ⟨go58, 0, none⟩) x6_4.length co10)) (ok := (fun k_ => some k_ ≠ (.slice Ao35 t374.length co35 : Value).ownBlock ∧ some k_ ≠ (.slice Ao51 t383.length co51 : Value).ownBlock ∧ k_ ≠ gb363 ∧ k_ ≠ gb378)) (by (with_reducible repeat (first | apply Kd.N_alloc | apply Kd.N_drewN | apply Kd.N_drew)); exact Kd.N_mono HO_51.out (fun _ hk => ⟨⟨hk.1.2.1, ⟨hk.2, ⟨hk.1.2.2.1, hk.1.2.2.2⟩⟩⟩, hk.1.1⟩)) hg (.inl rfl)); replace HO_379000 := ak_ (Kd.R_over' (v := (.slice (some ⟨go58, 0, none⟩) x6_4.length co10)) (Kd.pR HO_379000.out) (Kd.R_typed HO_6.out) (by decide) hg); replace BK363 := ak_ (blk_grown (pk BK363.out) hg (Kd.R_ne HO_6.out BK363.out (by decide))); replace BK378 := ak_ (blk_grown (pk BK378.out) hg (Kd.R_ne HO_6.out BK378.out (by decide))); replace HL382_0 := ak_ (Kd.V_afterv (v := (.slice (some ⟨go58, 0, none⟩) x6_4.length co10)) (v1 := (.slice (some ⟨go58, 0, none⟩) x6_4.length co10)) (ok := (fun k_ => some k_ ≠ (.slice (some ad382) t379.length co40 : Value).ownBlock ∧ some k_ ≠ (.slice Ao35 t374.length co35 : Value).ownBlock ∧ some k_ ≠ (.slice Ao51 t383.length co51 : Value).ownBlock ∧ k_ ≠ gb363 ∧ k_ ≠ gb378)) (by (with_reducible repeat (first | apply Kd.V_alloc | apply Kd.V_drewN | apply Kd.V_drew)); exact Kd.V_mono HL382_0.out (fun _ hk => ⟨⟨hk.1.2, ⟨hk.1.1.2.1, ⟨hk.2, ⟨hk.1.1.2.2.1, hk.1.1.2.2.2⟩⟩⟩⟩, hk.1.1.1⟩)) hg (.inl rfl)); replace HO385 := ak_ (Kd.R_over' (v := (.slice (some ⟨go58, 0, none⟩) x6_4.length co10)) (Kd.pR HO385.out) (Kd.R_typed HO_6.out) (by decide) hg); replace HO_6 := ak_ (hp_); replace HB := ak_ ((by rw [hw]; exact below_set (HB.out) GB58.out : Below w.heap.size w w60)); clear hg hw hp_))
                        (try simp only [← hl6_4])
                        go_roundg k4
                        case measure => have := HK1.out; have := HK2.out; have := HK3.out; have := HK4.out; omega
                        case rel => exact ⟨(y390), (true), (wrap64 (x53_4 + 1)), (ry_), (ry_), H', ⟨by have := HK1.out; have := HK2.out; have := HK3.out; have := HK4.out; omega⟩, ⟨by (try simp only [hl6_1, hl6_2, hl6_3, hl6_4]); exact Kd.pR HO_6.out⟩, ⟨by (try simp only [hl6_1, hl6_2, hl6_3, hl6_4]); (with_reducible repeat (first | apply Kd.N_alloc | apply Kd.N_drewN | apply Kd.N_drew)); exact Kd.N_mono HO_51.out (fun _ hk => ⟨hk.2, ⟨hk.1.1, ⟨hk.1.2.2.1, hk.1.2.2.2⟩⟩⟩)⟩, ⟨by (try simp only [hl6_1, hl6_2, hl6_3, hl6_4]); (with_reducible repeat (first | apply Kd.R_alloc | apply Kd.R_drewN | apply Kd.R_drew)); exact Kd.R_mono HO_379000.out (fun _ hk => trivial)⟩, ⟨by (try simp only [hl6_1, hl6_2, hl6_3, hl6_4]); exact pk BK363.out⟩, ⟨by (try simp only [hl6_1, hl6_2, hl6_3, hl6_4]); exact pk BK378.out⟩, ⟨bl_⟩⟩
                       ·
                        rw [if_neg c57] at H
                        have c57b0 := decide_eq_false c57
                        clear c57
                        have HC61 := ak_ H
                        clear H
                        have p389 : 0 ≤ (x43_3 : Int) := od_
                        have q389 : x43_3 < (x6_4.length : Int) := od_
                        obtain ⟨ad389, e389, hx389_0⟩ := Kd.at_int (Kd.R_reads' HO_6.out).2.2 x43_3 p389 q389
                        obtain rfl : ad388 = ad389 := (by injection e389)
                        replace p389 := eq_true p389
                        replace q389 := eq_true q389
                        have p391 : 0 ≤ (x43_3 : Int) := od_
                        have q391 : x43_3 < (x6_4.length : Int) := od_
                        obtain ⟨ad391, e391, hx391_0⟩ := Kd.at_int (Kd.R_reads' HO_6.out).2.2 x43_3 p391 q391
                        obtain rfl : ad388 = ad391 := (by injection e391)
                        replace p391 := eq_true p391
                        replace q391 := eq_true q391
                        go_upto_if 88 with (fail)
                        have H := HC61.out
                        clear HC61
                        by_cases c62 : (wrap64 ((rd x6_4 t387) + 1)) < (rd x6_4 x43_3)
                        ·
                         rw [if_pos c62] at H
                         have c62b0 := decide_eq_true c62
                         clear c62
                         (first | rw [c62b0] | (simp only [i64_w, i32_w]; rw [c62b0]) | rw [c62b1] | skip)
                         obtain ⟨y392, hy392⟩ : ∃ y_ : List Int, y_ = (x6_4.set (x43_3 : Int).toNat (wrap64 ((rd x6_4 t387) + 1))) := ⟨_, rfl⟩
                         replace H : (spec_toLeast.l3 k4 true y392 true x43_3 (x6_2.length : Int) x43_3 t379 (t379.length : Int) (wrap64 (x53_4 + 1)) l0_0 a0_1 a0_2 t374 t377) = some r := by first | (rw [hy392]; exact H) | exact H
                         have Ny392 := ak_ hy392
                         clear hy392
                         have H' := ak_ H
                         clear H
                         have p63 : 0 ≤ (x43_3 : Int) := od_
                         have q63 : (x43_3 : Int) < ((x6_4.length : Int) : Int) := od_
                         obtain ⟨go63, co63, eo63, gb63, gl63, cl63, HG63⟩ := Kd.R_form HO_6.out (by omega)
                         (first | cases eo63 | (injection eo63 with ea_ en_ ec_; (first | subst ea_ | (injection ea_ with ea_; subst ea_)); subst ec_; clear en_))
                         have GB63 := ak_ gb63
                         have GG63 := ak_ HG63
                         clear gb63 gl63 HG63
                         (first | simp only [add_plain] at hx389_0 | skip)
                         (first | simp only [add_plain] at hx391_0 | skip)
                         obtain ⟨hx63_0, hf63_0⟩ := Kd.R_celln 0 HO_6.out (x43_3 : Int) p63 q63
                         replace p63 := eq_true p63
                         replace q63 := eq_true q63
                         have HP64 := Kd.R_putg HO_6.out (x43_3 : Int) (wrap64 ((rd x6_4 t387) + 1))
                         go_wp2_with (first | ((with_reducible refine gate_store (t := 3) (p := 92) rfl ?_); refine store_event (t := 3) (p := 92) (v := ?vo_w65) (w1 := (w52.setCell ⟨go63, (x43_3 : Int).toNat, none⟩ (.int .i64 (wrap64 ((rd x6_4 t387) + 1))))) ?hg ?ho ?hn ?hr ?_; (case ho => rfl); (case hg => rfl); (case hn => rfl); (case hr => go_simp <;> rfl); intro w65 hw; have hg : w52.grownBy w65 (some go63) := (by rw [hw]; exact HP64.2); have hp_ : Kd.R (Kd.int .i64) 3 w65 w.heap.size (fun _ => True) (.slice (some ⟨go63, 0, none⟩) x6_4.length co10) y392 := (by rw [hw, Ny392.out]; exact HP64.1); clear HP64; replace HO_51 := ak_ (Kd.N_afterv (v := (.slice (some ⟨go63, 0, none⟩) x6_4.length co10)) (v1 := (.slice (some ⟨go63, 0, none⟩) x6_4.length co10)) (ok := (fun k_ => some k_ ≠ (.slice Ao35 t374.length co35 : Value).ownBlock ∧ some k_ ≠ (.slice Ao51 t383.length co51 : Value).ownBlock ∧ k_ ≠ gb363 ∧ k_ ≠ gb378)) (by (with_reducible repeat (first | apply Kd.N_alloc | apply Kd.N_drewN | apply Kd.N_drew)); exact Kd.N_mono HO_51.out (fun _ hk => ⟨⟨hk.1.2.1, ⟨hk.2, ⟨hk.1.2.2.1, hk.1.2.2.2⟩⟩⟩, hk.1.1⟩)) hg (.inl rfl)); replace HO_379000 := ak_ (Kd.R_over' (v := (.slice (some ⟨go63, 0, none⟩) x6_4.length co10)) (Kd.pR HO_379000.out) (Kd.R_typed HO_6.out) (by decide) hg); replace BK363 := ak_ (blk_grown (pk BK363.out) hg (Kd.R_ne HO_6.out BK363.out (by decide))); replace BK378 := ak_ (blk_grown (pk BK378.out) hg (Kd.R_ne HO_6.out BK378.out (by decide))); replace HL382_0 := ak_ (Kd.V_afterv (v := (.slice (some ⟨go63, 0, none⟩) x6_4.length co10)) (v1 := (.slice (some ⟨go63, 0, none⟩) x6_4.length co10)) (ok := (fun k_ => some k_ ≠ (.slice (some ad382) t379.length co40 : Value).ownBlock ∧ some k_ ≠ (.slice Ao35 t374.length co35 : Value).ownBlock ∧ some k_ ≠ (.slice Ao51 t383.length co51 : Value).ownBlock ∧ k_ ≠ gb363 ∧ k_ ≠ gb378)) (by (with_reducible repeat (first | apply Kd.V_alloc | apply Kd.V_drewN | apply Kd.V_drew)); exact Kd.V_mono HL382_0.out (fun _ hk => ⟨⟨hk.1.2, ⟨hk.1.1.2.1, ⟨hk.2, ⟨hk.1.1.2.2.1, hk.1.1.2.2.2⟩⟩⟩⟩, hk.1.1.1⟩)) hg (.inl rfl)); replace HO385 := ak_ (Kd.R_over' (v := (.slice (some ⟨go63, 0, none⟩) x6_4.length co10)) (Kd.pR HO385.out) (Kd.R_typed HO_6.out) (by decide) hg); replace HO_6 := ak_ (hp_); replace HB := ak_ ((by rw [hw]; exact below_set (HB.out) GB63.out : Below w.heap.size w w65)); clear hg hw hp_))
                         (try simp only [← hl6_4])
                         go_roundg k4
                         case measure => have := HK1.out; have := HK2.out; have := HK3.out; have := HK4.out; omega
                         case rel => exact ⟨(y392), (true), (wrap64 (x53_4 + 1)), (ry_), (ry_), H', ⟨by have := HK1.out; have := HK2.out; have := HK3.out; have := HK4.out; omega⟩, ⟨by (try simp only [hl6_1, hl6_2, hl6_3, hl6_4]); exact Kd.pR HO_6.out⟩, ⟨by (try simp only [hl6_1, hl6_2, hl6_3, hl6_4]); (with_reducible repeat (first | apply Kd.N_alloc | apply Kd.N_drewN | apply Kd.N_drew)); exact Kd.N_mono HO_51.out (fun _ hk => ⟨hk.2, ⟨hk.1.1, ⟨hk.1.2.2.1, hk.1.2.2.2⟩⟩⟩)⟩, ⟨by (try simp only [hl6_1, hl6_2, hl6_3, hl6_4]); (with_reducible repeat (first | apply Kd.R_alloc | apply Kd.R_drewN | apply Kd.R_drew)); exact Kd.R_mono HO_379000.out (fun _ hk => trivial)⟩, ⟨by (try simp only [hl6_1, hl6_2, hl6_3, hl6_4]); exact pk BK363.out⟩, ⟨by (try simp only [hl6_1, hl6_2, hl6_3, hl6_4]); exact pk BK378.out⟩, ⟨bl_⟩⟩
                        ·
                         rw [if_neg c62] at H
                         have c62b0 := decide_eq_false c62
                         clear c62
                         (first | rw [c62b0] | (simp only [i64_w, i32_w]; rw [c62b0]) | rw [c62b1] | skip)
                         have H' := ak_ H
                         clear H
                         go_wp2
                         (try simp only [← hl6_4])
                         go_roundg k4
                         case measure => have := HK1.out; have := HK2.out; have := HK3.out; have := HK4.out; omega
                         case rel => exact ⟨(x6_4), (x8_4), (wrap64 (x53_4 + 1)), (ry_), (ry_), H', ⟨by have := HK1.out; have := HK2.out; have := HK3.out; have := HK4.out; omega⟩, ⟨by (try simp only [hl6_1, hl6_2, hl6_3, hl6_4]); exact Kd.pR HO_6.out⟩, ⟨by (try simp only [hl6_1, hl6_2, hl6_3, hl6_4]); (with_reducible repeat (first | apply Kd.N_alloc | apply Kd.N_drewN | apply Kd.N_drew)); exact Kd.N_mono HO_51.out (fun _ hk => ⟨hk.1.1, ⟨hk.1.2.1, ⟨hk.1.2.2.1, hk.1.2.2.2⟩⟩⟩)⟩, ⟨by (try simp only [hl6_1, hl6_2, hl6_3, hl6_4]); (with_reducible repeat (first | apply Kd.R_alloc | apply Kd.R_drewN | apply Kd.R_drew)); exact Kd.R_mono HO_379000.out (fun _ hk => trivial)⟩, ⟨by (try simp only [hl6_1, hl6_2, hl6_3, hl6_4]); exact pk BK363.out⟩, ⟨by (try simp only [hl6_1, hl6_2, hl6_3, hl6_4]); exact pk BK378.out⟩, ⟨bl_⟩⟩
                      ·
                       rw [if_neg c56] at H
                       exact absurd H (by simp)
                     ·
                      rw [if_neg c55] at H
                      exact absurd H (by simp)
                    ·
                     replace c54 := Bool.eq_false_iff.mpr c54
                     subst c54
                     have H1 : ((spec_toTime.f k4 l0_0 a0_1 a0_2 (rd_L3 t379 x53_4)).bind fun t393 => (if 0 ≤ x43_3 then (if x43_3 < (x6_4.length : Int) then (if (rd x6_4 x43_3) < 0 then (spec_toLeast.l3 k4 false (x6_4.set (x43_3 : Int).toNat (wrap64 ((rd x6_4 t387) + t393))) true x43_3 (x6_2.length : Int) x43_3 t379 (t379.length : Int) (wrap64 (x53_4 + 1)) l0_0 a0_1 a0_2 t374 t377) else (if (wrap64 ((rd x6_4 t387) + t393)) < (rd x6_4 x43_3) then (spec_toLeast.l3 k4 false (x6_4.set (x43_3 : Int).toNat (wrap64 ((rd x6_4 t387) + t393))) true x43_3 (x6_2.length : Int) x43_3 t379 (t379.length : Int) (wrap64 (x53_4 + 1)) l0_0 a0_1 a0_2 t374 t377) else (spec_toLeast.l3 k4 false x6_4 x8_4 x43_3 (x6_2.length : Int) x43_3 t379 (t379.length : Int) (wrap64 (x53_4 + 1)) l0_0 a0_1 a0_2 t374 t377))) else (none)) else (none))) = some r := by rw [if_neg (show ¬ (false = true) by decide)] at H; exact H
                     clear H
                     have H := H1
                     clear H1
                     replace H := Option.bind_eq_some_iff.mp H
                     obtain ⟨t393, A660, H⟩ := H
                     replace H : (if 0 ≤ x43_3 then (if x43_3 < (x6_4.length : Int) then (if (rd x6_4 x43_3) < 0 then (spec_toLeast.l3 k4 false (x6_4.set (x43_3 : Int).toNat (wrap64 ((rd x6_4 t387) + t393))) true x43_3 (x6_2.length : Int) x43_3 t379 (t379.length : Int) (wrap64 (x53_4 + 1)) l0_0 a0_1 a0_2 t374 t377) else (if (wrap64 ((rd x6_4 t387) + t393)) < (rd x6_4 x43_3) then (spec_toLeast.l3 k4 false (x6_4.set (x43_3 : Int).toNat (wrap64 ((rd x6_4 t387) + t393))) true x43_3 (x6_2.length : Int) x43_3 t379 (t379.length : Int) (wrap64 (x53_4 + 1)) l0_0 a0_1 a0_2 t374 t377) else (spec_toLeast.l3 k4 false x6_4 x8_4 x43_3 (x6_2.length : Int) x43_3 t379 (t379.length : Int) (wrap64 (x53_4 + 1)) l0_0 a0_1 a0_2 t374 t377))) else (none)) else (none)) = some r := H
                     have A66 := ak_ A660
                     clear A660
                     have HC67 := ak_ H
                     clear H
                     have hnb68 := NB363_378.out
                     have hnc68 := NB378_363.out
                     obtain ⟨hcz69_0, hcz69_1, hcz69_2, hfz69_0, hfz69_1, hfz69_2⟩ := c3_ BK363.out
                     go_upto_region 25 with (first | ((with_reducible refine gate_callee (f := 62) rfl ?_); refine goesL_ (some 74) rfl rfl Try.func62 (by kernel_rfl) rfl #[.agg #[.slice A0_0 l0_0.length c0_0, .int .i64 a0_1, .int .i64 a0_2], .slice A382_0 (rd_L3 t379 x53_4).length c382_0] rfl rs_ ?_; (with_reducible refine (spec_toTime.calls k4 _ _ l0_0 a0_1 a0_2 _ _ (rd_L3 t379 x53_4) t393 _ ?side1 ?side2 ?side3 ?side4 A66.out).mono ?_); (case side1 => exact cs_ (Kd.C_below HR0_0.out HB.out)); (case side2 => exact HC0_0.out); (case side3 => repeat (first | exact (by repeat (first | (with_reducible exact HR382_0.out) | (with_reducible refine Kd.C_alloc ?_ _) | (with_reducible refine Kd.C_drewN ?_ _) | (with_reducible refine Kd.C_drew ?_) | exact HR382_0.out)) | (with_reducible refine Kd.C_alloc ?_ _) | (with_reducible refine Kd.C_drewN ?_ _) | (with_reducible refine Kd.C_drew ?_))); (case side4 => exact HC382_0.out); rintro e w70 ⟨rfl, hb⟩; refine ⟨_, rfl, ?_⟩; replace HO_6 := ak_ (Kd.R_below (Kd.pR HO_6.out) hb); replace HO_51 := ak_ (Kd.N_below (Kd.pN HO_51.out) hb); replace HO_379000 := ak_ (Kd.R_below (Kd.pR HO_379000.out) hb); replace HL382_0 := ak_ (Kd.V_below (Kd.pV HL382_0.out) hb); replace HO385 := ak_ (Kd.R_below (Kd.pR HO385.out) hb); replace BK363 := ak_ (blk_below (pk BK363.out) hb); replace BK378 := ak_ (blk_below (pk BK378.out) hb); replace HR382_0 := ak_ (Kd.C_below (by repeat (first | (with_reducible exact HR382_0.out) | (with_reducible refine Kd.C_alloc ?_ _) | (with_reducible refine Kd.C_drewN ?_ _) | (with_reducible refine Kd.C_drew ?_) | exact HR382_0.out)) hb); replace HB := ak_ (bs_ bl_ hb); (try clear hb); (try clear hb2); (try clear hk); (try clear hi)))
                     (try simp only [Act.put, setIfInBounds_toArray, set_cons_zero, set_cons_succ])
                     have H := HC67.out
                     clear HC67
                     by_cases c71 : 0 ≤ x43_3
                     ·
                      rw [if_pos c71] at H
                      have c71b0 := decide_eq_true c71
                      clear c71
                      by_cases c72 : x43_3 < (x6_4.length : Int)
                      ·
                       rw [if_pos c72] at H
                       have c72b0 := decide_eq_true c72
                       have c72b9 := c72b0; (try rw [hl6_1] at c72b9); (try rw [hl6_2] at c72b9); (try rw [hl6_3] at c72b9); (try rw [hl6_4] at c72b9)
                       clear c72
                       by_cases c73 : (rd x6_4 x43_3) < 0
                       ·
                        rw [if_pos c73] at H
                        have c73b0 := decide_eq_true c73
                        clear c73
                        obtain ⟨y395, hy395⟩ : ∃ y_ : List Int, y_ = (x6_4.set (x43_3 : Int).toNat (wrap64 ((rd x6_4 t387) + t393))) := ⟨_, rfl⟩
                        replace H : (spec_toLeast.l3 k4 false y395 true x43_3 (x6_2.length : Int) x43_3 t379 (t379.length : Int) (wrap64 (x53_4 + 1)) l0_0 a0_1 a0_2 t374 t377) = some r := by first | (rw [hy395]; exact H) | exact H
                        have Ny395 := ak_ hy395
                        clear hy395
                        have H' := ak_ H
                        clear H
                        have p394 : 0 ≤ (x43_3 : Int) := od_
                        have q394 : x43_3 < (x6_4.length : Int) := od_
                        obtain ⟨ad394, e394, hx394_0⟩ := Kd.at_int (Kd.R_reads' HO_6.out).2.2 x43_3 p394 q394
                        obtain rfl : ad388 = ad394 := (by injection e394)
                        replace p394 := eq_true p394
                        replace q394 := eq_true q394
                        have p74 : 0 ≤ (x43_3 : Int) := od_
                        have q74 : (x43_3 : Int) < ((x6_4.length : Int) : Int) := od_
                        obtain ⟨go74, co74, eo74, gb74, gl74, cl74, HG74⟩ := Kd.R_form HO_6.out (by omega)
                        (first | cases eo74 | (injection eo74 with ea_ en_ ec_; (first | subst ea_ | (injection ea_ with ea_; subst ea_)); subst ec_; clear en_))
                        have GB74 := ak_ gb74
                        have GG74 := ak_ HG74
                        clear gb74 gl74 HG74
                        (first | simp only [add_plain] at hx394_0 | skip)
                        obtain ⟨hx74_0, hf74_0⟩ := Kd.R_celln 0 HO_6.out (x43_3 : Int) p74 q74
                        replace p74 := eq_true p74
                        replace q74 := eq_true q74
                        have HP75 := Kd.R_putg HO_6.out (x43_3 : Int) (wrap64 ((rd x6_4 t387) + t393))
                        go_wp2_with (first | ((with_reducible refine gate_store (t := 3) (p := 92) rfl ?_); refine store_event (t := 3) (p := 92) (v := ?vo_w76) (w1 := (w70.setCell ⟨go74, (x43_3 : Int).toNat, none⟩ (.int .i64 (wrap64 ((rd x6_4 t387) + t393))))) ?hg ?ho ?hn ?hr ?_; (case ho => rfl); (case hg => rfl); (case hn => rfl); (case hr => go_simp <;> rfl); intro w76 hw; have hg : w70.grownBy w76 (some go74) := (by rw [hw]; exact HP75.2); have hp_ : Kd.R (Kd.int .i64) 3 w76 w.heap.size (fun _ => True) (.slice (some ⟨go74, 0, none⟩) x6_4.length co10) y395 := (by rw [hw, Ny395.out]; exact HP75.1); clear HP75; replace HO_51 := ak_ (Kd.N_afterv (v := (.slice (some ⟨go74, 0, none⟩) x6_4.length co10)) (v1 := (.slice (some ⟨go74, 0, none⟩) x6_4.length co10)) (ok := (fun k_ => some k_ ≠ (.slice Ao35 t374.length co35 : Value).ownBlock ∧ some k_ ≠ (.slice Ao51 t383.length co51 : Value).ownBlock ∧ k_ ≠ gb363 ∧ k_ ≠ gb378)) (by (with_reducible repeat (first | apply Kd.N_alloc | apply Kd.N_drewN | apply Kd.N_drew)); exact Kd.N_mono HO_51.out (fun _ hk => ⟨⟨hk.1.2.1, ⟨hk.2, ⟨hk.1.2.2.1, hk.1.2.2.2⟩⟩⟩, hk.1.1⟩)) hg (.inl rfl)); replace HO_379000 := ak_ (Kd.R_over' (v := (.slice (some ⟨go74, 0, none⟩) x6_4.length co10)) (Kd.pR HO_379000.out) (Kd.R_typed HO_6.out) (by decide) hg); replace BK363 := ak_ (blk_grown (pk BK363.out) hg (Kd.R_ne HO_6.out BK363.out (by decide))); replace BK378 := ak_ (blk_grown (pk BK378.out) hg (Kd.R_ne HO_6.out BK378.out (by decide))); replace HL382_0 := ak_ (Kd.V_afterv (v := (.slice (some ⟨go74, 0, none⟩) x6_4.length co10)) (v1 := (.slice (some ⟨go74, 0, none⟩) x6_4.length co10)) (ok := (fun k_ => some k_ ≠ (.slice (some ad382) t379.length co40 : Value).ownBlock ∧ some k_ ≠ (.slice Ao35 t374.length co35 : Value).ownBlock ∧ some k_ ≠ (.slice Ao51 t383.length co51 : Value).ownBlock ∧ k_ ≠ gb363 ∧ k_ ≠ gb378)) (by (with_reducible repeat (first | apply Kd.V_alloc | apply Kd.V_drewN | apply Kd.V_drew)); exact Kd.V_mono HL382_0.out (fun _ hk => ⟨⟨hk.1.2, ⟨hk.1.1.2.1, ⟨hk.2, ⟨hk.1.1.2.2.1, hk.1.1.2.2.2⟩⟩⟩⟩, hk.1.1.1⟩)) hg (.inl rfl)); replace HO385 := ak_ (Kd.R_over' (v := (.slice (some ⟨go74, 0, none⟩) x6_4.length co10)) (Kd.pR HO385.out) (Kd.R_typed HO_6.out) (by decide) hg); replace HO_6 := ak_ (hp_); replace HB := ak_ ((by rw [hw]; exact below_set (HB.out) GB74.out : Below w.heap.size w w76)); clear hg hw hp_))
                        (try simp only [← hl6_4])
                        go_roundg k4
                        case measure => have := HK1.out; have := HK2.out; have := HK3.out; have := HK4.out; omega
                        case rel => exact ⟨(y395), (true), (wrap64 (x53_4 + 1)), (ry_), (ry_), H', ⟨by have := HK1.out; have := HK2.out; have := HK3.out; have := HK4.out; omega⟩, ⟨by (try simp only [hl6_1, hl6_2, hl6_3, hl6_4]); exact Kd.pR HO_6.out⟩, ⟨by (try simp only [hl6_1, hl6_2, hl6_3, hl6_4]); (with_reducible repeat (first | apply Kd.N_alloc | apply Kd.N_drewN | apply Kd.N_drew)); exact Kd.N_mono HO_51.out (fun _ hk => ⟨hk.2, ⟨hk.1.1, ⟨hk.1.2.2.1, hk.1.2.2.2⟩⟩⟩)⟩, ⟨by (try simp only [hl6_1, hl6_2, hl6_3, hl6_4]); (with_reducible repeat (first | apply Kd.R_alloc | apply Kd.R_drewN | apply Kd.R_drew)); exact Kd.R_mono HO_379000.out (fun _ hk => trivial)⟩, ⟨by (try simp only [hl6_1, hl6_2, hl6_3, hl6_4]); exact pk BK363.out⟩, ⟨by (try simp only [hl6_1, hl6_2, hl6_3, hl6_4]); exact pk BK378.out⟩, ⟨bl_⟩⟩
                       ·
                        rw [if_neg c73] at H
                        have c73b0 := decide_eq_false c73
                        clear c73
                        have HC77 := ak_ H
                        clear H
                        have p394 : 0 ≤ (x43_3 : Int) := od_
                        have q394 : x43_3 < (x6_4.length : Int) := od_
                        obtain ⟨ad394, e394, hx394_0⟩ := Kd.at_int (Kd.R_reads' HO_6.out).2.2 x43_3 p394 q394
                        obtain rfl : ad388 = ad394 := (by injection e394)
                        replace p394 := eq_true p394
                        replace q394 := eq_true q394
                        have p396 : 0 ≤ (x43_3 : Int) := od_
                        have q396 : x43_3 < (x6_4.length : Int) := od_
                        obtain ⟨ad396, e396, hx396_0⟩ := Kd.at_int (Kd.R_reads' HO_6.out).2.2 x43_3 p396 q396
                        obtain rfl : ad388 = ad396 := (by injection e396)
                        replace p396 := eq_true p396
                        replace q396 := eq_true q396
                        go_upto_if 88 with (fail)
                        have H := HC77.out
                        clear HC77
                        by_cases c78 : (wrap64 ((rd x6_4 t387) + t393)) < (rd x6_4 x43_3)
                        ·
                         rw [if_pos c78] at H
                         have c78b0 := decide_eq_true c78
                         clear c78
                         (first | rw [c78b0] | (simp only [i64_w, i32_w]; rw [c78b0]) | rw [c78b1] | skip)
                         obtain ⟨y397, hy397⟩ : ∃ y_ : List Int, y_ = (x6_4.set (x43_3 : Int).toNat (wrap64 ((rd x6_4 t387) + t393))) := ⟨_, rfl⟩
                         replace H : (spec_toLeast.l3 k4 false y397 true x43_3 (x6_2.length : Int) x43_3 t379 (t379.length : Int) (wrap64 (x53_4 + 1)) l0_0 a0_1 a0_2 t374 t377) = some r := by first | (rw [hy397]; exact H) | exact H
                         have Ny397 := ak_ hy397
                         clear hy397
                         have H' := ak_ H
                         clear H
                         have p79 : 0 ≤ (x43_3 : Int) := od_
                         have q79 : (x43_3 : Int) < ((x6_4.length : Int) : Int) := od_
                         obtain ⟨go79, co79, eo79, gb79, gl79, cl79, HG79⟩ := Kd.R_form HO_6.out (by omega)
                         (first | cases eo79 | (injection eo79 with ea_ en_ ec_; (first | subst ea_ | (injection ea_ with ea_; subst ea_)); subst ec_; clear en_))
                         have GB79 := ak_ gb79
                         have GG79 := ak_ HG79
                         clear gb79 gl79 HG79
                         (first | simp only [add_plain] at hx394_0 | skip)
                         (first | simp only [add_plain] at hx396_0 | skip)
                         obtain ⟨hx79_0, hf79_0⟩ := Kd.R_celln 0 HO_6.out (x43_3 : Int) p79 q79
                         replace p79 := eq_true p79
                         replace q79 := eq_true q79
                         have HP80 := Kd.R_putg HO_6.out (x43_3 : Int) (wrap64 ((rd x6_4 t387) + t393))
                         go_wp2_with (first | ((with_reducible refine gate_store (t := 3) (p := 92) rfl ?_); refine store_event (t := 3) (p := 92) (v := ?vo_w81) (w1 := (w70.setCell ⟨go79, (x43_3 : Int).toNat, none⟩ (.int .i64 (wrap64 ((rd x6_4 t387) + t393))))) ?hg ?ho ?hn ?hr ?_; (case ho => rfl); (case hg => rfl); (case hn => rfl); (case hr => go_simp <;> rfl); intro w81 hw; have hg : w70.grownBy w81 (some go79) := (by rw [hw]; exact HP80.2); have hp_ : Kd.R (Kd.int .i64) 3 w81 w.heap.size (fun _ => True) (.slice (some ⟨go79, 0, none⟩) x6_4.length co10) y397 := (by rw [hw, Ny397.out]; exact HP80.1); clear HP80; replace HO_51 := ak_ (Kd.N_afterv (v := (.slice (some ⟨go79, 0, none⟩) x6_4.length co10)) (v1 := (.slice (some ⟨go79, 0, none⟩) x6_4.length co10)) (ok := (fun k_ => some k_ ≠ (.slice Ao35 t374.length co35 : Value).ownBlock ∧ some k_ ≠ (.slice Ao51 t383.length co51 : Value).ownBlock ∧ k_ ≠ gb363 ∧ k_ ≠ gb378)) (by (with_reducible repeat (first | apply Kd.N_alloc | apply Kd.N_drewN | apply Kd.N_drew)); exact Kd.N_mono HO_51.out (fun _ hk => ⟨⟨hk.1.2.1, ⟨hk.2, ⟨hk.1.2.2.1, hk.1.2.2.2⟩⟩⟩, hk.1.1⟩)) hg (.inl rfl)); replace HO_379000 := ak_ (Kd.R_over' (v := (.slice (some ⟨go79, 0, none⟩) x6_4.length co10)) (Kd.pR HO_379000.out) (Kd.R_typed HO_6.out) (by decide) hg); replace BK363 := ak_ (blk_grown (pk BK363.out) hg (Kd.R_ne HO_6.out BK363.out (by decide))); replace BK378 := ak_ (blk_grown (pk BK378.out) hg (Kd.R_ne HO_6.out BK378.out (by decide))); replace HL382_0 := ak_ (Kd.V_afterv (v := (.slice (some ⟨go79, 0, none⟩) x6_4.length co10)) (v1 := (.slice (some ⟨go79, 0, none⟩) x6_4.length co10)) (ok := (fun k_ => some k_ ≠ (.slice (some ad382) t379.length co40 : Value).ownBlock ∧ some k_ ≠ (.slice Ao35 t374.length co35 : Value).ownBlock ∧ some k_ ≠ (.slice Ao51 t383.length co51 : Value).ownBlock ∧ k_ ≠ gb363 ∧ k_ ≠ gb378)) (by (with_reducible repeat (first | apply Kd.V_alloc | apply Kd.V_drewN | apply Kd.V_drew)); exact Kd.V_mono HL382_0.out (fun _ hk => ⟨⟨hk.1.2, ⟨hk.1.1.2.1, ⟨hk.2, ⟨hk.1.1.2.2.1, hk.1.1.2.2.2⟩⟩⟩⟩, hk.1.1.1⟩)) hg (.inl rfl)); replace HO385 := ak_ (Kd.R_over' (v := (.slice (some ⟨go79, 0, none⟩) x6_4.length co10)) (Kd.pR HO385.out) (Kd.R_typed HO_6.out) (by decide) hg); replace HO_6 := ak_ (hp_); replace HB := ak_ ((by rw [hw]; exact below_set (HB.out) GB79.out : Below w.heap.size w w81)); clear hg hw hp_))
                         (try simp only [← hl6_4])
                         go_roundg k4
                         case measure => have := HK1.out; have := HK2.out; have := HK3.out; have := HK4.out; omega
                         case rel => exact ⟨(y397), (true), (wrap64 (x53_4 + 1)), (ry_), (ry_), H', ⟨by have := HK1.out; have := HK2.out; have := HK3.out; have := HK4.out; omega⟩, ⟨by (try simp only [hl6_1, hl6_2, hl6_3, hl6_4]); exact Kd.pR HO_6.out⟩, ⟨by (try simp only [hl6_1, hl6_2, hl6_3, hl6_4]); (with_reducible repeat (first | apply Kd.N_alloc | apply Kd.N_drewN | apply Kd.N_drew)); exact Kd.N_mono HO_51.out (fun _ hk => ⟨hk.2, ⟨hk.1.1, ⟨hk.1.2.2.1, hk.1.2.2.2⟩⟩⟩)⟩, ⟨by (try simp only [hl6_1, hl6_2, hl6_3, hl6_4]); (with_reducible repeat (first | apply Kd.R_alloc | apply Kd.R_drewN | apply Kd.R_drew)); exact Kd.R_mono HO_379000.out (fun _ hk => trivial)⟩, ⟨by (try simp only [hl6_1, hl6_2, hl6_3, hl6_4]); exact pk BK363.out⟩, ⟨by (try simp only [hl6_1, hl6_2, hl6_3, hl6_4]); exact pk BK378.out⟩, ⟨bl_⟩⟩
                        ·
                         rw [if_neg c78] at H
                         have c78b0 := decide_eq_false c78
                         clear c78
                         (first | rw [c78b0] | (simp only [i64_w, i32_w]; rw [c78b0]) | rw [c78b1] | skip)
                         have H' := ak_ H
                         clear H
                         go_wp2
                         (try simp only [← hl6_4])
                         go_roundg k4
                         case measure => have := HK1.out; have := HK2.out; have := HK3.out; have := HK4.out; omega
                         case rel => exact ⟨(x6_4), (x8_4), (wrap64 (x53_4 + 1)), (ry_), (ry_), H', ⟨by have := HK1.out; have := HK2.out; have := HK3.out; have := HK4.out; omega⟩, ⟨by (try simp only [hl6_1, hl6_2, hl6_3, hl6_4]); exact Kd.pR HO_6.out⟩, ⟨by (try simp only [hl6_1, hl6_2, hl6_3, hl6_4]); (with_reducible repeat (first | apply Kd.N_alloc | apply Kd.N_drewN | apply Kd.N_drew)); exact Kd.N_mono HO_51.out (fun _ hk => ⟨hk.1.1, ⟨hk.1.2.1, ⟨hk.1.2.2.1, hk.1.2.2.2⟩⟩⟩)⟩, ⟨by (try simp only [hl6_1, hl6_2, hl6_3, hl6_4]); (with_reducible repeat (first | apply Kd.R_alloc | apply Kd.R_drewN | apply Kd.R_drew)); exact Kd.R_mono HO_379000.out (fun _ hk => trivial)⟩, ⟨by (try simp only [hl6_1, hl6_2, hl6_3, hl6_4]); exact pk BK363.out⟩, ⟨by (try simp only [hl6_1, hl6_2, hl6_3, hl6_4]); exact pk BK378.out⟩, ⟨bl_⟩⟩
                      ·
                       rw [if_neg c72] at H
                       exact absurd H (by simp)
                     ·
                      rw [if_neg c71] at H
                      exact absurd H (by simp)
                  ·
                   rw [if_neg c47] at H
                   exact absurd H (by simp)
                 ·
                  rw [if_neg c46] at H
                  exact absurd H (by simp)
                ·
                 rw [if_neg c43] at H
                 exact absurd H (by simp)
               ·
                rw [if_neg c42] at H
                exact absurd H (by simp)
              ·
               rw [if_neg c41] at H
               have c41b0 := decide_eq_false c41
               have c41b9 := c41b0; (try rw [hl6_1] at c41b9); (try rw [hl6_2] at c41b9); (try rw [hl6_3] at c41b9); (try rw [hl6_4] at c41b9)
               clear c41
               have H' := ak_ H
               clear H
               go_wp2
               (try simp only [← hl6_3, ← hl6_4])
               go_roundg k4
               case measure => have := HK1.out; have := HK2.out; have := HK3.out; have := HK4.out; omega
               case rel => exact ⟨(x6_4), (x8_4), (wrap64 (x43_3 + 1)), (ry_), (ry_), H', ⟨by have := HK1.out; have := HK2.out; have := HK3.out; have := HK4.out; omega⟩, ⟨by (try simp only [hl6_1, hl6_2, hl6_3, hl6_4]); exact Kd.pR HO_6.out⟩, ⟨by (try simp only [hl6_1, hl6_2, hl6_3, hl6_4]); exact pk BK363.out⟩, ⟨bl_⟩⟩
           ·
            rw [if_neg c29] at H
            have c29b0 := decide_eq_false c29
            have c29b9 := c29b0; (try rw [hl6_1] at c29b9); (try rw [hl6_2] at c29b9); (try rw [hl6_3] at c29b9)
            clear c29
            have H' := ak_ H
            clear H
            go_wp2
            (try simp only [← hl6_2, ← hl6_3])
            go_roundg k3
            case measure => have := HK1.out; have := HK2.out; have := HK3.out; omega
            case rel => exact ⟨(x6_3), (x8_3), (ry_), H', ⟨by have := HK1.out; have := HK2.out; have := HK3.out; omega⟩, ⟨by (try simp only [hl6_1, hl6_2, hl6_3]); exact Kd.pR HO_6.out⟩, ⟨by (try simp only [hl6_1, hl6_2, hl6_3]); exact pk BK363.out⟩, ⟨bl_⟩⟩
        ·
         replace c28 := Bool.eq_false_iff.mpr c28
         subst c28
         have H1 : (some x6_2) = some r := by rw [if_neg (show ¬ (false = true) by decide)] at H; exact H
         clear H
         have H := H1
         clear H1
         obtain rfl := Option.some.inj H
         go_wp2
         go_ret
         exact ⟨_, by first | rfl | (simp [errW_none, errW_some] <;> rfl) | (simp only [← hji3]; first | rfl | (simp [errW_none, errW_some] <;> rfl)) | (simp [*, errW_none, errW_some] <;> rfl), by (with_reducible repeat (first | apply Kd.R_alloc | apply Kd.R_drewN | apply Kd.R_drew)); exact HO_6.out, bl_⟩
  ·
   rw [if_neg c5] at H
   exact absurd H (by simp)
 ·
  rw [if_neg c4] at H
  exact absurd H (by simp)
end Go.Proofs.Ytmdbhpbogbekmaa.QNt
