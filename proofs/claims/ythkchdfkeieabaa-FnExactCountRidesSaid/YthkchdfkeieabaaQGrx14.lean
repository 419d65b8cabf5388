/- Contracts of functions of the given program, walked: each call returns what its Lean function says. Conditions: those that stand at each theorem. (Written by a program of this session.) -/
import Derived.Test.YthkchdfkeieabaaQGrx0
import Derived.Test.YthkchdfkeieabaaQGrx12
import Derived.Test.YthkchdfkeieabaaQGrx13
namespace Go.Proofs.Ythkchdfkeieabaa.QGr
open Go.RowKit Go.Proofs.YthkchdfkeieabaaW.PrintWords Go.Proofs.YthkchdfkeieabaaW.PrintLast Go.Proofs.YthkchdfkeieabaaW.PrintMore
open List (setIfInBounds_toArray set_cons_zero set_cons_succ map_toArray map_cons map_nil)
attribute [local go_sem] max2_int min2_int max_two min_two max_three min_three max_four min_four
set_option linter.unusedVariables false
set_option maxHeartbeats 8000000
set_option maxRecDepth 100000
set_option linter.unusedSimpArgs false
mutual
def impl_IsKeep.j0 : Nat → Bool → Int → List (List Int) → Int → Option (Bool)
 | 0, _, _, _, _ => none
 | k + 1, x14, x408000, x408001, x408002 => if x14 = true then (some false) else (impl_IsKeep.l0 k x408001 (x408001.length : Int) 0 x408000 x408001 x408002)
def impl_IsKeep.l0 : Nat → List (List Int) → Int → Int → Int → List (List Int) → Int → Option (Bool)
 | 0, _, _, _, _, _, _ => none
 | k + 1, x16, x17, x18, x408000, x408001, x408002 => if x18 < x17 then (if 0 ≤ x18 then (if x18 < (x16.length : Int) then ((impl_areIn.f (rd_L1 x16 x18) 0 (wrap64 (x408000 - 1)) 2 2).bind fun t411 => (if t411 = true then (if 0 < ((rd_L1 x16 x18).length : Int) then (if 1 < ((rd_L1 x16 x18).length : Int) then (if (rd (rd_L1 x16 x18) 0) ≥ (rd (rd_L1 x16 x18) 1) then (impl_IsKeep.j2 k x16 x17 x18 true x408000 x408001 x408002) else (if x18 > 0 then (if 0 ≤ (wrap64 (x18 - 1)) then (if (wrap64 (x18 - 1)) < (x408001.length : Int) then ((slices_Compare_int_int.f k (rd_L1 x408001 (wrap64 (x18 - 1))) (rd_L1 x16 x18)).bind fun t415 => (impl_IsKeep.j2 k x16 x17 x18 (decide (t415 ≥ 0)) x408000 x408001 x408002)) else (none)) else (none)) else (impl_IsKeep.j2 k x16 x17 x18 false x408000 x408001 x408002))) else (none)) else (none)) else (impl_IsKeep.j2 k x16 x17 x18 true x408000 x408001 x408002))) else (none)) else (none)) else (some true)
def impl_IsKeep.j2 : Nat → List (List Int) → Int → Int → Bool → Int → List (List Int) → Int → Option (Bool)
 | 0, _, _, _, _, _, _, _ => none
 | k + 1, x16, x17, x18, x52, x408000, x408001, x408002 => if x52 = true then (some false) else (impl_IsKeep.l0 k x16 x17 (wrap64 (x18 + 1)) x408000 x408001 x408002)
end
def impl_IsKeep.f (k : Nat) (a0_0 : Int) (l0_1 : List (List Int)) (a0_2 : Int) : Option (Bool) := (impl_in.f a0_0 0 8).bind fun t408 => (if t408 = true then ((impl_in.f a0_2 0 8).bind fun t409 => (impl_IsKeep.j0 k (!t409) a0_0 l0_1 a0_2)) else (impl_IsKeep.j0 k true a0_0 l0_1 a0_2))
theorem impl_IsKeep.mono_l : ∀ k, (∀ y0 y1 y2 y3, LeO (impl_IsKeep.j0 k y0 y1 y2 y3) (impl_IsKeep.j0 (k + 1) y0 y1 y2 y3)) ∧ (∀ y0 y1 y2 y3 y4 y5, LeO (impl_IsKeep.l0 k y0 y1 y2 y3 y4 y5) (impl_IsKeep.l0 (k + 1) y0 y1 y2 y3 y4 y5)) ∧ (∀ y0 y1 y2 y3 y4 y5 y6, LeO (impl_IsKeep.j2 k y0 y1 y2 y3 y4 y5 y6) (impl_IsKeep.j2 (k + 1) y0 y1 y2 y3 y4 y5 y6))
 | 0 => ⟨fun _ _ _ _ r h => by simp [impl_IsKeep.j0] at h, fun _ _ _ _ _ _ r h => by simp [impl_IsKeep.l0] at h, fun _ _ _ _ _ _ _ r h => by simp [impl_IsKeep.j2] at h⟩
 | k + 1 => by
  obtain ⟨ih0, ih1, ih2⟩ := impl_IsKeep.mono_l k
  refine ⟨?_, ?_, ?_⟩
  ·intro y0 y1 y2 y3
   unfold impl_IsKeep.j0
   repeat' first
   | (with_reducible first | exact ih0 _ _ _ _ | exact ih1 _ _ _ _ _ _ | exact ih2 _ _ _ _ _ _ _ | exact slices_Compare_int_int.mono _ _ _ | exact LeO.refl _ | exact LeO.none _ | refine LeO.ite ?_ ?_ | refine LeO.bind ?_ (fun _ => ?_))
   | exact ih0 _ _ _ _
   | exact ih1 _ _ _ _ _ _
   | exact ih2 _ _ _ _ _ _ _
   | exact slices_Compare_int_int.mono _ _ _
   | exact LeO.none _
   | refine LeO.ite ?_ ?_
   | refine LeO.bind ?_ (fun _ => ?_)
  ·intro y0 y1 y2 y3 y4 y5
   unfold impl_IsKeep.l0
   repeat' first
   | (with_reducible first | exact ih0 _ _ _ _ | exact ih1 _ _ _ _ _ _ | exact ih2 _ _ _ _ _ _ _ | exact slices_Compare_int_int.mono _ _ _ | exact LeO.refl _ | exact LeO.none _ | refine LeO.ite ?_ ?_ | refine LeO.bind ?_ (fun _ => ?_))
   | exact ih0 _ _ _ _
   | exact ih1 _ _ _ _ _ _
   | exact ih2 _ _ _ _ _ _ _
   | exact slices_Compare_int_int.mono _ _ _
   | exact LeO.none _
   | refine LeO.ite ?_ ?_
   | refine LeO.bind ?_ (fun _ => ?_)
  ·intro y0 y1 y2 y3 y4 y5 y6
   unfold impl_IsKeep.j2
   repeat' first
   | (with_reducible first | exact ih0 _ _ _ _ | exact ih1 _ _ _ _ _ _ | exact ih2 _ _ _ _ _ _ _ | exact slices_Compare_int_int.mono _ _ _ | exact LeO.refl _ | exact LeO.none _ | refine LeO.ite ?_ ?_ | refine LeO.bind ?_ (fun _ => ?_))
   | exact ih0 _ _ _ _
   | exact ih1 _ _ _ _ _ _
   | exact ih2 _ _ _ _ _ _ _
   | exact slices_Compare_int_int.mono _ _ _
   | exact LeO.none _
   | refine LeO.ite ?_ ?_
   | refine LeO.bind ?_ (fun _ => ?_)
theorem impl_IsKeep.mono : ∀ a0 a1 a2 k, LeO (impl_IsKeep.f k a0 a1 a2) (impl_IsKeep.f (k + 1) a0 a1 a2) := by
 intro a0 a1 a2 k
 obtain ⟨ih0, ih1, ih2⟩ := impl_IsKeep.mono_l k
 unfold impl_IsKeep.f
 repeat' first
  | (with_reducible first | exact ih0 _ _ _ _ | exact ih1 _ _ _ _ _ _ | exact ih2 _ _ _ _ _ _ _ | exact slices_Compare_int_int.mono _ _ _ | exact LeO.refl _ | exact LeO.none _ | refine LeO.ite ?_ ?_ | refine LeO.bind ?_ (fun _ => ?_))
  | exact ih0 _ _ _ _
  | exact ih1 _ _ _ _ _ _
  | exact ih2 _ _ _ _ _ _ _
  | exact slices_Compare_int_int.mono _ _ _
  | exact LeO.none _
  | refine LeO.ite ?_ ?_
  | refine LeO.bind ?_ (fun _ => ?_)
def impl_IsKeep.T6 : Bool × List (List Nat × List Nat) := (true, [([], []), ([], []), ([1], [1]), ([2], [2]), ([0, 3], [0, 3]), ([4], [4]), ([5, 4], [5]), ([6], [6]), ([7, 6], [6, 7]), ([8, 6], [6, 8]), ([6], [6]), ([10, 6], [6, 10]), ([11, 6], [6, 11]), ([9, 12, 6], [6, 9, 12]), ([6, 13], [6, 13]), ([14, 6], [14]), ([15], [15]), ([16, 15], [15, 16]), ([17, 15, 15], [15, 17]), ([18], [18]), ([19, 18], [18, 19]), ([18], [18]), ([21, 18], [18, 21]), ([20, 22, 18], [18, 20, 22]), ([23, 18], [18, 23]), ([18], [18]), ([24, 25, 18, 18], [18, 24, 25]), ([26, 18], [18, 26]), ([18, 27, 15], [15, 18, 27]), ([15, 28], [15, 28])])
def impl_IsKeep.B6 : List Nat := [0, 0, 2, 6, 15, 31, 63, 127, 255, 511, 127, 1151, 3199, 8191, 16383, 32767, 65535, 131071, 262143, 524287, 1048575, 524287, 2621439, 8388607, 16777215, 524287, 67108863, 134217727, 268435455, 536870911]
theorem impl_IsKeep.tab6 : rtab .any (opsOf Try.f66 6) = impl_IsKeep.T6 := by kernel_rfl
theorem impl_IsKeep.bits6 : waitsOk impl_IsKeep.T6.2 impl_IsKeep.B6 = true := by kernel_rfl
theorem impl_IsKeep.calls (k : Nat) (a0_0 : Int) (A0_1 : Option Addr) (c0_1 : Nat) (l0_1 : List (List Int)) (a0_2 : Int) (r : Bool) (w : World) (hr0_1 : Kd.C (Kd.slice 3 (Kd.int .i64)) w A0_1 l0_1.length l0_1) (hc0_1 : l0_1.length ≤ c0_1) (h : impl_IsKeep.f k a0_0 l0_1 a0_2 = some r) :
  Calls Try.prog 66 #[.agg #[.int .i64 a0_0, .slice A0_1 l0_1.length c0_1, .int .i64 a0_2]] w fun e w' => e = .returned (.bool r) ∧ Below w.heap.size w w' := by
 have hu52 := Try.underlying52
 have HR0_1 := ak_ hr0_1
 have HC0_1 := ak_ hc0_1
 clear hr0_1 hc0_1
 have HB := ak_ (Below.refl w.heap.size w)
 have H : ((impl_in.f a0_0 0 8).bind fun t408 => (if t408 = true then ((impl_in.f a0_2 0 8).bind fun t409 => (impl_IsKeep.j0 k (!t409) a0_0 l0_1 a0_2)) else (impl_IsKeep.j0 k true a0_0 l0_1 a0_2))) = some r := h
 clear h
 have HC2 := ak_ H
 clear H
 go_enter Try.func66, Try.ntmps66
 go_upto_region 1 with (first | ((with_reducible refine gate_dst (N := 1) rfl ?_); refine bx_ 1 #[.int .i64 a0_0, .slice A0_1 l0_1.length c0_1, .int .i64 a0_2] 52 ?_; intro gb407 hg w3 hbox hb; have n0_ := ak_ (bs_ (bb_ HB.out) hb); have n1_ := ak_ (hbox); have n2_ := ak_ ((by rw [hg]; exact (bz_ (bb_ HB.out)) : w.heap.size ≤ gb407)); have n3_ := n2_; clear HB; have HB := n0_; have BK407 := n1_; have GW407 := n2_; have GE407 := n3_; clear n0_ n1_ n2_ n3_; clear hb hbox hg))
 (try simp only [Act.put, setIfInBounds_toArray, set_cons_zero, set_cons_succ])
 go_cut [14] (fun v14 wc => ∃ (kq : Nat) (x14_1 : Bool), v14 = .bool x14_1 ∧ Aside0 (impl_IsKeep.j0 kq x14_1 a0_0 l0_1 a0_2 = some r) ∧ Aside0 (kq ≤ k) ∧ Aside0 (wc.heap[gb407]? = some (.cells #[.int .i64 a0_0, (.slice A0_1 l0_1.length c0_1), .int .i64 a0_2] 52 (0, 0))) ∧ Aside0 (Below w.heap.size w wc))
 case first =>
  have H := HC2.out
  clear HC2
  replace H := Option.bind_eq_some_iff.mp H
  obtain ⟨t408, A40, H⟩ := H
  replace H : (if t408 = true then ((impl_in.f a0_2 0 8).bind fun t409 => (impl_IsKeep.j0 k (!t409) a0_0 l0_1 a0_2)) else (impl_IsKeep.j0 k true a0_0 l0_1 a0_2)) = some r := H
  have A4 := ak_ A40
  clear A40
  by_cases c5 : t408 = true
  ·
   subst c5
   have H1 : ((impl_in.f a0_2 0 8).bind fun t409 => (impl_IsKeep.j0 k (!t409) a0_0 l0_1 a0_2)) = some r := by rw [if_pos rfl] at H; exact H
   clear H
   have H := H1
   clear H1
   replace H := Option.bind_eq_some_iff.mp H
   obtain ⟨t409, A60, H⟩ := H
   replace H : (impl_IsKeep.j0 k (!t409) a0_0 l0_1 a0_2) = some r := H
   have A6 := ak_ A60
   clear A60
   have H' := ak_ H
   clear H
   have hcz7_0 : w3.cell? ⟨gb407, 0, none⟩ = some (.int .i64 a0_0) := (blk_cell BK407.out 0).trans rfl
   have hcz7_1 : w3.cell? ⟨gb407, 1, none⟩ = some (.slice A0_1 l0_1.length c0_1) := (blk_cell BK407.out 1).trans rfl
   have hcz7_2 : w3.cell? ⟨gb407, 2, none⟩ = some (.int .i64 a0_2) := (blk_cell BK407.out 2).trans rfl
   have hfz7_0 := blk_frozen BK407.out 0
   have hfz7_1 := blk_frozen BK407.out 1
   have hfz7_2 := blk_frozen BK407.out 2
   go_wp2_with (first | ((with_reducible refine gate_callee (f := 82) rfl ?_); refine goesL_ (some 7) rfl rfl Try.func82 (by kernel_rfl) rfl #[.int .i64 a0_0, .int .i64 0, .int .i64 8] rfl (by first | rfl | (simp only [map_toArray, map_cons, map_nil]; try rfl)) ?_; (with_reducible refine (impl_in.calls a0_0 0 8 true _ A4.out).mono ?_); rintro e w' ⟨rfl, ⟨nd, rfl⟩⟩; refine ⟨_, rfl, ?_⟩) | (go_at_call 82; (with_reducible refine (impl_in.calls a0_2 0 8 t409 _ A6.out).mono ?_); rintro e w' ⟨rfl, ⟨nd, rfl⟩⟩))
   go_meet
   case rel => exact ⟨_, (!t409), (ry_), H', ⟨by first | omega | exact Nat.le_refl _⟩, ⟨pk BK407.out⟩, ⟨by repeat (first | exact HB.out | apply ba_ | apply bN_ | apply b1_ | refine below_set ?_ GE407.out)⟩⟩
  ·
   replace c5 := Bool.eq_false_iff.mpr c5
   subst c5
   have H1 : (impl_IsKeep.j0 k true a0_0 l0_1 a0_2) = some r := by rw [if_neg (show ¬ (false = true) by decide)] at H; exact H
   clear H
   have H := H1
   clear H1
   have H' := ak_ H
   clear H
   have hcz8_0 : w3.cell? ⟨gb407, 0, none⟩ = some (.int .i64 a0_0) := (blk_cell BK407.out 0).trans rfl
   have hcz8_1 : w3.cell? ⟨gb407, 1, none⟩ = some (.slice A0_1 l0_1.length c0_1) := (blk_cell BK407.out 1).trans rfl
   have hcz8_2 : w3.cell? ⟨gb407, 2, none⟩ = some (.int .i64 a0_2) := (blk_cell BK407.out 2).trans rfl
   have hfz8_0 := blk_frozen BK407.out 0
   have hfz8_1 := blk_frozen BK407.out 1
   have hfz8_2 := blk_frozen BK407.out 2
   go_wp2_with (first | ((with_reducible refine gate_callee (f := 82) rfl ?_); refine goesL_ (some 7) rfl rfl Try.func82 (by kernel_rfl) rfl #[.int .i64 a0_0, .int .i64 0, .int .i64 8] rfl (by first | rfl | (simp only [map_toArray, map_cons, map_nil]; try rfl)) ?_; (with_reducible refine (impl_in.calls a0_0 0 8 false _ A4.out).mono ?_); rintro e w' ⟨rfl, ⟨nd, rfl⟩⟩; refine ⟨_, rfl, ?_⟩))
   go_meet
   case rel => exact ⟨_, (true), (ry_), H', ⟨by first | omega | exact Nat.le_refl _⟩, ⟨pk BK407.out⟩, ⟨by repeat (first | exact HB.out | apply ba_ | apply bN_ | apply b1_ | refine below_set ?_ GE407.out)⟩⟩
 case rest =>
  clear HC2
  try clear p2
  try clear c5
  try clear c6
  try clear c8
  try clear hcz7_0
  try clear hcz7_1
  try clear hcz7_2
  try clear hcz8_0
  try clear hcz8_1
  try clear hcz8_2
  try clear hfz7_0
  try clear hfz7_1
  try clear hfz7_2
  try clear hfz8_0
  try clear hfz8_1
  try clear hfz8_2
  obtain ⟨kq, x14_1, rfl, HA, HJ1, BK407, HB⟩ := hcut
  cases kq with
  | zero => exact absurd HA.out (by simp [impl_IsKeep.j0])
  | succ kj1 =>
   have H := HA.out
   clear HA
   simp only [impl_IsKeep.j0] at H
   by_cases c9 : x14_1 = true
   ·
    subst c9
    have H1 : (some false) = some r := by rw [if_pos rfl] at H; exact H
    clear H
    have H := H1
    clear H1
    obtain rfl := Option.some.inj H
    go_wp2
    go_ret
    exact ⟨rx_, by repeat (first | exact HB.out | apply ba_ | apply bN_ | apply b1_ | refine below_set ?_ GE407.out)⟩
   ·
    replace c9 := Bool.eq_false_iff.mpr c9
    subst c9
    have H1 : (impl_IsKeep.l0 kj1 l0_1 (l0_1.length : Int) 0 a0_0 l0_1 a0_2) = some r := by rw [if_neg (show ¬ (false = true) by decide)] at H; exact H
    clear H
    have H := H1
    clear H1
    have H' := ak_ H
    clear H
    have hcz10_0 : wc.cell? ⟨gb407, 0, none⟩ = some (.int .i64 a0_0) := (blk_cell BK407.out 0).trans rfl
    have hcz10_1 : wc.cell? ⟨gb407, 1, none⟩ = some (.slice A0_1 l0_1.length c0_1) := (blk_cell BK407.out 1).trans rfl
    have hcz10_2 : wc.cell? ⟨gb407, 2, none⟩ = some (.int .i64 a0_2) := (blk_cell BK407.out 2).trans rfl
    have hfz10_0 := blk_frozen BK407.out 0
    have hfz10_1 := blk_frozen BK407.out 1
    have hfz10_2 := blk_frozen BK407.out 2
    go_wp2
    go_loopg [18] kj1 (fun kq v18 w' => ∃ (x18_2 : Int), v18 = .int .i64 x18_2 ∧ Aside0 (impl_IsKeep.l0 kq l0_1 (l0_1.length : Int) x18_2 a0_0 l0_1 a0_2 = some r) ∧ Aside0 (kq ≤ kj1) ∧ Aside0 (w'.heap[gb407]? = some (.cells #[.int .i64 a0_0, (.slice A0_1 l0_1.length c0_1), .int .i64 a0_2] 52 (0, 0))) ∧ Aside0 (Below w.heap.size w w'))
    case atStart => exact ⟨(0), (ry_), H', ⟨Nat.le_refl _⟩, ⟨pk BK407.out⟩, ⟨by repeat (first | exact HB.out | apply ba_ | apply bN_ | apply b1_ | refine below_set ?_ GE407.out)⟩⟩
    case round =>
     clear H'
     try clear p2
     try clear c5
     try clear c6
     try clear c8
     try clear c9
     try clear hcz10_0
     try clear hcz10_1
     try clear hcz10_2
     try clear hcz7_0
     try clear hcz7_1
     try clear hcz7_2
     try clear hcz8_0
     try clear hcz8_1
     try clear hcz8_2
     try clear hfz10_0
     try clear hfz10_1
     try clear hfz10_2
     try clear hfz7_0
     try clear hfz7_1
     try clear hfz7_2
     try clear hfz8_0
     try clear hfz8_1
     try clear hfz8_2
     try clear p2
     obtain ⟨x18_2, rfl, HA, HK2, BK407, HB⟩ := hrel
     cases gk with
     | zero => exact absurd HA.out (by simp [impl_IsKeep.l0])
     | succ k2 =>
      have H := HA.out
      clear HA
      simp only [impl_IsKeep.l0] at H
      by_cases c11 : x18_2 < (l0_1.length : Int)
      ·
       rw [if_pos c11] at H
       have c11b0 : decide (x18_2 < (l0_1.length : Int)) = true := decide_eq_true c11
       clear c11
       by_cases c12 : 0 ≤ x18_2
       ·
        rw [if_pos c12] at H
        have c12b0 : decide (0 ≤ x18_2) = true := decide_eq_true c12
        clear c12
        by_cases c13 : x18_2 < (l0_1.length : Int)
        ·
         rw [if_pos c13] at H
         have c13b0 : decide (x18_2 < (l0_1.length : Int)) = true := decide_eq_true c13
         clear c13
         have HC14 := ak_ H
         clear H
         have p410 : 0 ≤ (x18_2 : Int) := odt_ (by assumption)
         have q410 : x18_2 < (l0_1.length : Int) := odt_ (by assumption)
         obtain ⟨ad410, A410_0, c410_0, e410, hx410_0, hl410_0, hi410_0⟩ := at_L1 HR0_1.out x18_2 p410 q410
         cases e410
         try replace hx410_0 := (HB.out.cell (World.block_lt_of_cell? w _ hx410_0)).trans hx410_0
         have HR410_0 := ak_ hi410_0
         have HC410_0 := ak_ hl410_0
         clear hi410_0 hl410_0
         replace p410 := eq_true p410
         replace q410 := eq_true q410
         go_upto_region 6 with (fail)
         go_cut [52] (fun v52 wc => ∃ (kq : Nat) (x52_13 : Bool), v52 = .bool x52_13 ∧ Aside0 (impl_IsKeep.j2 kq l0_1 (l0_1.length : Int) x18_2 x52_13 a0_0 l0_1 a0_2 = some r) ∧ Aside0 (kq ≤ k2) ∧ Aside0 (wc.heap[gb407]? = some (.cells #[.int .i64 a0_0, (.slice (some ad410) l0_1.length c0_1), .int .i64 a0_2] 52 (0, 0))) ∧ Aside0 (Below w.heap.size w wc))
         case first =>
          have H := HC14.out
          clear HC14
          replace H := Option.bind_eq_some_iff.mp H
          obtain ⟨t411, A150, H⟩ := H
          replace H : (if t411 = true then (if 0 < ((rd_L1 l0_1 x18_2).length : Int) then (if 1 < ((rd_L1 l0_1 x18_2).length : Int) then (if (rd (rd_L1 l0_1 x18_2) 0) ≥ (rd (rd_L1 l0_1 x18_2) 1) then (impl_IsKeep.j2 k2 l0_1 (l0_1.length : Int) x18_2 true a0_0 l0_1 a0_2) else (if x18_2 > 0 then (if 0 ≤ (wrap64 (x18_2 - 1)) then (if (wrap64 (x18_2 - 1)) < (l0_1.length : Int) then ((slices_Compare_int_int.f k2 (rd_L1 l0_1 (wrap64 (x18_2 - 1))) (rd_L1 l0_1 x18_2)).bind fun t415 => (impl_IsKeep.j2 k2 l0_1 (l0_1.length : Int) x18_2 (decide (t415 ≥ 0)) a0_0 l0_1 a0_2)) else (none)) else (none)) else (impl_IsKeep.j2 k2 l0_1 (l0_1.length : Int) x18_2 false a0_0 l0_1 a0_2))) else (none)) else (none)) else (impl_IsKeep.j2 k2 l0_1 (l0_1.length : Int) x18_2 true a0_0 l0_1 a0_2)) = some r := H
          have A15 := ak_ A150
          clear A150
          by_cases c16 : t411 = true
          ·
           subst c16
           have H1 : (if 0 < ((rd_L1 l0_1 x18_2).length : Int) then (if 1 < ((rd_L1 l0_1 x18_2).length : Int) then (if (rd (rd_L1 l0_1 x18_2) 0) ≥ (rd (rd_L1 l0_1 x18_2) 1) then (impl_IsKeep.j2 k2 l0_1 (l0_1.length : Int) x18_2 true a0_0 l0_1 a0_2) else (if x18_2 > 0 then (if 0 ≤ (wrap64 (x18_2 - 1)) then (if (wrap64 (x18_2 - 1)) < (l0_1.length : Int) then ((slices_Compare_int_int.f k2 (rd_L1 l0_1 (wrap64 (x18_2 - 1))) (rd_L1 l0_1 x18_2)).bind fun t415 => (impl_IsKeep.j2 k2 l0_1 (l0_1.length : Int) x18_2 (decide (t415 ≥ 0)) a0_0 l0_1 a0_2)) else (none)) else (none)) else (impl_IsKeep.j2 k2 l0_1 (l0_1.length : Int) x18_2 false a0_0 l0_1 a0_2))) else (none)) else (none)) = some r := by rw [if_pos rfl] at H; exact H
           clear H
           have H := H1
           clear H1
           by_cases c17 : 0 < ((rd_L1 l0_1 x18_2).length : Int)
           ·
            rw [if_pos c17] at H
            have c17b0 : decide (0 < ((rd_L1 l0_1 x18_2).length : Int)) = true := decide_eq_true c17
            have c17b1 : decide (0 < (rd_L1 l0_1 x18_2).length) = true := decide_eq_true (by omega)
            clear c17
            (first | rw [c17b0] | (simp only [i64_w, i32_w]; rw [c17b0]) | rw [c17b1] | skip)
            by_cases c18 : 1 < ((rd_L1 l0_1 x18_2).length : Int)
            ·
             rw [if_pos c18] at H
             have c18b0 : decide (1 < ((rd_L1 l0_1 x18_2).length : Int)) = true := decide_eq_true c18
             have c18b1 : decide (1 < (rd_L1 l0_1 x18_2).length) = true := decide_eq_true (by omega)
             clear c18
             by_cases c19 : (rd (rd_L1 l0_1 x18_2) 0) ≥ (rd (rd_L1 l0_1 x18_2) 1)
             ·
              rw [if_pos c19] at H
              have c19b0 : decide ((rd (rd_L1 l0_1 x18_2) 1) ≤ (rd (rd_L1 l0_1 x18_2) 0)) = true := decide_eq_true c19
              clear c19
              have H' := ak_ H
              clear H
              try go_wp2
              have n0_ := ak_ (k1_ BK407.out)
              have n1_ := ak_ (b1_ HB.out)
              clear BK407 HB
              have BK407 := n0_; have HB := n1_
              clear n0_ n1_
              have p412 : 0 ≤ (0 : Int) := (by omega)
              have q412 : 0 < ((rd_L1 l0_1 x18_2).length : Int) := odt_ (by assumption)
              obtain ⟨ad412, e412, hx412_0⟩ := Kd.at_int HR410_0.out 0 p412 q412
              have hw412_0 := hx412_0
              (try rw [show ((0 : Int)).toNat = 0 from rfl] at hw412_0)
              (try rw [show 0 * 1 = 0 from rfl] at hw412_0)
              (try rw [Addr.add_zero'] at hw412_0)
              cases e412
              have qi412 : (0 < (rd_L1 l0_1 x18_2).length) = True := eq_true (by omega)
              (try rw [show ((0 : Int)).toNat = 0 from rfl] at hx412_0)
              (try rw [Addr.add_zero'] at hx412_0)
              try replace hx412_0 := (HB.out.cell (World.block_lt_of_cell? w _ hx412_0)).trans hx412_0
              replace p412 := eq_true p412
              replace q412 := eq_true q412
              have p413 : 0 ≤ (1 : Int) := (by omega)
              have q413 : 1 < ((rd_L1 l0_1 x18_2).length : Int) := odt_ (by assumption)
              obtain ⟨ad413, e413, hx413_0⟩ := Kd.at_int HR410_0.out 1 p413 q413
              have hw413_0 := hx413_0
              (try rw [show ((1 : Int)).toNat = 1 from rfl] at hw413_0)
              (try rw [show 1 * 1 = 1 from rfl] at hw413_0)
              (try simp only [Nat.reduceMul, Nat.reduceEqDiff, Go.Addr.add, ↓reduceIte] at hw413_0)
              obtain rfl : ad412 = ad413 := (by injection e413)
              (try simp only [show (1 : Int).toNat = 1 from rfl, Nat.reduceMul, Nat.reduceEqDiff, Go.Addr.add, ↓reduceIte] at hx413_0)
              have qi413 : (1 < (rd_L1 l0_1 x18_2).length) = True := eq_true (by omega)
              (try rw [show ((1 : Int)).toNat = 1 from rfl] at hx413_0)
              try replace hx413_0 := (HB.out.cell (World.block_lt_of_cell? w _ hx413_0)).trans hx413_0
              replace p413 := eq_true p413
              replace q413 := eq_true q413
              refine start_ (n := 30) (S := fun w' => w'.cell? ⟨gb407, 0, none⟩ = some (.int .i64 a0_0) ∧ w'.cell? ⟨gb407, 1, none⟩ = some (.slice (some ad410) l0_1.length c0_1) ∧ w'.cell? ⟨gb407, 2, none⟩ = some (.int .i64 a0_2) ∧ w'.cell? ad412 = some (.int .i64 (rd (rd_L1 l0_1 x18_2) 0)) ∧ w'.cell? ⟨ad412.block, ad412.off + 1, none⟩ = some (.int .i64 (rd (rd_L1 l0_1 x18_2) 1))) (ds := []) (mb_ 30 0) (by kernel_rfl) rfl rfl ⟨(blk_cell BK407.out 0).trans rfl, (blk_cell BK407.out 1).trans rfl, (blk_cell BK407.out 2).trans rfl, ((HB.out.cell (World.block_lt_of_cell? w _ hw412_0)).trans hw412_0), ((HB.out.cell (World.block_lt_of_cell? w _ hw413_0)).trans hw413_0)⟩ (fun hHeld => ?_); refine with_tabW impl_IsKeep.tab6 impl_IsKeep.bits6 (fun HT_ HW_ => ?_)
              generalize wr.drew = w20 at BK407 HB hx412_0 hx413_0 hHeld ⊢
              refine pu_ 0 23 30 1 ?_
              refine pu_ 1 24 30 3 ?_
              refine tk_ 2 25 30 7 ?_ (hy := by rintro w' ⟨s0, s1, s2, s3, s4⟩; go_simp; with_reducible rfl)
              refine pu_ 3 26 30 15 ?_
              refine on_ 4 27 30 31 (fun K hK => ?_)
              refine goes_ Try.func97 (by kernel_rfl) rfl #[.slice (some ad412) (rd_L1 l0_1 x18_2).length c410_0, .int .i64 0, .int .i64 (wrap64 (a0_0 - 1)), .int .i64 2, .int .i64 2] (by rfl) rfl rfl (by first | rfl | (simp only [map_toArray, map_cons, map_nil]; try rfl)) ?_
              with_reducible refine (impl_areIn.calls _ _ (rd_L1 l0_1 x18_2) 0 (wrap64 (a0_0 - 1)) 2 2 true _ ?side1 ?side2 A15.out).mono ?_
              (case side1 => repeat (first | exact (Kd.C_below HR410_0.out HB.out) | (with_reducible refine Kd.C_alloc ?_ _) | (with_reducible refine Kd.C_drewN ?_ _) | (with_reducible refine Kd.C_drew ?_)))
              (case side2 => exact HC410_0.out)
              rintro e w21 ⟨rfl, hb⟩
              refine ⟨_, rfl, ?_⟩
              have n0_ := ak_ (blk_below (pk BK407.out) hb)
              have n1_ := ak_ (bs_ bl_ hb)
              clear BK407 HB
              have BK407 := n0_; have HB := n1_
              clear n0_ n1_
              (try clear hb)
              (try clear hb2)
              (try clear hk)
              (try clear hi)
              refine hK.out _ _ ⟨(blk_cell BK407.out 0).trans rfl, (blk_cell BK407.out 1).trans rfl, (blk_cell BK407.out 2).trans rfl, ((HB.out.cell (World.block_lt_of_cell? w _ hw412_0)).trans hw412_0), ((HB.out.cell (World.block_lt_of_cell? w _ hw413_0)).trans hw413_0)⟩ (fun hHeld => ?_)
              clear hK K
              refine nm_ ?_
              refine pu_ 5 28 30 63 ?_
              refine pu_ 6 29 30 127 ?_
              refine pu_ 7 30 30 255 ?_
              refine pu_ 8 31 30 511 ?_
              refine pu_ 10 33 30 1535 ?_
              refine pu_ 11 34 30 3583 ?_
              refine tk_ 9 32 30 4095 ?_ (hy := by rintro w' ⟨s0, s1, s2, s3, s4⟩; go_simp; with_reducible rfl)
              refine tk_ 12 35 30 8191 ?_ (hy := by rintro w' ⟨s0, s1, s2, s3, s4⟩; go_simp; with_reducible rfl)
              refine pu_ 13 36 30 16383 ?_
              refine pu_ 14 37 30 32767 ?_
              refine pu_ 15 38 30 65535 ?_
              refine pure_ (i := 16) (N := some 39) (v := undef) (a' := ?_) (mb_ 30 131071) rfl rfl (any_of HT_.out (by kernel_rfl)) (fun _ _ _ h => h) (Or.inr ⟨by rfl, rfl⟩) ?_ ?_
              rotate_left
              ·
               simp only [Act.put, setIfInBounds_toArray, set_cons_zero, set_cons_succ, i64_w, i32_w]
               rfl
              refine pure_ (i := 17) (N := some 40) (v := undef) (a' := ?_) (mb_ 30 262143) rfl rfl (any_of HT_.out (by kernel_rfl)) (fun _ _ _ h => h) (Or.inr ⟨by rfl, rfl⟩) ?_ ?_
              rotate_left
              ·
               simp only [Act.put, setIfInBounds_toArray, set_cons_zero, set_cons_succ, i64_w, i32_w]
               rfl
              refine pure_ (i := 18) (N := some 41) (v := undef) (a' := ?_) (mb_ 30 524287) rfl rfl (any_of HT_.out (by kernel_rfl)) (fun _ _ _ h => h) (Or.inr ⟨by rfl, rfl⟩) ?_ ?_
              rotate_left
              ·
               simp only [Act.put, setIfInBounds_toArray, set_cons_zero, set_cons_succ, i64_w, i32_w]
               rfl
              refine pure_ (i := 19) (N := some 42) (v := undef) (a' := ?_) (mb_ 30 1048575) rfl rfl (any_of HT_.out (by kernel_rfl)) (fun _ _ _ h => h) (Or.inr ⟨by rfl, rfl⟩) ?_ ?_
              rotate_left
              ·
               simp only [Act.put, setIfInBounds_toArray, set_cons_zero, set_cons_succ, i64_w, i32_w]
               rfl
              refine pure_ (i := 20) (N := some 43) (v := undef) (a' := ?_) (mb_ 30 2097151) rfl rfl (any_of HT_.out (by kernel_rfl)) (fun _ _ _ h => h) (Or.inr ⟨by rfl, rfl⟩) ?_ ?_
              rotate_left
              ·
               simp only [Act.put, setIfInBounds_toArray, set_cons_zero, set_cons_succ, i64_w, i32_w]
               rfl
              refine pure_ (i := 21) (N := some 44) (v := undef) (a' := ?_) (mb_ 30 4194303) rfl rfl (any_of HT_.out (by kernel_rfl)) (fun _ _ _ h => h) (Or.inr ⟨by rfl, rfl⟩) ?_ ?_
              rotate_left
              ·
               simp only [Act.put, setIfInBounds_toArray, set_cons_zero, set_cons_succ, i64_w, i32_w]
               rfl
              refine pure_ (i := 22) (N := some 45) (v := undef) (a' := ?_) (mb_ 30 8388607) rfl rfl (any_of HT_.out (by kernel_rfl)) (fun _ _ _ h => h) (Or.inr ⟨by rfl, rfl⟩) ?_ ?_
              rotate_left
              ·
               simp only [Act.put, setIfInBounds_toArray, set_cons_zero, set_cons_succ, i64_w, i32_w]
               rfl
              refine pure_ (i := 23) (N := some 46) (v := undef) (a' := ?_) (mb_ 30 16777215) rfl rfl (any_of HT_.out (by kernel_rfl)) (fun _ _ _ h => h) (Or.inr ⟨by rfl, rfl⟩) ?_ ?_
              rotate_left
              ·
               simp only [Act.put, setIfInBounds_toArray, set_cons_zero, set_cons_succ, i64_w, i32_w]
               rfl
              refine pure_ (i := 24) (N := some 47) (v := undef) (a' := ?_) (mb_ 30 33554431) rfl rfl (any_of HT_.out (by kernel_rfl)) (fun _ _ _ h => h) (Or.inr ⟨by rfl, rfl⟩) ?_ ?_
              rotate_left
              ·
               simp only [Act.put, setIfInBounds_toArray, set_cons_zero, set_cons_succ, i64_w, i32_w]
               rfl
              refine pure_ (i := 25) (N := some 48) (v := undef) (a' := ?_) (mb_ 30 67108863) rfl rfl (any_of HT_.out (by kernel_rfl)) (fun _ _ _ h => h) (Or.inr ⟨by rfl, rfl⟩) ?_ ?_
              rotate_left
              ·
               simp only [Act.put, setIfInBounds_toArray, set_cons_zero, set_cons_succ, i64_w, i32_w]
               rfl
              refine pure_ (i := 26) (N := some 49) (v := undef) (a' := ?_) (mb_ 30 134217727) rfl rfl (any_of HT_.out (by kernel_rfl)) (fun _ _ _ h => h) (Or.inr ⟨by rfl, rfl⟩) ?_ ?_
              rotate_left
              ·
               simp only [Act.put, setIfInBounds_toArray, set_cons_zero, set_cons_succ, i64_w, i32_w]
               rfl
              refine pure_ (i := 27) (N := some 50) (v := undef) (a' := ?_) (mb_ 30 268435455) rfl rfl (any_of HT_.out (by kernel_rfl)) (fun _ _ _ h => h) (Or.inr ⟨by rfl, rfl⟩) ?_ ?_
              rotate_left
              ·
               simp only [Act.put, setIfInBounds_toArray, set_cons_zero, set_cons_succ, i64_w, i32_w]
               rfl
              refine pure_ (i := 28) (N := some 51) (v := undef) (a' := ?_) (mb_ 30 536870911) rfl rfl (any_of HT_.out (by kernel_rfl)) (fun _ _ _ h => h) (Or.inr ⟨by rfl, rfl⟩) ?_ ?_
              rotate_left
              ·
               simp only [Act.put, setIfInBounds_toArray, set_cons_zero, set_cons_succ, i64_w, i32_w]
               rfl
              refine pu_ 29 52 30 1073741823 ?_
              refine done_ (done_of HT_.out (by kernel_rfl)) ?_
              try go_wp2
              go_meet
              case rel => exact ⟨_, (true), (ry_), H', ⟨by have := HJ1.out; have := HK2.out; first | omega | exact Nat.le_refl _⟩, ⟨pk BK407.out⟩, ⟨by repeat (first | exact HB.out | apply ba_ | apply bN_ | apply b1_ | refine below_set ?_ GE407.out)⟩⟩
             ·
              rw [if_neg c19] at H
              have c19b0 : decide ((rd (rd_L1 l0_1 x18_2) 1) ≤ (rd (rd_L1 l0_1 x18_2) 0)) = false := decide_eq_false c19
              clear c19
              by_cases c22 : x18_2 > 0
              ·
               rw [if_pos c22] at H
               have c22b0 : decide (0 < x18_2) = true := decide_eq_true c22
               clear c22
               obtain ⟨ji23, hji23⟩ : ∃ j_ : Int, (wrap64 (x18_2 - 1)) = j_ := ⟨_, rfl⟩
               replace H : (if 0 ≤ (ji23) then (if (ji23) < (l0_1.length : Int) then ((slices_Compare_int_int.f k2 (rd_L1 l0_1 (ji23)) (rd_L1 l0_1 x18_2)).bind fun t415 => (impl_IsKeep.j2 k2 l0_1 (l0_1.length : Int) x18_2 (decide (t415 ≥ 0)) a0_0 l0_1 a0_2)) else (none)) else (none)) = some r := by first | (rw [hji23] at H; exact H) | (simp only [hji23] at H ⊢; exact H)
               (try rw [hji23] at A15)
               have hji23w : (IntKind.i64.wrap (x18_2 - 1)) = ji23 := (i64_w _).trans hji23
               by_cases c24 : 0 ≤ (ji23)
               ·
                rw [if_pos c24] at H
                have c24b0 : decide (0 ≤ (ji23)) = true := decide_eq_true c24
                clear c24
                by_cases c25 : (ji23) < (l0_1.length : Int)
                ·
                 rw [if_pos c25] at H
                 have c25b0 : decide ((ji23) < (l0_1.length : Int)) = true := decide_eq_true c25
                 clear c25
                 replace H := Option.bind_eq_some_iff.mp H
                 obtain ⟨t415, A260, H⟩ := H
                 replace H : (impl_IsKeep.j2 k2 l0_1 (l0_1.length : Int) x18_2 (decide (t415 ≥ 0)) a0_0 l0_1 a0_2) = some r := H
                 have A26 := ak_ A260
                 clear A260
                 have H' := ak_ H
                 clear H
                 try go_wp2
                 have n0_ := ak_ (k1_ BK407.out)
                 have n1_ := ak_ (b1_ HB.out)
                 clear BK407 HB
                 have BK407 := n0_; have HB := n1_
                 clear n0_ n1_
                 have p412 : 0 ≤ (0 : Int) := (by omega)
                 have q412 : 0 < ((rd_L1 l0_1 x18_2).length : Int) := odt_ (by assumption)
                 obtain ⟨ad412, e412, hx412_0⟩ := Kd.at_int HR410_0.out 0 p412 q412
                 have hw412_0 := hx412_0
                 (try rw [show ((0 : Int)).toNat = 0 from rfl] at hw412_0)
                 (try rw [show 0 * 1 = 0 from rfl] at hw412_0)
                 (try rw [Addr.add_zero'] at hw412_0)
                 cases e412
                 have qi412 : (0 < (rd_L1 l0_1 x18_2).length) = True := eq_true (by omega)
                 (try rw [show ((0 : Int)).toNat = 0 from rfl] at hx412_0)
                 (try rw [Addr.add_zero'] at hx412_0)
                 try replace hx412_0 := (HB.out.cell (World.block_lt_of_cell? w _ hx412_0)).trans hx412_0
                 replace p412 := eq_true p412
                 replace q412 := eq_true q412
                 have p413 : 0 ≤ (1 : Int) := (by omega)
                 have q413 : 1 < ((rd_L1 l0_1 x18_2).length : Int) := odt_ (by assumption)
                 obtain ⟨ad413, e413, hx413_0⟩ := Kd.at_int HR410_0.out 1 p413 q413
                 have hw413_0 := hx413_0
                 (try rw [show ((1 : Int)).toNat = 1 from rfl] at hw413_0)
                 (try rw [show 1 * 1 = 1 from rfl] at hw413_0)
                 (try simp only [Nat.reduceMul, Nat.reduceEqDiff, Go.Addr.add, ↓reduceIte] at hw413_0)
                 obtain rfl : ad412 = ad413 := (by injection e413)
                 (try simp only [show (1 : Int).toNat = 1 from rfl, Nat.reduceMul, Nat.reduceEqDiff, Go.Addr.add, ↓reduceIte] at hx413_0)
                 have qi413 : (1 < (rd_L1 l0_1 x18_2).length) = True := eq_true (by omega)
                 (try rw [show ((1 : Int)).toNat = 1 from rfl] at hx413_0)
                 try replace hx413_0 := (HB.out.cell (World.block_lt_of_cell? w _ hx413_0)).trans hx413_0
                 replace p413 := eq_true p413
                 replace q413 := eq_true q413
                 have p414 : 0 ≤ ((ji23) : Int) := odt_ (by assumption)
                 have q414 : (ji23) < (l0_1.length : Int) := odt_ (by assumption)
                 obtain ⟨ad414, A414_0, c414_0, e414, hx414_0, hl414_0, hi414_0⟩ := at_L1 HR0_1.out (ji23) p414 q414
                 have hw414_0 := hx414_0
                 obtain rfl : ad410 = ad414 := (by injection e414)
                 try replace hx414_0 := (HB.out.cell (World.block_lt_of_cell? w _ hx414_0)).trans hx414_0
                 have HR414_0 := ak_ hi414_0
                 have HC414_0 := ak_ hl414_0
                 clear hi414_0 hl414_0
                 replace p414 := eq_true p414
                 replace q414 := eq_true q414
                 refine start_ (n := 30) (S := fun w' => w'.cell? ⟨gb407, 0, none⟩ = some (.int .i64 a0_0) ∧ w'.cell? ⟨gb407, 1, none⟩ = some (.slice (some ad410) l0_1.length c0_1) ∧ w'.cell? ⟨gb407, 2, none⟩ = some (.int .i64 a0_2) ∧ w'.cell? ad412 = some (.int .i64 (rd (rd_L1 l0_1 x18_2) 0)) ∧ w'.cell? ⟨ad412.block, ad412.off + 1, none⟩ = some (.int .i64 (rd (rd_L1 l0_1 x18_2) 1)) ∧ w'.cell? (ad410.add ((ji23)).toNat) = some (.slice A414_0 (rd_L1 l0_1 (ji23)).length c414_0)) (ds := []) (mb_ 30 0) (by kernel_rfl) rfl rfl ⟨(blk_cell BK407.out 0).trans rfl, (blk_cell BK407.out 1).trans rfl, (blk_cell BK407.out 2).trans rfl, ((HB.out.cell (World.block_lt_of_cell? w _ hw412_0)).trans hw412_0), ((HB.out.cell (World.block_lt_of_cell? w _ hw413_0)).trans hw413_0), ((HB.out.cell (World.block_lt_of_cell? w _ hw414_0)).trans hw414_0)⟩ (fun hHeld => ?_); refine with_tabW impl_IsKeep.tab6 impl_IsKeep.bits6 (fun HT_ HW_ => ?_)
                 generalize wr.drew = w27 at BK407 HB HR414_0 hx412_0 hx413_0 hx414_0 hHeld ⊢
                 refine pu_ 0 23 30 1 ?_
                 refine pu_ 1 24 30 3 ?_
                 refine tk_ 2 25 30 7 ?_ (hy := by rintro w' ⟨s0, s1, s2, s3, s4, s5⟩; go_simp; with_reducible rfl)
                 refine pu_ 3 26 30 15 ?_
                 refine on_ 4 27 30 31 (fun K hK => ?_)
                 refine goes_ Try.func97 (by kernel_rfl) rfl #[.slice (some ad412) (rd_L1 l0_1 x18_2).length c410_0, .int .i64 0, .int .i64 (wrap64 (a0_0 - 1)), .int .i64 2, .int .i64 2] (by rfl) rfl rfl (by first | rfl | (simp only [map_toArray, map_cons, map_nil]; try rfl)) ?_
                 with_reducible refine (impl_areIn.calls _ _ (rd_L1 l0_1 x18_2) 0 (wrap64 (a0_0 - 1)) 2 2 true _ ?side1 ?side2 A15.out).mono ?_
                 (case side1 => repeat (first | exact (Kd.C_below HR410_0.out HB.out) | (with_reducible refine Kd.C_alloc ?_ _) | (with_reducible refine Kd.C_drewN ?_ _) | (with_reducible refine Kd.C_drew ?_)))
                 (case side2 => exact HC410_0.out)
                 rintro e w28 ⟨rfl, hb⟩
                 refine ⟨_, rfl, ?_⟩
                 have n0_ := ak_ (blk_below (pk BK407.out) hb)
                 have n1_ := ak_ (bs_ bl_ hb)
                 clear BK407 HB
                 have BK407 := n0_; have HB := n1_
                 clear n0_ n1_
                 (try clear hb)
                 (try clear hb2)
                 (try clear hk)
                 (try clear hi)
                 refine hK.out _ _ ⟨(blk_cell BK407.out 0).trans rfl, (blk_cell BK407.out 1).trans rfl, (blk_cell BK407.out 2).trans rfl, ((HB.out.cell (World.block_lt_of_cell? w _ hw412_0)).trans hw412_0), ((HB.out.cell (World.block_lt_of_cell? w _ hw413_0)).trans hw413_0), ((HB.out.cell (World.block_lt_of_cell? w _ hw414_0)).trans hw414_0)⟩ (fun hHeld => ?_)
                 clear hK K
                 refine nm_ ?_
                 refine pu_ 5 28 30 63 ?_
                 refine pu_ 6 29 30 127 ?_
                 refine pu_ 7 30 30 255 ?_
                 refine pu_ 8 31 30 511 ?_
                 refine pu_ 10 33 30 1535 ?_
                 refine pu_ 11 34 30 3583 ?_
                 refine tk_ 9 32 30 4095 ?_ (hy := by rintro w' ⟨s0, s1, s2, s3, s4, s5⟩; go_simp; with_reducible rfl)
                 refine tk_ 12 35 30 8191 ?_ (hy := by rintro w' ⟨s0, s1, s2, s3, s4, s5⟩; go_simp; with_reducible rfl)
                 refine pu_ 13 36 30 16383 ?_
                 refine pu_ 14 37 30 32767 ?_
                 refine pu_ 15 38 30 65535 ?_
                 refine pu_ 16 39 30 131071 ?_
                 refine pu_ 17 40 30 262143 ?_
                 refine pu_ 18 41 30 524287 ?_
                 refine pu_ 19 42 30 1048575 ?_
                 refine pu_ 21 44 30 3145727 ?_
                 refine pu_ 22 45 30 7340031 ?_
                 refine pu_ 25 48 30 40894463 ?_
                 refine tk_ 20 43 30 41943039 ?_ (hy := by rintro w' ⟨s0, s1, s2, s3, s4, s5⟩; go_simp; with_reducible rfl)
                 refine pu_ 23 46 30 50331647 ?_
                 refine tk_ 24 47 30 67108863 ?_ (hy := by rintro w' ⟨s0, s1, s2, s3, s4, s5⟩; go_simp; with_reducible rfl)
                 refine on_ 26 49 30 134217727 (fun K hK => ?_)
                 refine goes_ Try.func107 (by kernel_rfl) rfl #[.slice A414_0 (rd_L1 l0_1 (ji23)).length c414_0, .slice (some ad412) (rd_L1 l0_1 x18_2).length c410_0] (by rfl) rfl rfl (by (try simp only [List.map_toArray, List.map_cons, List.map_nil]); first | done | (simp only [hji23]; rfl) | rfl | (simp only [List.length_drop, List.length_take]; rfl)) ?_
                 with_reducible refine (slices_Compare_int_int.calls k2 _ _ (rd_L1 l0_1 (ji23)) _ _ (rd_L1 l0_1 x18_2) t415 _ ?side1 ?side2 ?side3 ?side4 A26.out).mono ?_
                 (case side1 => repeat (first | exact (Kd.C_below HR414_0.out HB.out) | (with_reducible refine Kd.C_alloc ?_ _) | (with_reducible refine Kd.C_drewN ?_ _) | (with_reducible refine Kd.C_drew ?_)))
                 (case side2 => exact HC414_0.out)
                 (case side3 => repeat (first | exact (Kd.C_below HR410_0.out HB.out) | (with_reducible refine Kd.C_alloc ?_ _) | (with_reducible refine Kd.C_drewN ?_ _) | (with_reducible refine Kd.C_drew ?_)))
                 (case side4 => exact HC410_0.out)
                 rintro e w' ⟨rfl, ⟨nd, rfl⟩⟩
                 refine ⟨_, rfl, ?_⟩
                 refine hK.out _ _ ⟨(blk_cell BK407.out 0).trans rfl, (blk_cell BK407.out 1).trans rfl, (blk_cell BK407.out 2).trans rfl, ((HB.out.cell (World.block_lt_of_cell? w _ hw412_0)).trans hw412_0), ((HB.out.cell (World.block_lt_of_cell? w _ hw413_0)).trans hw413_0), ((HB.out.cell (World.block_lt_of_cell? w _ hw414_0)).trans hw414_0)⟩ (fun hHeld => ?_)
                 clear hK K
                 refine nm_ ?_
                 refine pu_ 27 50 30 268435455 ?_
                 refine pu_ 28 51 30 536870911 ?_
                 refine pu_ 29 52 30 1073741823 ?_
                 refine done_ (done_of HT_.out (by kernel_rfl)) ?_
                 try go_wp2
                 go_meet
                 case rel => exact ⟨_, (decide (t415 ≥ 0)), (ry_), H', ⟨by have := HJ1.out; have := HK2.out; first | omega | exact Nat.le_refl _⟩, ⟨pk BK407.out⟩, ⟨by repeat (first | exact HB.out | apply ba_ | apply bN_ | apply b1_ | refine below_set ?_ GE407.out)⟩⟩
                ·
                 rw [if_neg c25] at H
                 exact absurd H (by simp)
               ·
                rw [if_neg c24] at H
                exact absurd H (by simp)
              ·
               rw [if_neg c22] at H
               have c22b0 : decide (0 < x18_2) = false := decide_eq_false c22
               clear c22
               have H' := ak_ H
               clear H
               try go_wp2
               have n0_ := ak_ (k1_ BK407.out)
               have n1_ := ak_ (b1_ HB.out)
               clear BK407 HB
               have BK407 := n0_; have HB := n1_
               clear n0_ n1_
               have p412 : 0 ≤ (0 : Int) := (by omega)
               have q412 : 0 < ((rd_L1 l0_1 x18_2).length : Int) := odt_ (by assumption)
               obtain ⟨ad412, e412, hx412_0⟩ := Kd.at_int HR410_0.out 0 p412 q412
               have hw412_0 := hx412_0
               (try rw [show ((0 : Int)).toNat = 0 from rfl] at hw412_0)
               (try rw [show 0 * 1 = 0 from rfl] at hw412_0)
               (try rw [Addr.add_zero'] at hw412_0)
               cases e412
               have qi412 : (0 < (rd_L1 l0_1 x18_2).length) = True := eq_true (by omega)
               (try rw [show ((0 : Int)).toNat = 0 from rfl] at hx412_0)
               (try rw [Addr.add_zero'] at hx412_0)
               try replace hx412_0 := (HB.out.cell (World.block_lt_of_cell? w _ hx412_0)).trans hx412_0
               replace p412 := eq_true p412
               replace q412 := eq_true q412
               have p413 : 0 ≤ (1 : Int) := (by omega)
               have q413 : 1 < ((rd_L1 l0_1 x18_2).length : Int) := odt_ (by assumption)
               obtain ⟨ad413, e413, hx413_0⟩ := Kd.at_int HR410_0.out 1 p413 q413
               have hw413_0 := hx413_0
               (try rw [show ((1 : Int)).toNat = 1 from rfl] at hw413_0)
               (try rw [show 1 * 1 = 1 from rfl] at hw413_0)
               (try simp only [Nat.reduceMul, Nat.reduceEqDiff, Go.Addr.add, ↓reduceIte] at hw413_0)
               obtain rfl : ad412 = ad413 := (by injection e413)
               (try simp only [show (1 : Int).toNat = 1 from rfl, Nat.reduceMul, Nat.reduceEqDiff, Go.Addr.add, ↓reduceIte] at hx413_0)
               have qi413 : (1 < (rd_L1 l0_1 x18_2).length) = True := eq_true (by omega)
               (try rw [show ((1 : Int)).toNat = 1 from rfl] at hx413_0)
               try replace hx413_0 := (HB.out.cell (World.block_lt_of_cell? w _ hx413_0)).trans hx413_0
               replace p413 := eq_true p413
               replace q413 := eq_true q413
               refine start_ (n := 30) (S := fun w' => w'.cell? ⟨gb407, 0, none⟩ = some (.int .i64 a0_0) ∧ w'.cell? ⟨gb407, 1, none⟩ = some (.slice (some ad410) l0_1.length c0_1) ∧ w'.cell? ⟨gb407, 2, none⟩ = some (.int .i64 a0_2) ∧ w'.cell? ad412 = some (.int .i64 (rd (rd_L1 l0_1 x18_2) 0)) ∧ w'.cell? ⟨ad412.block, ad412.off + 1, none⟩ = some (.int .i64 (rd (rd_L1 l0_1 x18_2) 1))) (ds := []) (mb_ 30 0) (by kernel_rfl) rfl rfl ⟨(blk_cell BK407.out 0).trans rfl, (blk_cell BK407.out 1).trans rfl, (blk_cell BK407.out 2).trans rfl, ((HB.out.cell (World.block_lt_of_cell? w _ hw412_0)).trans hw412_0), ((HB.out.cell (World.block_lt_of_cell? w _ hw413_0)).trans hw413_0)⟩ (fun hHeld => ?_); refine with_tabW impl_IsKeep.tab6 impl_IsKeep.bits6 (fun HT_ HW_ => ?_)
               generalize wr.drew = w29 at BK407 HB hx412_0 hx413_0 hHeld ⊢
               refine pu_ 0 23 30 1 ?_
               refine pu_ 1 24 30 3 ?_
               refine tk_ 2 25 30 7 ?_ (hy := by rintro w' ⟨s0, s1, s2, s3, s4⟩; go_simp; with_reducible rfl)
               refine pu_ 3 26 30 15 ?_
               refine on_ 4 27 30 31 (fun K hK => ?_)
               refine goes_ Try.func97 (by kernel_rfl) rfl #[.slice (some ad412) (rd_L1 l0_1 x18_2).length c410_0, .int .i64 0, .int .i64 (wrap64 (a0_0 - 1)), .int .i64 2, .int .i64 2] (by rfl) rfl rfl (by first | rfl | (simp only [map_toArray, map_cons, map_nil]; try rfl)) ?_
               with_reducible refine (impl_areIn.calls _ _ (rd_L1 l0_1 x18_2) 0 (wrap64 (a0_0 - 1)) 2 2 true _ ?side1 ?side2 A15.out).mono ?_
               (case side1 => repeat (first | exact (Kd.C_below HR410_0.out HB.out) | (with_reducible refine Kd.C_alloc ?_ _) | (with_reducible refine Kd.C_drewN ?_ _) | (with_reducible refine Kd.C_drew ?_)))
               (case side2 => exact HC410_0.out)
               rintro e w30 ⟨rfl, hb⟩
               refine ⟨_, rfl, ?_⟩
               have n0_ := ak_ (blk_below (pk BK407.out) hb)
               have n1_ := ak_ (bs_ bl_ hb)
               clear BK407 HB
               have BK407 := n0_; have HB := n1_
               clear n0_ n1_
               (try clear hb)
               (try clear hb2)
               (try clear hk)
               (try clear hi)
               refine hK.out _ _ ⟨(blk_cell BK407.out 0).trans rfl, (blk_cell BK407.out 1).trans rfl, (blk_cell BK407.out 2).trans rfl, ((HB.out.cell (World.block_lt_of_cell? w _ hw412_0)).trans hw412_0), ((HB.out.cell (World.block_lt_of_cell? w _ hw413_0)).trans hw413_0)⟩ (fun hHeld => ?_)
               clear hK K
               refine nm_ ?_
               refine pu_ 5 28 30 63 ?_
               refine pu_ 6 29 30 127 ?_
               refine pu_ 7 30 30 255 ?_
               refine pu_ 8 31 30 511 ?_
               refine pu_ 10 33 30 1535 ?_
               refine pu_ 11 34 30 3583 ?_
               refine tk_ 9 32 30 4095 ?_ (hy := by rintro w' ⟨s0, s1, s2, s3, s4⟩; go_simp; with_reducible rfl)
               refine tk_ 12 35 30 8191 ?_ (hy := by rintro w' ⟨s0, s1, s2, s3, s4⟩; go_simp; with_reducible rfl)
               refine pu_ 13 36 30 16383 ?_
               refine pu_ 14 37 30 32767 ?_
               refine pu_ 15 38 30 65535 ?_
               refine pu_ 16 39 30 131071 ?_
               refine pu_ 17 40 30 262143 ?_
               refine pu_ 18 41 30 524287 ?_
               refine pure_ (i := 19) (N := some 42) (v := undef) (a' := ?_) (mb_ 30 1048575) rfl rfl (any_of HT_.out (by kernel_rfl)) (fun _ _ _ h => h) (Or.inr ⟨by rfl, rfl⟩) ?_ ?_
               rotate_left
               ·
                simp only [Act.put, setIfInBounds_toArray, set_cons_zero, set_cons_succ, i64_w, i32_w]
                rfl
               refine pure_ (i := 20) (N := some 43) (v := undef) (a' := ?_) (mb_ 30 2097151) rfl rfl (any_of HT_.out (by kernel_rfl)) (fun _ _ _ h => h) (Or.inr ⟨by rfl, rfl⟩) ?_ ?_
               rotate_left
               ·
                simp only [Act.put, setIfInBounds_toArray, set_cons_zero, set_cons_succ, i64_w, i32_w]
                rfl
               refine pure_ (i := 21) (N := some 44) (v := undef) (a' := ?_) (mb_ 30 4194303) rfl rfl (any_of HT_.out (by kernel_rfl)) (fun _ _ _ h => h) (Or.inr ⟨by rfl, rfl⟩) ?_ ?_
               rotate_left
               ·
                simp only [Act.put, setIfInBounds_toArray, set_cons_zero, set_cons_succ, i64_w, i32_w]
                rfl
               refine pure_ (i := 22) (N := some 45) (v := undef) (a' := ?_) (mb_ 30 8388607) rfl rfl (any_of HT_.out (by kernel_rfl)) (fun _ _ _ h => h) (Or.inr ⟨by rfl, rfl⟩) ?_ ?_
               rotate_left
               ·
                simp only [Act.put, setIfInBounds_toArray, set_cons_zero, set_cons_succ, i64_w, i32_w]
                rfl
               refine pure_ (i := 23) (N := some 46) (v := undef) (a' := ?_) (mb_ 30 16777215) rfl rfl (any_of HT_.out (by kernel_rfl)) (fun _ _ _ h => h) (Or.inr ⟨by rfl, rfl⟩) ?_ ?_
               rotate_left
               ·
                simp only [Act.put, setIfInBounds_toArray, set_cons_zero, set_cons_succ, i64_w, i32_w]
                rfl
               refine pure_ (i := 24) (N := some 47) (v := undef) (a' := ?_) (mb_ 30 33554431) rfl rfl (any_of HT_.out (by kernel_rfl)) (fun _ _ _ h => h) (Or.inr ⟨by rfl, rfl⟩) ?_ ?_
               rotate_left
               ·
                simp only [Act.put, setIfInBounds_toArray, set_cons_zero, set_cons_succ, i64_w, i32_w]
                rfl
               refine pure_ (i := 25) (N := some 48) (v := undef) (a' := ?_) (mb_ 30 67108863) rfl rfl (any_of HT_.out (by kernel_rfl)) (fun _ _ _ h => h) (Or.inr ⟨by rfl, rfl⟩) ?_ ?_
               rotate_left
               ·
                simp only [Act.put, setIfInBounds_toArray, set_cons_zero, set_cons_succ, i64_w, i32_w]
                rfl
               refine pure_ (i := 26) (N := some 49) (v := undef) (a' := ?_) (mb_ 30 134217727) rfl rfl (any_of HT_.out (by kernel_rfl)) (fun _ _ _ h => h) (Or.inr ⟨by rfl, rfl⟩) ?_ ?_
               rotate_left
               ·
                simp only [Act.put, setIfInBounds_toArray, set_cons_zero, set_cons_succ, i64_w, i32_w]
                rfl
               refine pure_ (i := 27) (N := some 50) (v := undef) (a' := ?_) (mb_ 30 268435455) rfl rfl (any_of HT_.out (by kernel_rfl)) (fun _ _ _ h => h) (Or.inr ⟨by rfl, rfl⟩) ?_ ?_
               rotate_left
               ·
                simp only [Act.put, setIfInBounds_toArray, set_cons_zero, set_cons_succ, i64_w, i32_w]
                rfl
               refine pu_ 28 51 30 536870911 ?_
               refine pu_ 29 52 30 1073741823 ?_
               refine done_ (done_of HT_.out (by kernel_rfl)) ?_
               try go_wp2
               go_meet
               case rel => exact ⟨_, (false), (ry_), H', ⟨by have := HJ1.out; have := HK2.out; first | omega | exact Nat.le_refl _⟩, ⟨pk BK407.out⟩, ⟨by repeat (first | exact HB.out | apply ba_ | apply bN_ | apply b1_ | refine below_set ?_ GE407.out)⟩⟩
            ·
             rw [if_neg c18] at H
             exact absurd H (by simp)
           ·
            rw [if_neg c17] at H
            exact absurd H (by simp)
          ·
           replace c16 := Bool.eq_false_iff.mpr c16
           subst c16
           have H1 : (impl_IsKeep.j2 k2 l0_1 (l0_1.length : Int) x18_2 true a0_0 l0_1 a0_2) = some r := by rw [if_neg (show ¬ (false = true) by decide)] at H; exact H
           clear H
           have H := H1
           clear H1
           have H' := ak_ H
           clear H
           try go_wp2
           have n0_ := ak_ (k1_ BK407.out)
           have n1_ := ak_ (b1_ HB.out)
           clear BK407 HB
           have BK407 := n0_; have HB := n1_
           clear n0_ n1_
           refine start_ (n := 30) (S := fun w' => w'.cell? ⟨gb407, 0, none⟩ = some (.int .i64 a0_0) ∧ w'.cell? ⟨gb407, 1, none⟩ = some (.slice (some ad410) l0_1.length c0_1) ∧ w'.cell? ⟨gb407, 2, none⟩ = some (.int .i64 a0_2)) (ds := []) (mb_ 30 0) (by kernel_rfl) rfl rfl ⟨(blk_cell BK407.out 0).trans rfl, (blk_cell BK407.out 1).trans rfl, (blk_cell BK407.out 2).trans rfl⟩ (fun hHeld => ?_); refine with_tabW impl_IsKeep.tab6 impl_IsKeep.bits6 (fun HT_ HW_ => ?_)
           generalize wr.drew = w31 at BK407 HB hHeld ⊢
           refine pu_ 0 23 30 1 ?_
           refine pu_ 1 24 30 3 ?_
           refine tk_ 2 25 30 7 ?_ (hy := by rintro w' ⟨s0, s1, s2⟩; go_simp; with_reducible rfl)
           refine pu_ 3 26 30 15 ?_
           refine on_ 4 27 30 31 (fun K hK => ?_)
           refine goes_ Try.func97 (by kernel_rfl) rfl #[.slice A410_0 (rd_L1 l0_1 x18_2).length c410_0, .int .i64 0, .int .i64 (wrap64 (a0_0 - 1)), .int .i64 2, .int .i64 2] (by rfl) rfl rfl (by first | rfl | (simp only [map_toArray, map_cons, map_nil]; try rfl)) ?_
           with_reducible refine (impl_areIn.calls _ _ (rd_L1 l0_1 x18_2) 0 (wrap64 (a0_0 - 1)) 2 2 false _ ?side1 ?side2 A15.out).mono ?_
           (case side1 => repeat (first | exact (Kd.C_below HR410_0.out HB.out) | (with_reducible refine Kd.C_alloc ?_ _) | (with_reducible refine Kd.C_drewN ?_ _) | (with_reducible refine Kd.C_drew ?_)))
           (case side2 => exact HC410_0.out)
           rintro e w32 ⟨rfl, hb⟩
           refine ⟨_, rfl, ?_⟩
           have n0_ := ak_ (blk_below (pk BK407.out) hb)
           have n1_ := ak_ (bs_ bl_ hb)
           clear BK407 HB
           have BK407 := n0_; have HB := n1_
           clear n0_ n1_
           (try clear hb)
           (try clear hb2)
           (try clear hk)
           (try clear hi)
           refine hK.out _ _ ⟨(blk_cell BK407.out 0).trans rfl, (blk_cell BK407.out 1).trans rfl, (blk_cell BK407.out 2).trans rfl⟩ (fun hHeld => ?_)
           clear hK K
           refine nm_ ?_
           refine pu_ 5 28 30 63 ?_
           refine pu_ 6 29 30 127 ?_
           refine pure_ (i := 7) (N := some 30) (v := undef) (a' := ?_) (mb_ 30 255) rfl rfl (any_of HT_.out (by kernel_rfl)) (fun _ _ _ h => h) (Or.inr ⟨by rfl, rfl⟩) ?_ ?_
           rotate_left
           ·
            simp only [Act.put, setIfInBounds_toArray, set_cons_zero, set_cons_succ, i64_w, i32_w]
            rfl
           refine pure_ (i := 8) (N := some 31) (v := undef) (a' := ?_) (mb_ 30 511) rfl rfl (any_of HT_.out (by kernel_rfl)) (fun _ _ _ h => h) (Or.inr ⟨by rfl, rfl⟩) ?_ ?_
           rotate_left
           ·
            simp only [Act.put, setIfInBounds_toArray, set_cons_zero, set_cons_succ, i64_w, i32_w]
            rfl
           refine pure_ (i := 9) (N := some 32) (v := undef) (a' := ?_) (mb_ 30 1023) rfl rfl (any_of HT_.out (by kernel_rfl)) (fun _ _ _ h => h) (Or.inr ⟨by rfl, rfl⟩) ?_ ?_
           rotate_left
           ·
            simp only [Act.put, setIfInBounds_toArray, set_cons_zero, set_cons_succ, i64_w, i32_w]
            rfl
           refine pure_ (i := 10) (N := some 33) (v := undef) (a' := ?_) (mb_ 30 2047) rfl rfl (any_of HT_.out (by kernel_rfl)) (fun _ _ _ h => h) (Or.inr ⟨by rfl, rfl⟩) ?_ ?_
           rotate_left
           ·
            simp only [Act.put, setIfInBounds_toArray, set_cons_zero, set_cons_succ, i64_w, i32_w]
            rfl
           refine pure_ (i := 11) (N := some 34) (v := undef) (a' := ?_) (mb_ 30 4095) rfl rfl (any_of HT_.out (by kernel_rfl)) (fun _ _ _ h => h) (Or.inr ⟨by rfl, rfl⟩) ?_ ?_
           rotate_left
           ·
            simp only [Act.put, setIfInBounds_toArray, set_cons_zero, set_cons_succ, i64_w, i32_w]
            rfl
           refine pure_ (i := 12) (N := some 35) (v := undef) (a' := ?_) (mb_ 30 8191) rfl rfl (any_of HT_.out (by kernel_rfl)) (fun _ _ _ h => h) (Or.inr ⟨by rfl, rfl⟩) ?_ ?_
           rotate_left
           ·
            simp only [Act.put, setIfInBounds_toArray, set_cons_zero, set_cons_succ, i64_w, i32_w]
            rfl
           refine pure_ (i := 13) (N := some 36) (v := undef) (a' := ?_) (mb_ 30 16383) rfl rfl (any_of HT_.out (by kernel_rfl)) (fun _ _ _ h => h) (Or.inr ⟨by rfl, rfl⟩) ?_ ?_
           rotate_left
           ·
            simp only [Act.put, setIfInBounds_toArray, set_cons_zero, set_cons_succ, i64_w, i32_w]
            rfl
           refine pu_ 14 37 30 32767 ?_
           refine pu_ 15 38 30 65535 ?_
           refine pure_ (i := 16) (N := some 39) (v := undef) (a' := ?_) (mb_ 30 131071) rfl rfl (any_of HT_.out (by kernel_rfl)) (fun _ _ _ h => h) (Or.inr ⟨by rfl, rfl⟩) ?_ ?_
           rotate_left
           ·
            simp only [Act.put, setIfInBounds_toArray, set_cons_zero, set_cons_succ, i64_w, i32_w]
            rfl
           refine pure_ (i := 17) (N := some 40) (v := undef) (a' := ?_) (mb_ 30 262143) rfl rfl (any_of HT_.out (by kernel_rfl)) (fun _ _ _ h => h) (Or.inr ⟨by rfl, rfl⟩) ?_ ?_
           rotate_left
           ·
            simp only [Act.put, setIfInBounds_toArray, set_cons_zero, set_cons_succ, i64_w, i32_w]
            rfl
           refine pure_ (i := 18) (N := some 41) (v := undef) (a' := ?_) (mb_ 30 524287) rfl rfl (any_of HT_.out (by kernel_rfl)) (fun _ _ _ h => h) (Or.inr ⟨by rfl, rfl⟩) ?_ ?_
           rotate_left
           ·
            simp only [Act.put, setIfInBounds_toArray, set_cons_zero, set_cons_succ, i64_w, i32_w]
            rfl
           refine pure_ (i := 19) (N := some 42) (v := undef) (a' := ?_) (mb_ 30 1048575) rfl rfl (any_of HT_.out (by kernel_rfl)) (fun _ _ _ h => h) (Or.inr ⟨by rfl, rfl⟩) ?_ ?_
           rotate_left
           ·
            simp only [Act.put, setIfInBounds_toArray, set_cons_zero, set_cons_succ, i64_w, i32_w]
            rfl
           refine pure_ (i := 20) (N := some 43) (v := undef) (a' := ?_) (mb_ 30 2097151) rfl rfl (any_of HT_.out (by kernel_rfl)) (fun _ _ _ h => h) (Or.inr ⟨by rfl, rfl⟩) ?_ ?_
           rotate_left
           ·
            simp only [Act.put, setIfInBounds_toArray, set_cons_zero, set_cons_succ, i64_w, i32_w]
            rfl
           refine pure_ (i := 21) (N := some 44) (v := undef) (a' := ?_) (mb_ 30 4194303) rfl rfl (any_of HT_.out (by kernel_rfl)) (fun _ _ _ h => h) (Or.inr ⟨by rfl, rfl⟩) ?_ ?_
           rotate_left
           ·
            simp only [Act.put, setIfInBounds_toArray, set_cons_zero, set_cons_succ, i64_w, i32_w]
            rfl
           refine pure_ (i := 22) (N := some 45) (v := undef) (a' := ?_) (mb_ 30 8388607) rfl rfl (any_of HT_.out (by kernel_rfl)) (fun _ _ _ h => h) (Or.inr ⟨by rfl, rfl⟩) ?_ ?_
           rotate_left
           ·
            simp only [Act.put, setIfInBounds_toArray, set_cons_zero, set_cons_succ, i64_w, i32_w]
            rfl
           refine pure_ (i := 23) (N := some 46) (v := undef) (a' := ?_) (mb_ 30 16777215) rfl rfl (any_of HT_.out (by kernel_rfl)) (fun _ _ _ h => h) (Or.inr ⟨by rfl, rfl⟩) ?_ ?_
           rotate_left
           ·
            simp only [Act.put, setIfInBounds_toArray, set_cons_zero, set_cons_succ, i64_w, i32_w]
            rfl
           refine pure_ (i := 24) (N := some 47) (v := undef) (a' := ?_) (mb_ 30 33554431) rfl rfl (any_of HT_.out (by kernel_rfl)) (fun _ _ _ h => h) (Or.inr ⟨by rfl, rfl⟩) ?_ ?_
           rotate_left
           ·
            simp only [Act.put, setIfInBounds_toArray, set_cons_zero, set_cons_succ, i64_w, i32_w]
            rfl
           refine pure_ (i := 25) (N := some 48) (v := undef) (a' := ?_) (mb_ 30 67108863) rfl rfl (any_of HT_.out (by kernel_rfl)) (fun _ _ _ h => h) (Or.inr ⟨by rfl, rfl⟩) ?_ ?_
           rotate_left
           ·
            simp only [Act.put, setIfInBounds_toArray, set_cons_zero, set_cons_succ, i64_w, i32_w]
            rfl
           refine pure_ (i := 26) (N := some 49) (v := undef) (a' := ?_) (mb_ 30 134217727) rfl rfl (any_of HT_.out (by kernel_rfl)) (fun _ _ _ h => h) (Or.inr ⟨by rfl, rfl⟩) ?_ ?_
           rotate_left
           ·
            simp only [Act.put, setIfInBounds_toArray, set_cons_zero, set_cons_succ, i64_w, i32_w]
            rfl
           refine pure_ (i := 27) (N := some 50) (v := undef) (a' := ?_) (mb_ 30 268435455) rfl rfl (any_of HT_.out (by kernel_rfl)) (fun _ _ _ h => h) (Or.inr ⟨by rfl, rfl⟩) ?_ ?_
           rotate_left
           ·
            simp only [Act.put, setIfInBounds_toArray, set_cons_zero, set_cons_succ, i64_w, i32_w]
            rfl
           refine pure_ (i := 28) (N := some 51) (v := undef) (a' := ?_) (mb_ 30 536870911) rfl rfl (any_of HT_.out (by kernel_rfl)) (fun _ _ _ h => h) (Or.inr ⟨by rfl, rfl⟩) ?_ ?_
           rotate_left
           ·
            simp only [Act.put, setIfInBounds_toArray, set_cons_zero, set_cons_succ, i64_w, i32_w]
            rfl
           refine pu_ 29 52 30 1073741823 ?_
           refine done_ (done_of HT_.out (by kernel_rfl)) ?_
           try go_wp2
           go_meet
           case rel => exact ⟨_, (true), (ry_), H', ⟨by have := HJ1.out; have := HK2.out; first | omega | exact Nat.le_refl _⟩, ⟨pk BK407.out⟩, ⟨by repeat (first | exact HB.out | apply ba_ | apply bN_ | apply b1_ | refine below_set ?_ GE407.out)⟩⟩
         case rest =>
          clear HC14
          try clear c1
          try clear c2
          try clear p2
          try clear c4
          try clear p4
          try clear q4
          try clear hx4
          try clear qi4
          try clear p6
          try clear c9
          try clear c10
          try clear c16
          try clear c17
          try clear c18
          try clear c22
          try clear c22b0
          try clear c24
          try clear c25
          try clear hx412_0
          try clear hx413_0
          try clear p412
          try clear p413
          try clear q412
          try clear q413
          obtain ⟨kq, x52_13, rfl, HA, HJ13, BK407, HB⟩ := hcut
          cases kq with
          | zero => exact absurd HA.out (by simp [impl_IsKeep.j2])
          | succ kj13 =>
           have H := HA.out
           clear HA
           simp only [impl_IsKeep.j2] at H
           by_cases c33 : x52_13 = true
           ·
            subst c33
            have H1 : (some false) = some r := by rw [if_pos rfl] at H; exact H
            clear H
            have H := H1
            clear H1
            obtain rfl := Option.some.inj H
            go_wp2
            go_ret
            exact ⟨rx_, by repeat (first | exact HB.out | apply ba_ | apply bN_ | apply b1_ | refine below_set ?_ GE407.out)⟩
           ·
            replace c33 := Bool.eq_false_iff.mpr c33
            subst c33
            have H1 : (impl_IsKeep.l0 kj13 l0_1 (l0_1.length : Int) (wrap64 (x18_2 + 1)) a0_0 l0_1 a0_2) = some r := by rw [if_neg (show ¬ (false = true) by decide)] at H; exact H
            clear H
            have H := H1
            clear H1
            have H' := ak_ H
            clear H
            go_wp2
            go_roundg kj13
            case measure => have := HJ1.out; have := HK2.out; have := HJ13.out; omega
            case rel => exact ⟨(wrap64 (x18_2 + 1)), (ry_), H', ⟨by have := HJ1.out; have := HK2.out; have := HJ13.out; omega⟩, ⟨pk BK407.out⟩, ⟨by repeat (first | exact HB.out | apply ba_ | apply bN_ | apply b1_ | refine below_set ?_ GE407.out)⟩⟩
        ·
         rw [if_neg c13] at H
         exact absurd H (by simp)
       ·
        rw [if_neg c12] at H
        exact absurd H (by simp)
      ·
       rw [if_neg c11] at H
       have c11b0 : decide (x18_2 < (l0_1.length : Int)) = false := decide_eq_false c11
       clear c11
       obtain rfl := Option.some.inj H
       go_wp2
       go_ret
       exact ⟨rx_, by repeat (first | exact HB.out | apply ba_ | apply bN_ | apply b1_ | refine below_set ?_ GE407.out)⟩
end Go.Proofs.Ythkchdfkeieabaa.QGr
