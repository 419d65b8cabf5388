/- Contracts of functions of the given program, walked: each call returns what its Lean function says. Conditions: those that stand at each theorem. (Written by a program of this session.) -/
import Derived.Test.YthkchdfkeieabaaQGrx0
import Derived.Test.YthkchdfkeieabaaQGrx3
import Derived.Test.YthkchdfkeieabaaQGrx6
namespace Go.Proofs.Ythkchdfkeieabaa.QGr
open Go.RowKit Go.Proofs.YthkchdfkeieabaaW.PrintWords Go.Proofs.YthkchdfkeieabaaW.PrintLast Go.Proofs.YthkchdfkeieabaaW.PrintMore
open List (setIfInBounds_toArray set_cons_zero set_cons_succ map_toArray map_cons map_nil)
attribute [local go_sem] max2_int min2_int max_two min_two max_three min_three max_four min_four
set_option linter.unusedVariables false
set_option maxHeartbeats 8000000
set_option maxRecDepth 100000
set_option linter.unusedSimpArgs false
mutual
def spec_keRides.l0 : Nat → List Int → List Bool → Int → Int → Int → List (List Int) → Int → List Bool → Bool → Option ((List (List Int)))
 | 0, _, _, _, _, _, _, _, _, _ => none
 | k + 1, x5, x13, x14, x15, x206000, x206001, x206002, x207000, x207001 => if x15 < x14 then (if 0 ≤ x15 then (if x15 < (x13.length : Int) then (if ((rdOf false x13 x15) == x207001) = true then (if x5.length < 17592186044416 then (spec_keRides.l0 k (x5 ++ [x15]) x13 x14 (wrap64 (x15 + 1)) x206000 x206001 x206002 x207000 x207001) else (none)) else (spec_keRides.l0 k x5 x13 x14 (wrap64 (x15 + 1)) x206000 x206001 x206002 x207000 x207001)) else (none)) else (none)) else ((some (([(([] : List Int))] : List (List Int)) : List (List Int))).bind fun y214 => (if x206002 > 0 then ((spec_paGroups.f k x5 ([] : List Int) 0 x206002).bind fun t217 => (if y214.length + t217.length < 5864062014805 then (spec_keRides.j1 k (y214 ++ t217) x206000 x206001 x206002 x207000 x207001) else (none))) else (spec_keRides.j1 k y214 x206000 x206001 x206002 x207000 x207001)))
def spec_keRides.j1 : Nat → List (List Int) → Int → List (List Int) → Int → List Bool → Bool → Option ((List (List Int)))
 | 0, _, _, _, _, _, _ => none
 | k + 1, x8, x206000, x206001, x206002, x207000, x207001 => spec_keRides.l1 k ([] : List (List Int)) x8 (x8.length : Int) 0 x206000 x206001 x206002 x207000 x207001
def spec_keRides.l1 : Nat → List (List Int) → List (List Int) → Int → Int → Int → List (List Int) → Int → List Bool → Bool → Option ((List (List Int)))
 | 0, _, _, _, _, _, _, _, _, _ => none
 | k + 1, x9, x40, x41, x42, x206000, x206001, x206002, x207000, x207001 => if x42 < x41 then (if 0 ≤ x42 then (if x42 < (x40.length : Int) then ((spec_keCan.f k x206000 x206001 x206002 x207000 x207001 (rd_L1 x40 x42)).bind fun t224 => (if t224 = true then (if x9.length < 5864062014805 then (spec_keRides.l1 k (x9 ++ [rd_L1 x40 x42]) x40 x41 (wrap64 (x42 + 1)) x206000 x206001 x206002 x207000 x207001) else (none)) else (spec_keRides.l1 k x9 x40 x41 (wrap64 (x42 + 1)) x206000 x206001 x206002 x207000 x207001))) else (none)) else (none)) else (some x9)
end
def spec_keRides.f (k : Nat) (a0_0 : Int) (l0_1 : List (List Int)) (a0_2 : Int) (l1_0 : List Bool) (a1_1 : Bool) : Option ((List (List Int))) := spec_keRides.l0 k ([] : List Int) l1_0 (l1_0.length : Int) 0 a0_0 l0_1 a0_2 l1_0 a1_1
theorem spec_keRides.mono_l : ∀ k, (∀ y0 y1 y2 y3 y4 y5 y6 y7 y8, LeO (spec_keRides.l0 k y0 y1 y2 y3 y4 y5 y6 y7 y8) (spec_keRides.l0 (k + 1) y0 y1 y2 y3 y4 y5 y6 y7 y8)) ∧ (∀ y0 y1 y2 y3 y4 y5, LeO (spec_keRides.j1 k y0 y1 y2 y3 y4 y5) (spec_keRides.j1 (k + 1) y0 y1 y2 y3 y4 y5)) ∧ (∀ y0 y1 y2 y3 y4 y5 y6 y7 y8, LeO (spec_keRides.l1 k y0 y1 y2 y3 y4 y5 y6 y7 y8) (spec_keRides.l1 (k + 1) y0 y1 y2 y3 y4 y5 y6 y7 y8))
 | 0 => ⟨fun _ _ _ _ _ _ _ _ _ r h => by simp [spec_keRides.l0] at h, fun _ _ _ _ _ _ r h => by simp [spec_keRides.j1] at h, fun _ _ _ _ _ _ _ _ _ r h => by simp [spec_keRides.l1] at h⟩
 | k + 1 => by
  obtain ⟨ih0, ih1, ih2⟩ := spec_keRides.mono_l k
  refine ⟨?_, ?_, ?_⟩
  ·intro y0 y1 y2 y3 y4 y5 y6 y7 y8
   unfold spec_keRides.l0
   repeat' first
   | (with_reducible first | exact ih0 _ _ _ _ _ _ _ _ _ | exact ih1 _ _ _ _ _ _ | exact ih2 _ _ _ _ _ _ _ _ _ | exact spec_keCan.mono _ _ _ _ _ _ _ | exact spec_paGroups.mono _ _ _ _ _ | exact LeO.refl _ | exact LeO.none _ | refine LeO.ite ?_ ?_ | refine LeO.bind ?_ (fun _ => ?_))
   | exact ih0 _ _ _ _ _ _ _ _ _
   | exact ih1 _ _ _ _ _ _
   | exact ih2 _ _ _ _ _ _ _ _ _
   | exact spec_keCan.mono _ _ _ _ _ _ _
   | exact spec_paGroups.mono _ _ _ _ _
   | exact LeO.none _
   | refine LeO.ite ?_ ?_
   | refine LeO.bind ?_ (fun _ => ?_)
  ·intro y0 y1 y2 y3 y4 y5
   unfold spec_keRides.j1
   repeat' first
   | (with_reducible first | exact ih0 _ _ _ _ _ _ _ _ _ | exact ih1 _ _ _ _ _ _ | exact ih2 _ _ _ _ _ _ _ _ _ | exact spec_keCan.mono _ _ _ _ _ _ _ | exact spec_paGroups.mono _ _ _ _ _ | exact LeO.refl _ | exact LeO.none _ | refine LeO.ite ?_ ?_ | refine LeO.bind ?_ (fun _ => ?_))
   | exact ih0 _ _ _ _ _ _ _ _ _
   | exact ih1 _ _ _ _ _ _
   | exact ih2 _ _ _ _ _ _ _ _ _
   | exact spec_keCan.mono _ _ _ _ _ _ _
   | exact spec_paGroups.mono _ _ _ _ _
   | exact LeO.none _
   | refine LeO.ite ?_ ?_
   | refine LeO.bind ?_ (fun _ => ?_)
  ·intro y0 y1 y2 y3 y4 y5 y6 y7 y8
   unfold spec_keRides.l1
   repeat' first
   | (with_reducible first | exact ih0 _ _ _ _ _ _ _ _ _ | exact ih1 _ _ _ _ _ _ | exact ih2 _ _ _ _ _ _ _ _ _ | exact spec_keCan.mono _ _ _ _ _ _ _ | exact spec_paGroups.mono _ _ _ _ _ | exact LeO.refl _ | exact LeO.none _ | refine LeO.ite ?_ ?_ | refine LeO.bind ?_ (fun _ => ?_))
   | exact ih0 _ _ _ _ _ _ _ _ _
   | exact ih1 _ _ _ _ _ _
   | exact ih2 _ _ _ _ _ _ _ _ _
   | exact spec_keCan.mono _ _ _ _ _ _ _
   | exact spec_paGroups.mono _ _ _ _ _
   | exact LeO.none _
   | refine LeO.ite ?_ ?_
   | refine LeO.bind ?_ (fun _ => ?_)
theorem spec_keRides.mono : ∀ a0 a1 a2 a3 a4 k, LeO (spec_keRides.f k a0 a1 a2 a3 a4) (spec_keRides.f (k + 1) a0 a1 a2 a3 a4) := by
 intro a0 a1 a2 a3 a4 k
 obtain ⟨ih0, ih1, ih2⟩ := spec_keRides.mono_l k
 unfold spec_keRides.f
 repeat' first
  | (with_reducible first | exact ih0 _ _ _ _ _ _ _ _ _ | exact ih1 _ _ _ _ _ _ | exact ih2 _ _ _ _ _ _ _ _ _ | exact spec_keCan.mono _ _ _ _ _ _ _ | exact spec_paGroups.mono _ _ _ _ _ | exact LeO.refl _ | exact LeO.none _ | refine LeO.ite ?_ ?_ | refine LeO.bind ?_ (fun _ => ?_))
  | exact ih0 _ _ _ _ _ _ _ _ _
  | exact ih1 _ _ _ _ _ _
  | exact ih2 _ _ _ _ _ _ _ _ _
  | exact spec_keCan.mono _ _ _ _ _ _ _
  | exact spec_paGroups.mono _ _ _ _ _
  | exact LeO.none _
  | refine LeO.ite ?_ ?_
  | refine LeO.bind ?_ (fun _ => ?_)
theorem spec_keRides.calls (k : Nat) (a0_0 : Int) (A0_1 : Option Addr) (c0_1 : Nat) (l0_1 : List (List Int)) (a0_2 : Int) (A1_0 : Option Addr) (c1_0 : Nat) (l1_0 : List Bool) (a1_1 : Bool) (r : List (List Int)) (w : World) (hr0_1 : Kd.C (Kd.slice 3 (Kd.int .i64)) w A0_1 l0_1.length l0_1) (hc0_1 : l0_1.length ≤ c0_1) (hr1_0 : Kd.C Kd.bool w A1_0 l1_0.length l1_0) (hc1_0 : l1_0.length ≤ c1_0) (h : spec_keRides.f k a0_0 l0_1 a0_2 l1_0 a1_1 = some r) :
  Calls Try.prog 74 #[.agg #[.int .i64 a0_0, .slice A0_1 l0_1.length c0_1, .int .i64 a0_2], .agg #[.slice A1_0 l1_0.length c1_0, .bool a1_1]] w fun e w' => ∃ v0_ : Value, e = .returned (v0_) ∧ Kd.N (Kd.slice 3 (Kd.int .i64)) 29 w' w.heap.size (fun k_ => (w.heap.size ≤ k_)) v0_ r ∧ Below w.heap.size w w' := by
 have hu52 := Try.underlying52
 have hu90 := Try.underlying90
 have HR0_1 := ak_ hr0_1
 have HC0_1 := ak_ hc0_1
 clear hr0_1 hc0_1
 have HR1_0 := ak_ hr1_0
 have HC1_0 := ak_ hc1_0
 clear hr1_0 hc1_0
 have HB := ak_ (Below.refl w.heap.size w)
 have H : (spec_keRides.l0 k ([] : List Int) l1_0 (l1_0.length : Int) 0 a0_0 l0_1 a0_2 l1_0 a1_1) = some r := h
 clear h
 have H' := ak_ H
 clear H
 go_enter Try.func74, Try.ntmps74
 go_wp2_with (first | ((with_reducible refine gate_dst (N := 2) rfl ?_); refine bx_ 2 #[.int .i64 a0_0, .slice A0_1 l0_1.length c0_1, .int .i64 a0_2] 52 ?_; intro gb205 hg w3 hbox hb; have n0_ := ak_ (bs_ (bb_ HB.out) hb); have n1_ := ak_ (hbox); have n2_ := ak_ ((by rw [hg]; exact (bz_ (bb_ HB.out)) : w.heap.size ≤ gb205)); have n3_ := n2_; clear HB; have HB := n0_; have BK205 := n1_; have GW205 := n2_; have GE205 := n3_; clear n0_ n1_ n2_ n3_; clear hb hbox hg) | ((with_reducible refine gate_dst (N := 3) rfl ?_); refine bx_ 3 #[.slice A1_0 l1_0.length c1_0, .bool a1_1] 90 ?_; intro gb206 hg w4 hbox hb; have n0_ := ak_ (blk_below (pk BK205.out) hb); have n1_ := ak_ (bs_ bl_ hb); have n2_ := ak_ (hbox); have n3_ := ak_ ((by rw [hg]; exact (bz_ bl_) : w.heap.size ≤ gb206)); have n4_ := n3_; have n5_ := ak_ ((by rw [hg]; exact Nat.ne_of_lt (blk_lt (pk BK205.out)) : gb205 ≠ gb206)); have n6_ := ak_ n5_.out.symm; clear BK205; clear HB; have BK205 := n0_; have HB := n1_; have BK206 := n2_; have GW206 := n3_; have GE206 := n4_; have NB205_206 := n5_; have NB206_205 := n6_; clear n0_ n1_ n2_ n3_ n4_ n5_ n6_; clear hb hbox hg; have hnb5 := NB206_205.out; have hnc5 := NB205_206.out; have hcz6_0 : w4.cell? ⟨gb206, 0, none⟩ = some (.slice A1_0 l1_0.length c1_0) := (blk_cell BK206.out 0).trans rfl; have hcz6_1 : w4.cell? ⟨gb206, 1, none⟩ = some (.bool a1_1) := (blk_cell BK206.out 1).trans rfl; have hfz6_0 := blk_frozen BK206.out 0; have hfz6_1 := blk_frozen BK206.out 1))
 go_loopg [5, 15] k (fun kq v5 v15 w' => ∃ (x5_1 : List Int) (x15_1 : Int), v15 = .int .i64 x15_1 ∧ Aside0 (spec_keRides.l0 kq x5_1 l1_0 (l1_0.length : Int) x15_1 a0_0 l0_1 a0_2 l1_0 a1_1 = some r) ∧ Aside0 (kq ≤ k) ∧ Aside0 (Kd.R (Kd.int .i64) 3 w' w.heap.size (fun k_ => (w.heap.size ≤ k_)) v5 x5_1) ∧ Aside0 (w'.heap[gb205]? = some (.cells #[.int .i64 a0_0, (.slice A0_1 l0_1.length c0_1), .int .i64 a0_2] 52 (0, 0))) ∧ Aside0 (w'.heap[gb206]? = some (.cells #[(.slice A1_0 l1_0.length c1_0), .bool a1_1] 90 (0, 0))) ∧ Aside0 (Below w.heap.size w w'))
 case atStart => exact ⟨(([] : List Int)), (0), (ry_), H', ⟨Nat.le_refl _⟩, ⟨by first | exact Kd.R_nil _ _ _ _ _ | exact Kd.N_nil _ _ _ _ _ | exact Kd.V_nil _ _ _ _ _ | exact Kd.Q_nil _ _ _ _ _ | exact Kd.S_nil _ _ _ _ _⟩, ⟨pk BK205.out⟩, ⟨pk BK206.out⟩, ⟨by repeat (first | exact HB.out | apply ba_ | apply bN_ | apply b1_ | refine below_set ?_ (Aside0.out (by assumption)))⟩⟩
 case round =>
  clear H'
  try clear c1
  try clear p2
  try clear c5
  try clear hcz6_0
  try clear hcz6_1
  try clear hfz6_0
  try clear hfz6_1
  obtain ⟨x5_1, x15_1, rfl, HA, HK1, HO_5, BK205, BK206, HB⟩ := hrel
  cases gk with
  | zero => exact absurd HA.out (by simp [spec_keRides.l0])
  | succ k1 =>
   have H := HA.out
   clear HA
   simp only [spec_keRides.l0] at H
   by_cases c7 : x15_1 < (l1_0.length : Int)
   ·
    rw [if_pos c7] at H
    have c7b0 : decide (x15_1 < (l1_0.length : Int)) = true := decide_eq_true c7
    clear c7
    by_cases c8 : 0 ≤ x15_1
    ·
     rw [if_pos c8] at H
     have c8b0 : decide (0 ≤ x15_1) = true := decide_eq_true c8
     clear c8
     by_cases c9 : x15_1 < (l1_0.length : Int)
     ·
      rw [if_pos c9] at H
      have c9b0 : decide (x15_1 < (l1_0.length : Int)) = true := decide_eq_true c9
      clear c9
      by_cases c10 : ((rdOf false l1_0 x15_1) == a1_1) = true
      ·
       rw [if_pos c10] at H
       have c10b0 : ((rdOf false l1_0 x15_1) == a1_1) = true := c10
       (try (have c10b1 : decide ((rdOf false l1_0 x15_1) = a1_1) = true := by simpa using c10))
       (try (have c10b2 : ((rdOf false l1_0 x15_1) == a1_1) = true := by simpa using c10))
       clear c10
       by_cases c11 : x5_1.length < 17592186044416
       ·
        rw [if_pos c11] at H
        have LMc11 := ak_ c11
        clear c11
        obtain ⟨y208, hy208⟩ : ∃ y_ : List Int, y_ = (x5_1 ++ [x15_1]) := ⟨_, rfl⟩
        replace H : (spec_keRides.l0 k1 y208 l1_0 (l1_0.length : Int) (wrap64 (x15_1 + 1)) a0_0 l0_1 a0_2 l1_0 a1_1) = some r := by first | (rw [hy208]; exact H) | exact H
        have Ny208 := ak_ hy208
        clear hy208
        have H' := ak_ H
        clear H
        have p207 : 0 ≤ (x15_1 : Int) := odt_ (by assumption)
        have q207 : x15_1 < (l1_0.length : Int) := odt_ (by assumption)
        obtain ⟨ad207, e207, hx207_0⟩ := Kd.at_bool HR1_0.out x15_1 p207 q207
        cases e207
        try replace hx207_0 := (HB.out.cell (World.block_lt_of_cell? w _ hx207_0)).trans hx207_0
        replace p207 := eq_true p207
        replace q207 := eq_true q207
        have hnb12 := NB206_205.out
        have hnc12 := NB205_206.out
        have hcz13_0 : wr.cell? ⟨gb206, 0, none⟩ = some (.slice (some ad207) l1_0.length c1_0) := (blk_cell BK206.out 0).trans rfl
        have hcz13_1 : wr.cell? ⟨gb206, 1, none⟩ = some (.bool a1_1) := (blk_cell BK206.out 1).trans rfl
        have hfz13_0 := blk_frozen BK206.out 0
        have hfz13_1 := blk_frozen BK206.out 1
        go_wp2_with (first | ((with_reducible refine gate_builtin (b := .append) (xs := #[.tmp 24, .tmp 26]) rfl ?_); at_builtin; refine Kd.R_append (Kd.int .i64) (w0 := w) w.heap.size rfl (.tmp 24) (.tmp 26) 29 3 (.int .i64 0) 8 rfl Try.underlying29 info3 rfl (by decide) (by omega) u5 x5_1 x15_1 [.int .i64 x15_1] (fun k_ => (w.heap.size ≤ k_)) (fun _ => False) rfl rfl ?aP (fun _ hk => hk.elim) ?aF ?aO ?aB ?aS ?aL ?_; (case aP => exact rfl); (case aB => exact bl_); (case aF => exact (fun k_ hk => (Nat.le_trans (bz_ bl_) hk))); (case aO => exact (Kd.pR HO_5.out)); (case aS => exact (bz_ bl_)); (case aL => have := LMc11.out; omega); intro v209 w14 ho hb hg hat; rw [← Ny208.out] at ho; have n0_ := ak_ (blk_grown (pk BK205.out) hg (Kd.R_ne HO_5.out BK205.out (by decide))); have n1_ := ak_ (blk_grown (pk BK206.out) hg (Kd.R_ne HO_5.out BK206.out (by decide))); have n2_ := ak_ (hb); have n3_ := ak_ (ho); clear BK205; clear BK206; clear HB; clear HO_5; have BK205 := n0_; have BK206 := n1_; have HB := n2_; have HO210 := n3_; clear n0_ n1_ n2_ n3_; clear ho hb hg hat))
        go_roundg k1
        case measure => have := HK1.out; omega
        case rel => exact ⟨(y208), (wrap64 (x15_1 + 1)), (ry_), H', ⟨by have := HK1.out; omega⟩, ⟨Kd.pR HO210.out⟩, ⟨pk BK205.out⟩, ⟨pk BK206.out⟩, ⟨by repeat (first | exact HB.out | apply ba_ | apply bN_ | apply b1_ | refine below_set ?_ (Aside0.out (by assumption)))⟩⟩
       ·
        rw [if_neg c11] at H
        exact absurd H (by simp)
      ·
       rw [if_neg c10] at H
       have c10b0 : ((rdOf false l1_0 x15_1) == a1_1) = false := by simpa using c10
       (try (have c10b1 : decide ((rdOf false l1_0 x15_1) = a1_1) = false := by simpa using c10))
       (try (have c10b2 : ((rdOf false l1_0 x15_1) == a1_1) = false := by simpa using c10))
       (try (have c10b3 : ¬ ((rdOf false l1_0 x15_1) = a1_1) := by simpa using c10))
       clear c10
       have H' := ak_ H
       clear H
       have p207 : 0 ≤ (x15_1 : Int) := odt_ (by assumption)
       have q207 : x15_1 < (l1_0.length : Int) := odt_ (by assumption)
       obtain ⟨ad207, e207, hx207_0⟩ := Kd.at_bool HR1_0.out x15_1 p207 q207
       cases e207
       try replace hx207_0 := (HB.out.cell (World.block_lt_of_cell? w _ hx207_0)).trans hx207_0
       replace p207 := eq_true p207
       replace q207 := eq_true q207
       have hnb15 := NB206_205.out
       have hnc15 := NB205_206.out
       have hcz16_0 : wr.cell? ⟨gb206, 0, none⟩ = some (.slice (some ad207) l1_0.length c1_0) := (blk_cell BK206.out 0).trans rfl
       have hcz16_1 : wr.cell? ⟨gb206, 1, none⟩ = some (.bool a1_1) := (blk_cell BK206.out 1).trans rfl
       have hfz16_0 := blk_frozen BK206.out 0
       have hfz16_1 := blk_frozen BK206.out 1
       go_wp2
       go_roundg k1
       case measure => have := HK1.out; omega
       case rel => exact ⟨(x5_1), (wrap64 (x15_1 + 1)), (ry_), H', ⟨by have := HK1.out; omega⟩, ⟨Kd.pR HO_5.out⟩, ⟨pk BK205.out⟩, ⟨pk BK206.out⟩, ⟨by repeat (first | exact HB.out | apply ba_ | apply bN_ | apply b1_ | refine below_set ?_ (Aside0.out (by assumption)))⟩⟩
     ·
      rw [if_neg c9] at H
      exact absurd H (by simp)
    ·
     rw [if_neg c8] at H
     exact absurd H (by simp)
   ·
    rw [if_neg c7] at H
    have c7b0 : decide (x15_1 < (l1_0.length : Int)) = false := decide_eq_false c7
    clear c7
    obtain ⟨y211, hy211⟩ : ∃ y_ : List Int, y_ = (([] : List Int)) := ⟨_, rfl⟩
    replace H : ((some (([y211] : List (List Int)) : List (List Int))).bind fun y214 => (if a0_2 > 0 then ((spec_paGroups.f k1 x5_1 ([] : List Int) 0 a0_2).bind fun t217 => (if y214.length + t217.length < 5864062014805 then (spec_keRides.j1 k1 (y214 ++ t217) a0_0 l0_1 a0_2 l1_0 a1_1) else (none))) else (spec_keRides.j1 k1 y214 a0_0 l0_1 a0_2 l1_0 a1_1))) = some r := by first | (rw [hy211]; exact H) | exact H
    have Ny211 := ak_ hy211
    clear hy211
    obtain ⟨y214, hy214⟩ : ∃ y_ : List (List Int), y_ = (([y211] : List (List Int))) := ⟨_, rfl⟩
    replace H : (if a0_2 > 0 then ((spec_paGroups.f k1 x5_1 ([] : List Int) 0 a0_2).bind fun t217 => (if y214.length + t217.length < 5864062014805 then (spec_keRides.j1 k1 (y214 ++ t217) a0_0 l0_1 a0_2 l1_0 a1_1) else (none))) else (spec_keRides.j1 k1 y214 a0_0 l0_1 a0_2 l1_0 a1_1)) = some r := by first | (rw [hy214]; exact H) | exact H
    have Ny214 := ak_ hy214
    clear hy214
    have HC17 := ak_ H
    clear H
    go_upto_if 33 with (first | ((with_reducible refine gate_dst (N := 29) rfl ?_); refine Kd.R_lit (Kd.int .i64) _ 3 ?hg (N := 29) ?hd (xs := ([] : List Int)) (inner := []) (ok := fun _ => True) (okp := fun _ => True) ?hr ?hp (fun _ hk => hk) trivial (Below.refl _ _) (Nat.le_refl _) (by simp) ?_; (case hd => rfl); (case hg => rfl); (case hr => go_simp <;> rfl); (case hp => exact (Reps.none _ _)); intro v212 w18 ho19 hb hg_ hnew_; clear hg_ hnew_; (first | rw [← Ny211.out] at ho19 | (simp only [Int.reduceToNat] at ho19; rw [← Ny211.out] at ho19)); have n0_ := ak_ (Kd.R_elder' (Kd.pR HO_5.out) (Kd.R_base ho19) hb); have n1_ := ak_ (Kd.R_lower (Kd.R_new' (Kd.R_newM (M := fun k_ => (w.heap.size ≤ k_)) ho19 (bz_ bl_) (fun k_ h_ => h_)) (Kd.R_lt (Kd.pR HO_5.out))) (bz_ bl_)); have n2_ := ak_ (blk_below (pk BK205.out) hb); have n3_ := ak_ (blk_below (pk BK206.out) hb); have n4_ := ak_ (bs_ bl_ hb); clear HO_5; clear BK205; clear BK206; clear HB; have HO_5 := n0_; have HO213 := n1_; have BK205 := n2_; have BK206 := n3_; have HB := n4_; clear n0_ n1_ n2_ n3_ n4_; clear hb ho19; obtain ⟨Ao20, co20, eo20⟩ := Kd.R_slice HO213.out; subst eo20) | ((with_reducible refine gate_dst (N := 30) rfl ?_); refine Kd.N_lit (Kd.slice 3 (Kd.int .i64)) _ 29 ?hg (N' := 30) ?hd (xs := ([y211] : List (List Int))) (inner := [.slice Ao20 y211.length co20]) (ok := (fun k_ => (w.heap.size ≤ k_) ∧ some k_ ≠ (u5 : Value).ownBlock ∧ k_ ≠ gb205 ∧ k_ ≠ gb206)) (okp := (fun k_ => (w.heap.size ≤ k_) ∧ some k_ ≠ (u5 : Value).ownBlock ∧ k_ ≠ gb205 ∧ k_ ≠ gb206)) ?hr ?hp (fun _ hk => hk) ((show ∀ k_, w18.heap.size ≤ k_ → (fun k_ => (w.heap.size ≤ k_) ∧ some k_ ≠ (u5 : Value).ownBlock ∧ k_ ≠ gb205 ∧ k_ ≠ gb206) k_ from fun k_ hk => ⟨(Nat.le_trans (bz_ bl_) hk), Kd.fresh' (Kd.R_lt (Kd.pR HO_5.out)) k_ hk, Kd.freshB (pk BK205.out) k_ hk, Kd.freshB (pk BK206.out) k_ hk⟩) _ (Nat.le_refl _)) (Below.refl _ _) (Nat.le_refl _) (by simp) ?_; (case hd => rfl); (case hg => rfl); (case hr => go_simp <;> rfl); (case hp => exact (Reps.one (show Kd.FK (Kd.slice 3 (Kd.int .i64)) _ _ y211 [.slice Ao20 y211.length co20] from (Kd.FK_slice_mk (Kd.R_reads' (Kd.R_mono (ok' := (fun k_ => (w.heap.size ≤ k_) ∧ some k_ ≠ (u5 : Value).ownBlock ∧ k_ ≠ gb205 ∧ k_ ≠ gb206)) (Kd.R_types (Kd.R_types (HO213.out) BK205.out (by decide)) BK206.out (by decide)) (fun k_ hk => ⟨hk.1.1.1.1, ⟨hk.1.1.2, ⟨hk.1.2, hk.2⟩⟩⟩))).2.1 (Kd.R_F (Kd.R_mono (ok' := (fun k_ => (w.heap.size ≤ k_) ∧ some k_ ≠ (u5 : Value).ownBlock ∧ k_ ≠ gb205 ∧ k_ ≠ gb206)) (Kd.R_types (Kd.R_types (HO213.out) BK205.out (by decide)) BK206.out (by decide)) (fun k_ hk => ⟨hk.1.1.1.1, ⟨hk.1.1.2, ⟨hk.1.2, hk.2⟩⟩⟩))))) (Reps.none _ _))); intro v215 w21 ho22 hb hg_ hnew_; clear hg_ hnew_; (first | rw [← Ny214.out] at ho22 | (simp only [Int.reduceToNat] at ho22; rw [← Ny214.out] at ho22)); have n0_ := ak_ (Kd.R_below (Kd.pR HO_5.out) hb); have n1_ := ak_ (Kd.N_lower ho22 (bz_ bl_)); have n2_ := ak_ (blk_below (pk BK205.out) hb); have n3_ := ak_ (blk_below (pk BK206.out) hb); have n4_ := ak_ (bs_ bl_ hb); clear HO_5; clear BK205; clear BK206; clear HB; clear HO213; have HO_5 := n0_; have HO216 := n1_; have BK205 := n2_; have BK206 := n3_; have HB := n4_; clear n0_ n1_ n2_ n3_ n4_; clear hb ho22; have hnb23 := NB205_206.out; have hnc23 := NB206_205.out; have hcz24_0 : w21.cell? ⟨gb205, 0, none⟩ = some (.int .i64 a0_0) := (blk_cell BK205.out 0).trans rfl; have hcz24_1 : w21.cell? ⟨gb205, 1, none⟩ = some (.slice A0_1 l0_1.length c0_1) := (blk_cell BK205.out 1).trans rfl; have hcz24_2 : w21.cell? ⟨gb205, 2, none⟩ = some (.int .i64 a0_2) := (blk_cell BK205.out 2).trans rfl; have hfz24_0 := blk_frozen BK205.out 0; have hfz24_1 := blk_frozen BK205.out 1; have hfz24_2 := blk_frozen BK205.out 2))
    (try simp only [Act.put, setIfInBounds_toArray, set_cons_zero, set_cons_succ])
    go_cut [8] (fun v8 wc => ∃ (kq : Nat) (x8_16 : List (List Int)), Aside0 (spec_keRides.j1 kq x8_16 a0_0 l0_1 a0_2 l1_0 a1_1 = some r) ∧ Aside0 (kq ≤ k1) ∧ Aside0 (Kd.N (Kd.slice 3 (Kd.int .i64)) 29 wc w.heap.size (fun k_ => (w.heap.size ≤ k_) ∧ k_ ≠ gb205 ∧ k_ ≠ gb206) v8 x8_16) ∧ Aside0 (wc.heap[gb205]? = some (.cells #[.int .i64 a0_0, (.slice A0_1 l0_1.length c0_1), .int .i64 a0_2] 52 (0, 0))) ∧ Aside0 (wc.heap[gb206]? = some (.cells #[(.slice A1_0 l1_0.length c1_0), .bool a1_1] 90 (0, 0))) ∧ Aside0 (Below w.heap.size w wc))
    case first =>
     have H := HC17.out
     clear HC17
     by_cases c25 : a0_2 > 0
     ·
      rw [if_pos c25] at H
      have c25b0 : decide (0 < a0_2) = true := decide_eq_true c25
      clear c25
      (first | rw [c25b0] | (simp only [i64_w, i32_w]; rw [c25b0]) | rw [c25b1] | skip)
      replace H := Option.bind_eq_some_iff.mp H
      obtain ⟨t217, A260, H⟩ := H
      replace H : (if y214.length + t217.length < 5864062014805 then (spec_keRides.j1 k1 (y214 ++ t217) a0_0 l0_1 a0_2 l1_0 a1_1) else (none)) = some r := H
      have A26 := ak_ A260
      clear A260
      by_cases c27 : y214.length + t217.length < 5864062014805
      ·
       rw [if_pos c27] at H
       have LMc27 := ak_ c27
       clear c27
       obtain ⟨y220, hy220⟩ : ∃ y_ : List (List Int), y_ = (y214 ++ t217) := ⟨_, rfl⟩
       replace H : (spec_keRides.j1 k1 y220 a0_0 l0_1 a0_2 l1_0 a1_1) = some r := by first | (rw [hy220]; exact H) | exact H
       have Ny220 := ak_ hy220
       clear hy220
       have H' := ak_ H
       clear H
       have hnb28 := NB205_206.out
       have hnc28 := NB206_205.out
       have hcz29_0 : w21.cell? ⟨gb205, 0, none⟩ = some (.int .i64 a0_0) := (blk_cell BK205.out 0).trans rfl
       have hcz29_1 : w21.cell? ⟨gb205, 1, none⟩ = some (.slice A0_1 l0_1.length c0_1) := (blk_cell BK205.out 1).trans rfl
       have hcz29_2 : w21.cell? ⟨gb205, 2, none⟩ = some (.int .i64 a0_2) := (blk_cell BK205.out 2).trans rfl
       have hfz29_0 := blk_frozen BK205.out 0
       have hfz29_1 := blk_frozen BK205.out 1
       have hfz29_2 := blk_frozen BK205.out 2
       obtain ⟨Ao30, co30, eo30⟩ := Kd.R_slice HO_5.out
       subst eo30
       go_wp2_with (first | ((with_reducible refine gate_callee (f := 109) rfl ?_); refine goesL_ (some 38) rfl rfl Try.func109 (by kernel_rfl) rfl #[.slice Ao30 x5_1.length co30, .slice none 0 0, .int .i64 0, .int .i64 a0_2] rfl (by first | rfl | (simp only [map_toArray, map_cons, map_nil]; try rfl)) ?_; (refine (spec_paGroups.calls k1 _ _ x5_1 _ _ ([] : List Int) 0 a0_2 t217 _ ?side1 ?side2 ?side3 ?side4 A26.out).mono ?_); (case side1 => repeat (first | exact (Kd.R_reads' HO_5.out).2.2 | (with_reducible refine Kd.C_alloc ?_ _) | (with_reducible refine Kd.C_drewN ?_ _) | (with_reducible refine Kd.C_drew ?_))); (case side2 => exact (Kd.R_reads' HO_5.out).2.1); (case side3 => exact Kd.C_nil _ _); (case side4 => exact Nat.le_refl _); rintro e w31 ⟨v218, rfl, ho0, hb⟩; refine ⟨_, rfl, ?_⟩; have n0_ := ak_ (Kd.R_below (Kd.pR HO_5.out) hb); have n1_ := ak_ (Kd.N_elder' (Kd.pN HO216.out) (Kd.N_base ho0) hb); have n2_ := ak_ (Kd.N_lower (Kd.N_mono (ok' := fun k_ => (w.heap.size ≤ k_) ∧ some k_ ≠ (.slice Ao30 x5_1.length co30 : Value).ownBlock ∧ some k_ ≠ (v215 : Value).ownBlock ∧ k_ ≠ gb205 ∧ k_ ≠ gb206) ho0 (fun k_ hk_ => ⟨(Nat.le_trans (bz_ bl_) hk_), (Kd.fresh' (Kd.R_lt (Kd.pR HO_5.out)) k_ hk_), (Kd.fresh' (Kd.N_lt (Kd.pN HO216.out)) k_ hk_), (Kd.freshB (pk BK205.out) k_ hk_), (Kd.freshB (pk BK206.out) k_ hk_)⟩)) (bz_ bl_)); have n3_ := ak_ (blk_below (pk BK205.out) hb); have n4_ := ak_ (blk_below (pk BK206.out) hb); have n5_ := ak_ (bs_ bl_ hb); clear HO_5; clear HO216; clear BK205; clear BK206; clear HB; have HO_5 := n0_; have HO216 := n1_; have HO219 := n2_; have BK205 := n3_; have BK206 := n4_; have HB := n5_; clear n0_ n1_ n2_ n3_ n4_ n5_; (try clear hb); (try clear hb2); (try clear hk); (try clear hi); (try clear ho0); obtain ⟨Ao33, co33, eo33⟩ := Kd.N_slice HO219.out; subst eo33) | ((with_reducible refine gate_builtin (b := .append) (xs := #[.tmp 34, .tmp 38]) rfl ?_); at_builtin; refine Kd.N_append_rows (Kd.slice 3 (Kd.int .i64)) (w0 := w) w.heap.size rfl (.tmp 34) (.tmp 38) 47 29 (.slice none 0 0) 24 rfl Try.underlying47 info29 rfl (by decide) (by omega) v215 y214 t217 _ _ _ (fun k_ => (w.heap.size ≤ k_) ∧ some k_ ≠ (.slice Ao30 x5_1.length co30 : Value).ownBlock ∧ k_ ≠ gb205 ∧ k_ ≠ gb206) (fun k_ => ((fun k_ => (w.heap.size ≤ k_) ∧ some k_ ≠ (.slice Ao30 x5_1.length co30 : Value).ownBlock ∧ k_ ≠ gb205 ∧ k_ ≠ gb206)) k_ ∧ some k_ ≠ (v215 : Value).ownBlock) rfl rfl ?aO ?aR (fun _ hk => hk) ?aF ?aB ?aS ?aL ?_; (case aR => exact (by skip; exact Kd.N_F (Kd.N_mono (ok' := (fun k_ => ((fun k_ => (w.heap.size ≤ k_) ∧ some k_ ≠ (.slice Ao30 x5_1.length co30 : Value).ownBlock ∧ k_ ≠ gb205 ∧ k_ ≠ gb206)) k_ ∧ some k_ ≠ (v215 : Value).ownBlock)) (HO219.out) (fun k_ hk => ⟨⟨hk.1, ⟨hk.2.1, ⟨hk.2.2.2.1, hk.2.2.2.2⟩⟩⟩, hk.2.2.1⟩)))); (case aB => exact bl_); (case aF => exact (fun k_ hk => ⟨(Nat.le_trans (bz_ bl_) hk), Kd.fresh' (Kd.R_lt (Kd.pR HO_5.out)) k_ hk, Kd.freshB (pk BK205.out) k_ hk, Kd.freshB (pk BK206.out) k_ hk⟩)); (case aO => exact (by (with_reducible repeat (first | apply Kd.N_alloc | apply Kd.N_drewN | apply Kd.N_drew)); exact Kd.N_mono HO216.out (fun _ hk => ⟨hk.1.1, ⟨hk.1.2.1, ⟨hk.1.2.2.1, hk.1.2.2.2⟩⟩⟩))); (case aS => exact (bz_ bl_)); (case aL => have := LMc27.out; omega); intro v221 w32 ho hb hg hat; rw [← Ny220.out] at ho; have n0_ := ak_ (Kd.R_over' (Kd.pR HO_5.out) (Kd.N_typed (Kd.pN HO216.out)) (by decide) hg); have n1_ := ak_ (blk_grown (pk BK205.out) hg (Kd.N_ne HO216.out BK205.out (by decide))); have n2_ := ak_ (blk_grown (pk BK206.out) hg (Kd.N_ne HO216.out BK206.out (by decide))); have n3_ := ak_ (Kd.N_afterv (ok := (fun k_ => (w.heap.size ≤ k_) ∧ some k_ ≠ (.slice Ao30 x5_1.length co30 : Value).ownBlock ∧ k_ ≠ gb205 ∧ k_ ≠ gb206)) (by (with_reducible repeat (first | apply Kd.N_alloc | apply Kd.N_drewN | apply Kd.N_drew)); exact Kd.N_mono HO219.out (fun _ hk => ⟨⟨hk.1, ⟨hk.2.1, ⟨hk.2.2.2.1, hk.2.2.2.2⟩⟩⟩, hk.2.2.1⟩)) hg hat); have n4_ := ak_ (hb); have n5_ := ak_ (ho); clear HO_5; clear BK205; clear BK206; clear HO219; clear HB; clear HO216; have HO_5 := n0_; have BK205 := n1_; have BK206 := n2_; have HO219 := n3_; have HB := n4_; have HO222 := n5_; clear n0_ n1_ n2_ n3_ n4_ n5_; clear ho hb hg hat))
       go_meet
       case rel => exact ⟨_, (y220), H', ⟨by have := HK1.out; first | omega | exact Nat.le_refl _⟩, ⟨by (with_reducible repeat (first | apply Kd.N_alloc | apply Kd.N_drewN | apply Kd.N_drew)); exact Kd.N_mono HO222.out (fun _ hk => ⟨hk.1, ⟨hk.2.2.1, hk.2.2.2⟩⟩)⟩, ⟨pk BK205.out⟩, ⟨pk BK206.out⟩, ⟨by repeat (first | exact HB.out | apply ba_ | apply bN_ | apply b1_ | refine below_set ?_ (Aside0.out (by assumption)))⟩⟩
      ·
       rw [if_neg c27] at H
       exact absurd H (by simp)
     ·
      rw [if_neg c25] at H
      have c25b0 : decide (0 < a0_2) = false := decide_eq_false c25
      clear c25
      (first | rw [c25b0] | (simp only [i64_w, i32_w]; rw [c25b0]) | rw [c25b1] | skip)
      have H' := ak_ H
      clear H
      go_wp2
      go_meet
      case rel => exact ⟨_, (y214), H', ⟨by have := HK1.out; first | omega | exact Nat.le_refl _⟩, ⟨by (with_reducible repeat (first | apply Kd.N_alloc | apply Kd.N_drewN | apply Kd.N_drew)); exact Kd.N_mono HO216.out (fun _ hk => ⟨hk.1, ⟨hk.2.2.1, hk.2.2.2⟩⟩)⟩, ⟨pk BK205.out⟩, ⟨pk BK206.out⟩, ⟨by repeat (first | exact HB.out | apply ba_ | apply bN_ | apply b1_ | refine below_set ?_ (Aside0.out (by assumption)))⟩⟩
    case rest =>
     clear HC17
     try clear c1
     try clear c2
     try clear p2
     try clear q2
     try clear hx2
     try clear c5
     try clear p6
     try clear c7
     try clear c7b0
     try clear c8
     try clear c8b0
     try clear c9
     try clear c9b0
     try clear c10
     try clear c10b0
     try clear c10b1
     try clear c10b2
     try clear c11
     try clear c12
     try clear c15
     try clear p20
     try clear q20
     try clear hx20
     try clear c23
     try clear c25
     try clear c25b0
     try clear c27
     try clear c28
     try clear hcz13_0
     try clear hcz13_1
     try clear hcz16_0
     try clear hcz16_1
     try clear hcz24_0
     try clear hcz24_1
     try clear hcz24_2
     try clear hcz29_0
     try clear hcz29_1
     try clear hcz29_2
     try clear hcz6_0
     try clear hcz6_1
     try clear hfz13_0
     try clear hfz13_1
     try clear hfz16_0
     try clear hfz16_1
     try clear hfz24_0
     try clear hfz24_1
     try clear hfz24_2
     try clear hfz29_0
     try clear hfz29_1
     try clear hfz29_2
     try clear hfz6_0
     try clear hfz6_1
     try clear hx207_0
     try clear p2
     try clear p207
     try clear q207
     obtain ⟨kq, x8_16, HA, HJ16, HO_8, BK205, BK206, HB⟩ := hcut
     cases kq with
     | zero => exact absurd HA.out (by simp [spec_keRides.j1])
     | succ kj16 =>
      have H := HA.out
      clear HA
      simp only [spec_keRides.j1] at H
      have H' := ak_ H
      clear H
      obtain ⟨Ao34, co34, eo34⟩ := Kd.N_slice HO_8.out
      subst eo34
      go_wp2
      go_loopg [9, 42] kj16 (fun kq v9 v42 w' => ∃ (x9_3 : List (List Int)) (x42_3 : Int), v42 = .int .i64 x42_3 ∧ Aside0 (spec_keRides.l1 kq x9_3 x8_16 (x8_16.length : Int) x42_3 a0_0 l0_1 a0_2 l1_0 a1_1 = some r) ∧ Aside0 (kq ≤ kj16) ∧ Aside0 (Kd.N (Kd.slice 3 (Kd.int .i64)) 29 w' w.heap.size (fun k_ => (w.heap.size ≤ k_) ∧ some k_ ≠ ((.slice Ao34 x8_16.length co34) : Value).ownBlock ∧ k_ ≠ gb205 ∧ k_ ≠ gb206) v9 x9_3) ∧ Aside0 (Kd.N (Kd.slice 3 (Kd.int .i64)) 29 w' w.heap.size (fun k_ => (w.heap.size ≤ k_) ∧ some k_ ≠ (v9 : Value).ownBlock ∧ k_ ≠ gb205 ∧ k_ ≠ gb206) (.slice Ao34 x8_16.length co34) x8_16) ∧ Aside0 (w'.heap[gb205]? = some (.cells #[.int .i64 a0_0, (.slice A0_1 l0_1.length c0_1), .int .i64 a0_2] 52 (0, 0))) ∧ Aside0 (w'.heap[gb206]? = some (.cells #[(.slice A1_0 l1_0.length c1_0), .bool a1_1] 90 (0, 0))) ∧ Aside0 (Below w.heap.size w w'))
      case atStart => exact ⟨(([] : List (List Int))), (0), (ry_), H', ⟨Nat.le_refl _⟩, ⟨by first | exact Kd.S_nil _ _ _ _ _ | exact Kd.N_nil _ _ _ _ _ | exact Kd.V_nil _ _ _ _ _ | exact Kd.Q_nil _ _ _ _ _ | exact Kd.R_nil _ _ _ _ _⟩, ⟨by (with_reducible repeat (first | apply Kd.N_alloc | apply Kd.N_drewN | apply Kd.N_drew)); exact Kd.N_mono HO_8.out (fun _ hk => ⟨hk.1, ⟨(by simp [Value.ownBlock]), ⟨hk.2.1, hk.2.2⟩⟩⟩)⟩, ⟨pk BK205.out⟩, ⟨pk BK206.out⟩, ⟨by repeat (first | exact HB.out | apply ba_ | apply bN_ | apply b1_ | refine below_set ?_ (Aside0.out (by assumption)))⟩⟩
      case round =>
       clear H'
       try clear c1
       try clear c2
       try clear p2
       try clear q2
       try clear hx2
       try clear c5
       try clear p6
       try clear c7
       try clear c7b0
       try clear c8
       try clear c8b0
       try clear c9
       try clear c9b0
       try clear c10
       try clear c10b0
       try clear c10b1
       try clear c10b2
       try clear c11
       try clear c12
       try clear c15
       try clear p20
       try clear q20
       try clear hx20
       try clear c23
       try clear c25
       try clear c25b0
       try clear c27
       try clear c28
       try clear hcz13_0
       try clear hcz13_1
       try clear hcz16_0
       try clear hcz16_1
       try clear hcz24_0
       try clear hcz24_1
       try clear hcz24_2
       try clear hcz29_0
       try clear hcz29_1
       try clear hcz29_2
       try clear hcz6_0
       try clear hcz6_1
       try clear hfz13_0
       try clear hfz13_1
       try clear hfz16_0
       try clear hfz16_1
       try clear hfz24_0
       try clear hfz24_1
       try clear hfz24_2
       try clear hfz29_0
       try clear hfz29_1
       try clear hfz29_2
       try clear hfz6_0
       try clear hfz6_1
       try clear hx207_0
       try clear p2
       try clear p20
       try clear p207
       try clear p6
       try clear q2
       try clear q20
       try clear q207
       obtain ⟨x9_3, x42_3, rfl, HA, HK3, HO_9, HO_40, BK205, BK206, HB⟩ := hrel
       cases gk with
       | zero => exact absurd HA.out (by simp [spec_keRides.l1])
       | succ k3 =>
        have H := HA.out
        clear HA
        simp only [spec_keRides.l1] at H
        by_cases c35 : x42_3 < (x8_16.length : Int)
        ·
         rw [if_pos c35] at H
         have c35b0 : decide (x42_3 < (x8_16.length : Int)) = true := decide_eq_true c35
         clear c35
         by_cases c36 : 0 ≤ x42_3
         ·
          rw [if_pos c36] at H
          have c36b0 : decide (0 ≤ x42_3) = true := decide_eq_true c36
          clear c36
          by_cases c37 : x42_3 < (x8_16.length : Int)
          ·
           rw [if_pos c37] at H
           have c37b0 : decide (x42_3 < (x8_16.length : Int)) = true := decide_eq_true c37
           clear c37
           replace H := Option.bind_eq_some_iff.mp H
           obtain ⟨t224, A380, H⟩ := H
           replace H : (if t224 = true then (if x9_3.length < 5864062014805 then (spec_keRides.l1 k3 (x9_3 ++ [rd_L1 x8_16 x42_3]) x8_16 (x8_16.length : Int) (wrap64 (x42_3 + 1)) a0_0 l0_1 a0_2 l1_0 a1_1) else (none)) else (spec_keRides.l1 k3 x9_3 x8_16 (x8_16.length : Int) (wrap64 (x42_3 + 1)) a0_0 l0_1 a0_2 l1_0 a1_1)) = some r := H
           have A38 := ak_ A380
           clear A380
           by_cases c39 : t224 = true
           ·
            subst c39
            have H1 : (if x9_3.length < 5864062014805 then (spec_keRides.l1 k3 (x9_3 ++ [rd_L1 x8_16 x42_3]) x8_16 (x8_16.length : Int) (wrap64 (x42_3 + 1)) a0_0 l0_1 a0_2 l1_0 a1_1) else (none)) = some r := by rw [if_pos rfl] at H; exact H
            clear H
            have H := H1
            clear H1
            by_cases c40 : x9_3.length < 5864062014805
            ·
             rw [if_pos c40] at H
             have LMc40 := ak_ c40
             clear c40
             obtain ⟨y225, hy225⟩ : ∃ y_ : List (List Int), y_ = (x9_3 ++ [rd_L1 x8_16 x42_3]) := ⟨_, rfl⟩
             replace H : (spec_keRides.l1 k3 y225 x8_16 (x8_16.length : Int) (wrap64 (x42_3 + 1)) a0_0 l0_1 a0_2 l1_0 a1_1) = some r := by first | (rw [hy225]; exact H) | exact H
             have Ny225 := ak_ hy225
             clear hy225
             have H' := ak_ H
             clear H
             have p223 : 0 ≤ (x42_3 : Int) := odt_ (by assumption)
             have q223 : x42_3 < (x8_16.length : Int) := odt_ (by assumption)
             obtain ⟨ad223, A223_0, c223_0, e223, hx223_0, hl223_0, hi223_0⟩ := at_L1 (Kd.N_reads' HO_40.out).2.2 x42_3 p223 q223
             cases e223
             obtain ⟨ce223, hce223, hMe223, hcc223⟩ := Kd.N_get HO_40.out [] x42_3 p223 (by first | exact q223 | exact odt_ (by assumption) | (have e_ := (Kd.N_reads' HO_40.out).1; omega))
             obtain ⟨ua223_0, uc223_0, rfl, ul223_0, ge223_0⟩ := Kd.FK_slice_open hMe223
             have hv223_0 := hcc223 0 _ rfl
             rw [Nat.add_zero, show ((Kd.slice 3 (Kd.int .i64))).sz = 1 from rfl, Nat.mul_one] at hv223_0
             replace hv223_0 := Option.some.inj (hv223_0.symm.trans hx223_0)
             injection hv223_0 with hva_ hvn_ hvc_
             rw [hva_] at ge223_0
             rw [hvc_] at ul223_0
             have HL223_0 := ak_ (show Kd.V (Kd.int .i64) 3 _ w.heap.size _ _ (rd_L1 x8_16 x42_3) from Kd.V_mk ul223_0 ge223_0)
             clear hva_ hvn_ hvc_ ge223_0 ul223_0 hcc223 hce223
             have HR223_0 := ak_ hi223_0
             have HC223_0 := ak_ hl223_0
             clear hi223_0 hl223_0
             replace p223 := eq_true p223
             replace q223 := eq_true q223
             have hnb41 := NB205_206.out
             have hnc41 := NB206_205.out
             have hcz42_0 : wr.cell? ⟨gb205, 0, none⟩ = some (.int .i64 a0_0) := (blk_cell BK205.out 0).trans rfl
             have hcz42_1 : wr.cell? ⟨gb205, 1, none⟩ = some (.slice A0_1 l0_1.length c0_1) := (blk_cell BK205.out 1).trans rfl
             have hcz42_2 : wr.cell? ⟨gb205, 2, none⟩ = some (.int .i64 a0_2) := (blk_cell BK205.out 2).trans rfl
             have hfz42_0 := blk_frozen BK205.out 0
             have hfz42_1 := blk_frozen BK205.out 1
             have hfz42_2 := blk_frozen BK205.out 2
             have hcz43_0 : wr.cell? ⟨gb206, 0, none⟩ = some (.slice A1_0 l1_0.length c1_0) := (blk_cell BK206.out 0).trans rfl
             have hcz43_1 : wr.cell? ⟨gb206, 1, none⟩ = some (.bool a1_1) := (blk_cell BK206.out 1).trans rfl
             have hfz43_0 := blk_frozen BK206.out 0
             have hfz43_1 := blk_frozen BK206.out 1
             go_wp2_with (first | ((with_reducible refine gate_callee (f := 110) rfl ?_); refine goesL_ (some 49) rfl rfl Try.func110 (by kernel_rfl) rfl #[.agg #[.int .i64 a0_0, .slice A0_1 l0_1.length c0_1, .int .i64 a0_2], .agg #[.slice A1_0 l1_0.length c1_0, .bool a1_1], .slice A223_0 (rd_L1 x8_16 x42_3).length c223_0] rfl (by first | rfl | (simp only [map_toArray, map_cons, map_nil]; try rfl)) ?_; (with_reducible refine (spec_keCan.calls k3 a0_0 _ _ l0_1 a0_2 _ _ l1_0 a1_1 _ _ (rd_L1 x8_16 x42_3) true _ ?side1 ?side2 ?side3 ?side4 ?side5 ?side6 A38.out).mono ?_); (case side1 => repeat (first | exact (Kd.C_below HR0_1.out HB.out) | (with_reducible refine Kd.C_alloc ?_ _) | (with_reducible refine Kd.C_drewN ?_ _) | (with_reducible refine Kd.C_drew ?_))); (case side2 => exact HC0_1.out); (case side3 => repeat (first | exact (Kd.C_below HR1_0.out HB.out) | (with_reducible refine Kd.C_alloc ?_ _) | (with_reducible refine Kd.C_drewN ?_ _) | (with_reducible refine Kd.C_drew ?_))); (case side4 => exact HC1_0.out); (case side5 => repeat (first | exact (by repeat (first | (with_reducible exact HR223_0.out) | (with_reducible refine Kd.C_alloc ?_ _) | (with_reducible refine Kd.C_drewN ?_ _) | (with_reducible refine Kd.C_drew ?_) | exact HR223_0.out)) | (with_reducible refine Kd.C_alloc ?_ _) | (with_reducible refine Kd.C_drewN ?_ _) | (with_reducible refine Kd.C_drew ?_))); (case side6 => exact HC223_0.out); rintro e w44 ⟨rfl, hb⟩; refine ⟨_, rfl, ?_⟩; have n0_ := ak_ (Kd.N_below (Kd.pN HO_9.out) hb); have n1_ := ak_ (Kd.N_below (Kd.pN HO_40.out) hb); have n2_ := ak_ (Kd.V_below (Kd.pV HL223_0.out) hb); have n3_ := ak_ (blk_below (pk BK205.out) hb); have n4_ := ak_ (blk_below (pk BK206.out) hb); have n5_ := ak_ (Kd.C_below (by repeat (first | (with_reducible exact HR223_0.out) | (with_reducible refine Kd.C_alloc ?_ _) | (with_reducible refine Kd.C_drewN ?_ _) | (with_reducible refine Kd.C_drew ?_) | exact HR223_0.out)) hb); have n6_ := ak_ (bs_ bl_ hb); clear HO_9; clear HO_40; clear HL223_0; clear BK205; clear BK206; clear HR223_0; clear HB; have HO_9 := n0_; have HO_40 := n1_; have HL223_0 := n2_; have BK205 := n3_; have BK206 := n4_; have HR223_0 := n5_; have HB := n6_; clear n0_ n1_ n2_ n3_ n4_ n5_ n6_; (try clear hb); (try clear hb2); (try clear hk); (try clear hi)) | ((with_reducible refine gate_builtin (b := .append) (xs := #[.tmp 50, .tmp 52]) rfl ?_); at_builtin; refine Kd.N_append (Kd.slice 3 (Kd.int .i64)) (w0 := w) w.heap.size rfl (.tmp 50) (.tmp 52) 47 29 (.slice none 0 0) 24 rfl Try.underlying47 info29 rfl (by decide) (by omega) u9 x9_3 (rd_L1 x8_16 x42_3) [.slice A223_0 (rd_L1 x8_16 x42_3).length c223_0] (fun k_ => (w.heap.size ≤ k_) ∧ some k_ ≠ (.slice (some ad223) x8_16.length co34 : Value).ownBlock ∧ k_ ≠ gb205 ∧ k_ ≠ gb206) (fun k_ => ((fun k_ => (w.heap.size ≤ k_) ∧ some k_ ≠ (.slice (some ad223) x8_16.length co34 : Value).ownBlock ∧ k_ ≠ gb205 ∧ k_ ≠ gb206)) k_ ∧ some k_ ≠ (u9 : Value).ownBlock) rfl rfl ?aP (fun _ hk => hk) ?aF ?aO ?aB ?aS ?aL ?_; (case aP => exact (Kd.FK_slice_mk (Kd.V_reads' (Kd.V_mono (ok' := (fun k_ => ((fun k_ => (w.heap.size ≤ k_) ∧ some k_ ≠ (.slice (some ad223) x8_16.length co34 : Value).ownBlock ∧ k_ ≠ gb205 ∧ k_ ≠ gb206)) k_ ∧ some k_ ≠ (u9 : Value).ownBlock)) (HL223_0.out) (fun k_ hk => ⟨⟨hk.1.1, ⟨hk.2, ⟨hk.1.2.2.1, hk.1.2.2.2⟩⟩⟩, hk.1.2.1⟩))).2.1 (Kd.V_F (Kd.V_mono (ok' := (fun k_ => ((fun k_ => (w.heap.size ≤ k_) ∧ some k_ ≠ (.slice (some ad223) x8_16.length co34 : Value).ownBlock ∧ k_ ≠ gb205 ∧ k_ ≠ gb206)) k_ ∧ some k_ ≠ (u9 : Value).ownBlock)) (HL223_0.out) (fun k_ hk => ⟨⟨hk.1.1, ⟨hk.2, ⟨hk.1.2.2.1, hk.1.2.2.2⟩⟩⟩, hk.1.2.1⟩))))); (case aB => exact bl_); (case aF => exact (fun k_ hk => ⟨(Nat.le_trans (bz_ bl_) hk), Kd.fresh' (Kd.N_lt (Kd.pN HO_40.out)) k_ hk, Kd.freshB (pk BK205.out) k_ hk, Kd.freshB (pk BK206.out) k_ hk⟩)); (case aO => exact (Kd.pN HO_9.out)); (case aS => exact (bz_ bl_)); (case aL => have := LMc40.out; omega); intro v226 w45 ho hb hg hat; rw [← Ny225.out] at ho; have n0_ := ak_ (Kd.N_afterv (ok := (fun k_ => (w.heap.size ≤ k_) ∧ k_ ≠ gb205 ∧ k_ ≠ gb206)) (by (with_reducible repeat (first | apply Kd.N_alloc | apply Kd.N_drewN | apply Kd.N_drew)); exact Kd.N_mono HO_40.out (fun _ hk => ⟨⟨hk.1, ⟨hk.2.2.1, hk.2.2.2⟩⟩, hk.2.1⟩)) hg hat); have n1_ := ak_ (blk_grown (pk BK205.out) hg (Kd.N_ne HO_9.out BK205.out (by decide))); have n2_ := ak_ (blk_grown (pk BK206.out) hg (Kd.N_ne HO_9.out BK206.out (by decide))); have n3_ := ak_ (Kd.V_afterv (ok := (fun k_ => (w.heap.size ≤ k_) ∧ some k_ ≠ (.slice (some ad223) x8_16.length co34 : Value).ownBlock ∧ k_ ≠ gb205 ∧ k_ ≠ gb206)) (by (with_reducible repeat (first | apply Kd.V_alloc | apply Kd.V_drewN | apply Kd.V_drew)); exact Kd.V_mono HL223_0.out (fun _ hk => ⟨⟨hk.1.1, ⟨hk.2, ⟨hk.1.2.2.1, hk.1.2.2.2⟩⟩⟩, hk.1.2.1⟩)) hg hat); have n4_ := ak_ (hb); have n5_ := ak_ (ho); clear HO_40; clear BK205; clear BK206; clear HL223_0; clear HB; clear HO_9; have HO_40 := n0_; have BK205 := n1_; have BK206 := n2_; have HL223_0 := n3_; have HB := n4_; have HO227 := n5_; clear n0_ n1_ n2_ n3_ n4_ n5_; clear ho hb hg hat))
             go_roundg k3
             case measure => have := HK1.out; have := HJ16.out; have := HK3.out; omega
             case rel => exact ⟨(y225), (wrap64 (x42_3 + 1)), (ry_), H', ⟨by have := HK1.out; have := HJ16.out; have := HK3.out; omega⟩, ⟨Kd.pN HO227.out⟩, ⟨by (with_reducible repeat (first | apply Kd.N_alloc | apply Kd.N_drewN | apply Kd.N_drew)); exact Kd.N_mono HO_40.out (fun _ hk => ⟨hk.1.1, ⟨hk.2, ⟨hk.1.2.1, hk.1.2.2⟩⟩⟩)⟩, ⟨pk BK205.out⟩, ⟨pk BK206.out⟩, ⟨by repeat (first | exact HB.out | apply ba_ | apply bN_ | apply b1_ | refine below_set ?_ (Aside0.out (by assumption)))⟩⟩
            ·
             rw [if_neg c40] at H
             exact absurd H (by simp)
           ·
            replace c39 := Bool.eq_false_iff.mpr c39
            subst c39
            have H1 : (spec_keRides.l1 k3 x9_3 x8_16 (x8_16.length : Int) (wrap64 (x42_3 + 1)) a0_0 l0_1 a0_2 l1_0 a1_1) = some r := by rw [if_neg (show ¬ (false = true) by decide)] at H; exact H
            clear H
            have H := H1
            clear H1
            have H' := ak_ H
            clear H
            have p223 : 0 ≤ (x42_3 : Int) := odt_ (by assumption)
            have q223 : x42_3 < (x8_16.length : Int) := odt_ (by assumption)
            obtain ⟨ad223, A223_0, c223_0, e223, hx223_0, hl223_0, hi223_0⟩ := at_L1 (Kd.N_reads' HO_40.out).2.2 x42_3 p223 q223
            cases e223
            obtain ⟨ce223, hce223, hMe223, hcc223⟩ := Kd.N_get HO_40.out [] x42_3 p223 (by first | exact q223 | exact odt_ (by assumption) | (have e_ := (Kd.N_reads' HO_40.out).1; omega))
            obtain ⟨ua223_0, uc223_0, rfl, ul223_0, ge223_0⟩ := Kd.FK_slice_open hMe223
            have hv223_0 := hcc223 0 _ rfl
            rw [Nat.add_zero, show ((Kd.slice 3 (Kd.int .i64))).sz = 1 from rfl, Nat.mul_one] at hv223_0
            replace hv223_0 := Option.some.inj (hv223_0.symm.trans hx223_0)
            injection hv223_0 with hva_ hvn_ hvc_
            rw [hva_] at ge223_0
            rw [hvc_] at ul223_0
            have HL223_0 := ak_ (show Kd.V (Kd.int .i64) 3 _ w.heap.size _ _ (rd_L1 x8_16 x42_3) from Kd.V_mk ul223_0 ge223_0)
            clear hva_ hvn_ hvc_ ge223_0 ul223_0 hcc223 hce223
            have HR223_0 := ak_ hi223_0
            have HC223_0 := ak_ hl223_0
            clear hi223_0 hl223_0
            replace p223 := eq_true p223
            replace q223 := eq_true q223
            have hnb46 := NB205_206.out
            have hnc46 := NB206_205.out
            have hcz47_0 : wr.cell? ⟨gb205, 0, none⟩ = some (.int .i64 a0_0) := (blk_cell BK205.out 0).trans rfl
            have hcz47_1 : wr.cell? ⟨gb205, 1, none⟩ = some (.slice A0_1 l0_1.length c0_1) := (blk_cell BK205.out 1).trans rfl
            have hcz47_2 : wr.cell? ⟨gb205, 2, none⟩ = some (.int .i64 a0_2) := (blk_cell BK205.out 2).trans rfl
            have hfz47_0 := blk_frozen BK205.out 0
            have hfz47_1 := blk_frozen BK205.out 1
            have hfz47_2 := blk_frozen BK205.out 2
            have hcz48_0 : wr.cell? ⟨gb206, 0, none⟩ = some (.slice A1_0 l1_0.length c1_0) := (blk_cell BK206.out 0).trans rfl
            have hcz48_1 : wr.cell? ⟨gb206, 1, none⟩ = some (.bool a1_1) := (blk_cell BK206.out 1).trans rfl
            have hfz48_0 := blk_frozen BK206.out 0
            have hfz48_1 := blk_frozen BK206.out 1
            go_wp2_with (first | ((with_reducible refine gate_callee (f := 110) rfl ?_); refine goesL_ (some 49) rfl rfl Try.func110 (by kernel_rfl) rfl #[.agg #[.int .i64 a0_0, .slice A0_1 l0_1.length c0_1, .int .i64 a0_2], .agg #[.slice A1_0 l1_0.length c1_0, .bool a1_1], .slice A223_0 (rd_L1 x8_16 x42_3).length c223_0] rfl (by first | rfl | (simp only [map_toArray, map_cons, map_nil]; try rfl)) ?_; (with_reducible refine (spec_keCan.calls k3 a0_0 _ _ l0_1 a0_2 _ _ l1_0 a1_1 _ _ (rd_L1 x8_16 x42_3) false _ ?side1 ?side2 ?side3 ?side4 ?side5 ?side6 A38.out).mono ?_); (case side1 => repeat (first | exact (Kd.C_below HR0_1.out HB.out) | (with_reducible refine Kd.C_alloc ?_ _) | (with_reducible refine Kd.C_drewN ?_ _) | (with_reducible refine Kd.C_drew ?_))); (case side2 => exact HC0_1.out); (case side3 => repeat (first | exact (Kd.C_below HR1_0.out HB.out) | (with_reducible refine Kd.C_alloc ?_ _) | (with_reducible refine Kd.C_drewN ?_ _) | (with_reducible refine Kd.C_drew ?_))); (case side4 => exact HC1_0.out); (case side5 => repeat (first | exact (by repeat (first | (with_reducible exact HR223_0.out) | (with_reducible refine Kd.C_alloc ?_ _) | (with_reducible refine Kd.C_drewN ?_ _) | (with_reducible refine Kd.C_drew ?_) | exact HR223_0.out)) | (with_reducible refine Kd.C_alloc ?_ _) | (with_reducible refine Kd.C_drewN ?_ _) | (with_reducible refine Kd.C_drew ?_))); (case side6 => exact HC223_0.out); rintro e w49 ⟨rfl, hb⟩; refine ⟨_, rfl, ?_⟩; have n0_ := ak_ (Kd.N_below (Kd.pN HO_9.out) hb); have n1_ := ak_ (Kd.N_below (Kd.pN HO_40.out) hb); have n2_ := ak_ (Kd.V_below (Kd.pV HL223_0.out) hb); have n3_ := ak_ (blk_below (pk BK205.out) hb); have n4_ := ak_ (blk_below (pk BK206.out) hb); have n5_ := ak_ (Kd.C_below (by repeat (first | (with_reducible exact HR223_0.out) | (with_reducible refine Kd.C_alloc ?_ _) | (with_reducible refine Kd.C_drewN ?_ _) | (with_reducible refine Kd.C_drew ?_) | exact HR223_0.out)) hb); have n6_ := ak_ (bs_ bl_ hb); clear HO_9; clear HO_40; clear HL223_0; clear BK205; clear BK206; clear HR223_0; clear HB; have HO_9 := n0_; have HO_40 := n1_; have HL223_0 := n2_; have BK205 := n3_; have BK206 := n4_; have HR223_0 := n5_; have HB := n6_; clear n0_ n1_ n2_ n3_ n4_ n5_ n6_; (try clear hb); (try clear hb2); (try clear hk); (try clear hi)))
            go_roundg k3
            case measure => have := HK1.out; have := HJ16.out; have := HK3.out; omega
            case rel => exact ⟨(x9_3), (wrap64 (x42_3 + 1)), (ry_), H', ⟨by have := HK1.out; have := HJ16.out; have := HK3.out; omega⟩, ⟨Kd.pN HO_9.out⟩, ⟨Kd.pN HO_40.out⟩, ⟨pk BK205.out⟩, ⟨pk BK206.out⟩, ⟨by repeat (first | exact HB.out | apply ba_ | apply bN_ | apply b1_ | refine below_set ?_ (Aside0.out (by assumption)))⟩⟩
          ·
           rw [if_neg c37] at H
           exact absurd H (by simp)
         ·
          rw [if_neg c36] at H
          exact absurd H (by simp)
        ·
         rw [if_neg c35] at H
         have c35b0 : decide (x42_3 < (x8_16.length : Int)) = false := decide_eq_false c35
         clear c35
         obtain rfl := Option.some.inj H
         go_wp2
         go_ret
         exact ⟨_, rx_, by (with_reducible repeat (first | apply Kd.N_alloc | apply Kd.N_drewN | apply Kd.N_drew)); exact Kd.N_mono HO_9.out (fun _ hk => hk.1), by repeat (first | exact HB.out | apply ba_ | apply bN_ | apply b1_ | refine below_set ?_ (Aside0.out (by assumption)))⟩
def spec_keEnd.l0 : Nat → Int → Int → List (List Int) → Int → List Bool → Bool → Option (List Bool × Bool)
 | 0, _, _, _, _, _, _ => none
 | k + 1, x4, x252000, x252001, x252002, x254000, x254001 => if x4 < x252000 then (if x254000.length < 140737488355328 then (spec_keEnd.l0 k (wrap64 (x4 + 1)) x252000 x252001 x252002 (x254000 ++ [true]) x254001) else (none)) else (some (x254000, x254001))
def spec_keEnd.f (k : Nat) (a0_0 : Int) (l0_1 : List (List Int)) (a0_2 : Int) : Option (List Bool × Bool) := spec_keEnd.l0 k 0 a0_0 l0_1 a0_2 ([] : List Bool) true
theorem spec_keEnd.mono_l : ∀ k, (∀ y0 y1 y2 y3 y4 y5, LeO (spec_keEnd.l0 k y0 y1 y2 y3 y4 y5) (spec_keEnd.l0 (k + 1) y0 y1 y2 y3 y4 y5))
 | 0 => fun _ _ _ _ _ _ r h => by simp [spec_keEnd.l0] at h
 | k + 1 => by
  have ih0 := spec_keEnd.mono_l k
  ·intro y0 y1 y2 y3 y4 y5
   unfold spec_keEnd.l0
   repeat' first
   | (with_reducible first | exact ih0 _ _ _ _ _ _ | exact LeO.refl _ | exact LeO.none _ | refine LeO.ite ?_ ?_ | refine LeO.bind ?_ (fun _ => ?_))
   | exact ih0 _ _ _ _ _ _
   | exact LeO.none _
   | refine LeO.ite ?_ ?_
   | refine LeO.bind ?_ (fun _ => ?_)
theorem spec_keEnd.mono : ∀ a0 a1 a2 k, LeO (spec_keEnd.f k a0 a1 a2) (spec_keEnd.f (k + 1) a0 a1 a2) := by
 intro a0 a1 a2 k
 have ih0 := spec_keEnd.mono_l k
 unfold spec_keEnd.f
 repeat' first
  | (with_reducible first | exact ih0 _ _ _ _ _ _ | exact LeO.refl _ | exact LeO.none _ | refine LeO.ite ?_ ?_ | refine LeO.bind ?_ (fun _ => ?_))
  | exact ih0 _ _ _ _ _ _
  | exact LeO.none _
  | refine LeO.ite ?_ ?_
  | refine LeO.bind ?_ (fun _ => ?_)
theorem spec_keEnd.calls (k : Nat) (a0_0 : Int) (A0_1 : Option Addr) (c0_1 : Nat) (l0_1 : List (List Int)) (a0_2 : Int) (r1 : List Bool) (r2 : Bool) (w : World) (hr0_1 : Kd.C (Kd.slice 3 (Kd.int .i64)) w A0_1 l0_1.length l0_1) (hc0_1 : l0_1.length ≤ c0_1) (h : spec_keEnd.f k a0_0 l0_1 a0_2 = some (r1, r2)) :
  Calls Try.prog 105 #[.agg #[.int .i64 a0_0, .slice A0_1 l0_1.length c0_1, .int .i64 a0_2]] w fun e w' => ∃ v0_ : Value, e = .returned (.agg #[v0_, .bool r2]) ∧ Kd.R Kd.bool 4 w' w.heap.size (fun _ => True) v0_ r1 ∧ Below w.heap.size w w' := by
 have hu52 := Try.underlying52
 have hu90 := Try.underlying90
 have HR0_1 := ak_ hr0_1
 have HC0_1 := ak_ hc0_1
 clear hr0_1 hc0_1
 have HB := ak_ (Below.refl w.heap.size w)
 have H : (spec_keEnd.l0 k 0 a0_0 l0_1 a0_2 ([] : List Bool) true) = some (r1, r2) := h
 clear h
 have H' := ak_ H
 clear H
 go_enter Try.func105, Try.ntmps105
 go_wp2_with (first | ((with_reducible refine gate_dst (N := 1) rfl ?_); refine bx_ 1 #[.int .i64 a0_0, .slice A0_1 l0_1.length c0_1, .int .i64 a0_2] 52 ?_; intro gb251 hg w2 hbox hb; have n0_ := ak_ (bs_ (bb_ HB.out) hb); have n1_ := ak_ (hbox); have n2_ := ak_ ((by rw [hg]; exact (bz_ (bb_ HB.out)) : w.heap.size ≤ gb251)); have n3_ := n2_; clear HB; have HB := n0_; have BK251 := n1_; have GW251 := n2_; have GE251 := n3_; clear n0_ n1_ n2_ n3_; clear hb hbox hg) | ((with_reducible refine gate_dst (N := 2) rfl ?_); refine bx_ 2 #[.slice none 0 0, .bool false] 90 ?_; intro gb252 hg w3 hbox hb; have n0_ := ak_ (blk_below (pk BK251.out) hb); have n1_ := ak_ (bs_ bl_ hb); have n2_ := ak_ (hbox); have n3_ := ak_ ((by rw [hg]; exact (bz_ bl_) : w.heap.size ≤ gb252)); have n4_ := n3_; have n5_ := ak_ ((by rw [hg]; exact Nat.ne_of_lt (blk_lt (pk BK251.out)) : gb251 ≠ gb252)); have n6_ := ak_ n5_.out.symm; clear BK251; clear HB; have BK251 := n0_; have HB := n1_; have BK252 := n2_; have GW252 := n3_; have GE252 := n4_; have NB251_252 := n5_; have NB252_251 := n6_; clear n0_ n1_ n2_ n3_ n4_ n5_ n6_; clear hb hbox hg) | ((with_reducible refine gate_dst (N := 3) rfl ?_); refine bx_ 3 #[.slice none 0 0, .bool false] 90 ?_; intro gb253 hg w4 hbox hb; have n0_ := ak_ (blk_below (pk BK251.out) hb); have n1_ := ak_ (blk_below (pk BK252.out) hb); have n2_ := ak_ (bs_ bl_ hb); have n3_ := ak_ (hbox); have n4_ := ak_ ((by rw [hg]; exact (bz_ bl_) : w.heap.size ≤ gb253)); have n5_ := n4_; have n6_ := ak_ ((by rw [hg]; exact Nat.ne_of_lt (blk_lt (pk BK251.out)) : gb251 ≠ gb253)); have n7_ := ak_ n6_.out.symm; have n8_ := ak_ ((by rw [hg]; exact Nat.ne_of_lt (blk_lt (pk BK252.out)) : gb252 ≠ gb253)); have n9_ := ak_ n8_.out.symm; clear BK251; clear BK252; clear HB; have BK251 := n0_; have BK252 := n1_; have HB := n2_; have BK253 := n3_; have GW253 := n4_; have GE253 := n5_; have NB251_253 := n6_; have NB253_251 := n7_; have NB252_253 := n8_; have NB253_252 := n9_; clear n0_ n1_ n2_ n3_ n4_ n5_ n6_ n7_ n8_ n9_; clear hb hbox hg; have hnb5 := NB253_251.out; have hnc5 := NB251_253.out; have hnb6 := NB253_252.out; have hnc6 := NB252_253.out; have hcz7_0 : w4.cell? ⟨gb253, 0, none⟩ = some (.slice none 0 0) := (blk_cell BK253.out 0).trans rfl; have hcz7_1 : w4.cell? ⟨gb253, 1, none⟩ = some (.bool false) := (blk_cell BK253.out 1).trans rfl; have hfz7_0 := blk_frozen BK253.out 0; have hfz7_1 := blk_frozen BK253.out 1))
 go_loopg [4] k (fun kq v4 w' => ∃ (x4_1 : Int) (x254000_1 : List Bool) (u254000 : Value), v4 = .int .i64 x4_1 ∧ Aside0 (spec_keEnd.l0 kq x4_1 a0_0 l0_1 a0_2 x254000_1 true = some (r1, r2)) ∧ Aside0 (kq ≤ k) ∧ Aside0 (Kd.R Kd.bool 4 w' w.heap.size (fun _ => True) u254000 x254000_1) ∧ Aside0 (w'.heap[gb251]? = some (.cells #[.int .i64 a0_0, (.slice A0_1 l0_1.length c0_1), .int .i64 a0_2] 52 (0, 0))) ∧ Aside0 (w'.heap[gb252]? = some (.cells #[(.slice none 0 0), .bool false] 90 (0, 0))) ∧ Aside0 (w'.heap[gb253]? = some (.cells #[u254000, .bool true] 90 (0, 0))) ∧ Aside0 (Below w.heap.size w w'))
 case atStart => exact ⟨(0), (([] : List Bool)), (.slice none 0 0), (ry_), H', ⟨Nat.le_refl _⟩, ⟨by first | exact Kd.R_nil _ _ _ _ _ | exact Kd.N_nil _ _ _ _ _ | exact Kd.V_nil _ _ _ _ _ | exact Kd.Q_nil _ _ _ _ _ | exact Kd.S_nil _ _ _ _ _⟩, ⟨by (with_reducible repeat (first | refine kN_ ?_ _ | refine k1_ ?_ | refine ka_ ?_ _)); refine blk_far ?_ NB251_253.out _; (with_reducible repeat (first | refine kN_ ?_ _ | refine k1_ ?_ | refine ka_ ?_ _)); refine blk_far ?_ NB251_253.out _; exact pk BK251.out⟩, ⟨by (with_reducible repeat (first | refine kN_ ?_ _ | refine k1_ ?_ | refine ka_ ?_ _)); refine blk_far ?_ NB252_253.out _; (with_reducible repeat (first | refine kN_ ?_ _ | refine k1_ ?_ | refine ka_ ?_ _)); refine blk_far ?_ NB252_253.out _; exact pk BK252.out⟩, ⟨by (with_reducible repeat (first | refine kN_ ?_ _ | refine k1_ ?_ | refine ka_ ?_ _)); refine blk_put (cs := #[.slice none 0 0, .bool false]) ?_ 1 _ rfl; (with_reducible repeat (first | refine kN_ ?_ _ | refine k1_ ?_ | refine ka_ ?_ _)); refine blk_put (cs := #[.slice none 0 0, .bool false]) ?_ 0 _ rfl; exact pk BK253.out⟩, ⟨by repeat (first | exact HB.out | apply ba_ | apply bN_ | apply b1_ | refine below_set ?_ (Aside0.out (by assumption)))⟩⟩
 case round =>
  clear H'
  try clear c1
  try clear p2
  try clear c5
  try clear c6
  try clear hcz7_0
  try clear hcz7_1
  try clear hfz7_0
  try clear hfz7_1
  obtain ⟨x4_1, x254000_1, u254000, rfl, HA, HK1, HO_254000, BK251, BK252, BK253, HB⟩ := hrel
  cases gk with
  | zero => exact absurd HA.out (by simp [spec_keEnd.l0])
  | succ k1 =>
   have H := HA.out
   clear HA
   simp only [spec_keEnd.l0] at H
   by_cases c8 : x4_1 < a0_0
   ·
    rw [if_pos c8] at H
    have c8b0 : decide (x4_1 < a0_0) = true := decide_eq_true c8
    clear c8
    by_cases c9 : x254000_1.length < 140737488355328
    ·
     rw [if_pos c9] at H
     have LMc9 := ak_ c9
     clear c9
     obtain ⟨y254, hy254⟩ : ∃ y_ : List Bool, y_ = (x254000_1 ++ [true]) := ⟨_, rfl⟩
     replace H : (spec_keEnd.l0 k1 (wrap64 (x4_1 + 1)) a0_0 l0_1 a0_2 y254 true) = some (r1, r2) := by first | (rw [hy254]; exact H) | exact H
     have Ny254 := ak_ hy254
     clear hy254
     have H' := ak_ H
     clear H
     have hnb10 := NB251_252.out
     have hnc10 := NB252_251.out
     have hnb11 := NB251_253.out
     have hnc11 := NB253_251.out
     have hcz12_0 : wr.cell? ⟨gb251, 0, none⟩ = some (.int .i64 a0_0) := (blk_cell BK251.out 0).trans rfl
     have hcz12_1 : wr.cell? ⟨gb251, 1, none⟩ = some (.slice A0_1 l0_1.length c0_1) := (blk_cell BK251.out 1).trans rfl
     have hcz12_2 : wr.cell? ⟨gb251, 2, none⟩ = some (.int .i64 a0_2) := (blk_cell BK251.out 2).trans rfl
     have hfz12_0 := blk_frozen BK251.out 0
     have hfz12_1 := blk_frozen BK251.out 1
     have hfz12_2 := blk_frozen BK251.out 2
     have hnb13 := NB253_252.out
     have hnc13 := NB252_253.out
     have hcz14_0 : wr.cell? ⟨gb253, 0, none⟩ = some (u254000) := (blk_cell BK253.out 0).trans rfl
     have hcz14_1 : wr.cell? ⟨gb253, 1, none⟩ = some (.bool true) := (blk_cell BK253.out 1).trans rfl
     have hfz14_0 := blk_frozen BK253.out 0
     have hfz14_1 := blk_frozen BK253.out 1
     go_wp2_with (first | ((with_reducible refine gate_builtin (b := .append) (xs := #[.tmp 13, .tmp 14]) rfl ?_); at_builtin; refine Kd.R_append Kd.bool (w0 := w) w.heap.size rfl (.tmp 13) (.tmp 14) 38 4 (.bool false) 1 rfl Try.underlying38 info4 rfl (by decide) (by omega) u254000 x254000_1 true [.bool true] (fun _ => True) (fun _ => False) rfl rfl ?aP (fun _ hk => hk.elim) ?aF ?aO ?aB ?aS ?aL ?_; (case aP => exact rfl); (case aB => exact bl_); (case aF => exact (fun _ _ => trivial)); (case aO => exact (Kd.pR HO_254000.out)); (case aS => exact (bz_ bl_)); (case aL => have := LMc9.out; omega); intro v255 w15 ho hb hg hat; rw [← Ny254.out] at ho; have n0_ := ak_ (blk_grown (pk BK251.out) hg (Kd.R_ne HO_254000.out BK251.out (by decide))); have n1_ := ak_ (blk_grown (pk BK252.out) hg (Kd.R_ne HO_254000.out BK252.out (by decide))); have n2_ := ak_ (blk_grown (pk BK253.out) hg (Kd.R_ne HO_254000.out BK253.out (by decide))); have n3_ := ak_ (hb); have n4_ := ak_ (ho); clear BK251; clear BK252; clear BK253; clear HB; clear HO_254000; have BK251 := n0_; have BK252 := n1_; have BK253 := n2_; have HB := n3_; have HO256 := n4_; clear n0_ n1_ n2_ n3_ n4_; clear ho hb hg hat; obtain ⟨Ao16, co16, eo16⟩ := Kd.R_slice HO256.out; subst eo16; have hcz17_0 : w15.cell? ⟨gb253, 0, none⟩ = some (u254000) := (blk_cell BK253.out 0).trans rfl; have hcz17_1 : w15.cell? ⟨gb253, 1, none⟩ = some (.bool true) := (blk_cell BK253.out 1).trans rfl; have hfz17_0 := blk_frozen BK253.out 0; have hfz17_1 := blk_frozen BK253.out 1))
     go_roundg k1
     case measure => have := HK1.out; omega
     case rel => exact ⟨(wrap64 (x4_1 + 1)), (y254), (.slice Ao16 y254.length co16), (ry_), H', ⟨by have := HK1.out; omega⟩, ⟨by (with_reducible repeat (first | apply Kd.R_alloc | apply Kd.R_drewN | apply Kd.R_drew)); exact Kd.R_mono (Kd.R_far (p := ⟨gb253, 0, none⟩) (Kd.R_types HO256.out BK253.out (by decide)) (fun _ hk => hk.2) (.slice Ao16 y254.length co16)) (fun _ hk => trivial)⟩, ⟨by (with_reducible repeat (first | refine kN_ ?_ _ | refine k1_ ?_ | refine ka_ ?_ _)); refine blk_far ?_ NB251_253.out _; exact pk BK251.out⟩, ⟨by (with_reducible repeat (first | refine kN_ ?_ _ | refine k1_ ?_ | refine ka_ ?_ _)); refine blk_far ?_ NB252_253.out _; exact pk BK252.out⟩, ⟨by (with_reducible repeat (first | refine kN_ ?_ _ | refine k1_ ?_ | refine ka_ ?_ _)); refine blk_put (cs := #[u254000, .bool true]) ?_ 0 _ rfl; exact pk BK253.out⟩, ⟨by repeat (first | exact HB.out | apply ba_ | apply bN_ | apply b1_ | refine below_set ?_ (Aside0.out (by assumption)))⟩⟩
    ·
     rw [if_neg c9] at H
     exact absurd H (by simp)
   ·
    rw [if_neg c8] at H
    have c8b0 : decide (x4_1 < a0_0) = false := decide_eq_false c8
    clear c8
    simp only [Option.some.injEq, Prod.mk.injEq] at H
    obtain ⟨rfl, rfl⟩ := H
    have hnb18 := NB251_252.out
    have hnc18 := NB252_251.out
    have hnb19 := NB251_253.out
    have hnc19 := NB253_251.out
    have hcz20_0 : wr.cell? ⟨gb251, 0, none⟩ = some (.int .i64 a0_0) := (blk_cell BK251.out 0).trans rfl
    have hcz20_1 : wr.cell? ⟨gb251, 1, none⟩ = some (.slice A0_1 l0_1.length c0_1) := (blk_cell BK251.out 1).trans rfl
    have hcz20_2 : wr.cell? ⟨gb251, 2, none⟩ = some (.int .i64 a0_2) := (blk_cell BK251.out 2).trans rfl
    have hfz20_0 := blk_frozen BK251.out 0
    have hfz20_1 := blk_frozen BK251.out 1
    have hfz20_2 := blk_frozen BK251.out 2
    have hnb21 := NB253_252.out
    have hnc21 := NB252_253.out
    have hcz22_0 : wr.cell? ⟨gb253, 0, none⟩ = some (u254000) := (blk_cell BK253.out 0).trans rfl
    have hcz22_1 : wr.cell? ⟨gb253, 1, none⟩ = some (.bool true) := (blk_cell BK253.out 1).trans rfl
    have hfz22_0 := blk_frozen BK253.out 0
    have hfz22_1 := blk_frozen BK253.out 1
    obtain ⟨Ao23, co23, eo23⟩ := Kd.R_slice HO_254000.out
    subst eo23
    have hcz24_0 : wr.cell? ⟨gb252, 0, none⟩ = some (.slice none 0 0) := (blk_cell BK252.out 0).trans rfl
    have hcz24_1 : wr.cell? ⟨gb252, 1, none⟩ = some (.bool false) := (blk_cell BK252.out 1).trans rfl
    have hfz24_0 := blk_frozen BK252.out 0
    have hfz24_1 := blk_frozen BK252.out 1
    go_wp2
    refine bodyPost_ret (results_cell_row rfl _ _ gb252 90 #[.slice Ao23 x254000_1.length co23, .bool true] (0, 0) _ rfl (by (with_reducible repeat (first | refine kN_ ?_ _ | refine k1_ ?_ | refine ka_ ?_ _)); refine blk_put (cs := #[.slice Ao23 x254000_1.length co23, .bool false]) ?_ 1 _ rfl; (with_reducible repeat (first | refine kN_ ?_ _ | refine k1_ ?_ | refine ka_ ?_ _)); refine blk_put (cs := #[.slice none 0 0, .bool false]) ?_ 0 _ rfl; exact pk BK252.out) Try.underlying90 rfl (by kernel_rfl)) rfl ?_
    exact ⟨_, rx_, by (with_reducible repeat (first | apply Kd.R_alloc | apply Kd.R_drewN | apply Kd.R_drew)); exact Kd.R_mono (Kd.R_far (p := ⟨gb252, 1, none⟩) (Kd.R_far (p := ⟨gb252, 0, none⟩) (Kd.R_types HO_254000.out BK252.out (by decide)) (fun _ hk => hk.2) (.slice Ao23 x254000_1.length co23)) (fun _ hk => hk.2) (.bool true)) (fun _ hk => trivial), by repeat (first | exact HB.out | apply ba_ | apply bN_ | apply b1_ | refine below_set ?_ (Aside0.out (by assumption)))⟩
end Go.Proofs.Ythkchdfkeieabaa.QGr
