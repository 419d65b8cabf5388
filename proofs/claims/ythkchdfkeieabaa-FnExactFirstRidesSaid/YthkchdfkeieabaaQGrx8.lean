/- Contracts of functions of the given program, walked. Conditions: those at each theorem. -/
import Derived.Test.YthkchdfkeieabaaQGrx0
import Derived.Test.YthkchdfkeieabaaQGrx4
namespace Go.Proofs.Ythkchdfkeieabaa.QGr
open Go.RowKit Go.Proofs.YthkchdfkeieabaaW.PrintWords Go.Proofs.YthkchdfkeieabaaW.PrintLast Go.Proofs.YthkchdfkeieabaaW.PrintMore
open List (setIfInBounds_toArray set_cons_zero set_cons_succ map_toArray map_cons map_nil)
attribute [local go_sem] max2_int min2_int max_two min_two max_three min_three max_four min_four
set_option linter.unusedVariables false
set_option maxHeartbeats 8000000
set_option maxRecDepth 100000
set_option linter.unusedSimpArgs false
mutual
def spec_keRides.l0 : Nat → List Int → List Bool → Int → Int → Int → List (List Int) → Int → List Bool → Bool → Option ((List (List Int)))
 | 0, _, _, _, _, _, _, _, _, _ => none
 | k + 1, x5, x13, x14, x15, x237000, x237001, x237002, x238000, x238001 => if x15 < x14 then (if 0 ≤ x15 then (if x15 < (x13.length : Int) then (if ((rdOf false x13 x15) == x238001) = true then (if x5.length < 17592186044416 then (spec_keRides.l0 k (x5 ++ [x15]) x13 x14 (wrap64 (x15 + 1)) x237000 x237001 x237002 x238000 x238001) else (none)) else (spec_keRides.l0 k x5 x13 x14 (wrap64 (x15 + 1)) x237000 x237001 x237002 x238000 x238001)) else (none)) else (none)) else ((some (([(([] : List Int))] : List (List Int)) : List (List Int))).bind fun y245 => (if x237002 > 0 then ((spec_paGroups.f k x5 ([] : List Int) 0 x237002).bind fun t248 => (if y245.length + t248.length < 5864062014805 then (spec_keRides.j1 k (y245 ++ t248) x237000 x237001 x237002 x238000 x238001) else (none))) else (spec_keRides.j1 k y245 x237000 x237001 x237002 x238000 x238001)))
def spec_keRides.j1 : Nat → List (List Int) → Int → List (List Int) → Int → List Bool → Bool → Option ((List (List Int)))
 | 0, _, _, _, _, _, _ => none
 | k + 1, x8, x237000, x237001, x237002, x238000, x238001 => spec_keRides.l1 k ([] : List (List Int)) x8 (x8.length : Int) 0 x237000 x237001 x237002 x238000 x238001
def spec_keRides.l1 : Nat → List (List Int) → List (List Int) → Int → Int → Int → List (List Int) → Int → List Bool → Bool → Option ((List (List Int)))
 | 0, _, _, _, _, _, _, _, _, _ => none
 | k + 1, x9, x40, x41, x42, x237000, x237001, x237002, x238000, x238001 => if x42 < x41 then (if 0 ≤ x42 then (if x42 < (x40.length : Int) then ((spec_keCan.f k x237000 x237001 x237002 x238000 x238001 (rd_L1 x40 x42)).bind fun t255 => (if t255 = true then (if x9.length < 5864062014805 then (spec_keRides.l1 k (x9 ++ [rd_L1 x40 x42]) x40 x41 (wrap64 (x42 + 1)) x237000 x237001 x237002 x238000 x238001) else (none)) else (spec_keRides.l1 k x9 x40 x41 (wrap64 (x42 + 1)) x237000 x237001 x237002 x238000 x238001))) else (none)) else (none)) else (some x9)
end
def spec_keRides.f (k : Nat) (a0_0 : Int) (l0_1 : List (List Int)) (a0_2 : Int) (l1_0 : List Bool) (a1_1 : Bool) : Option ((List (List Int))) := spec_keRides.l0 k ([] : List Int) l1_0 (l1_0.length : Int) 0 a0_0 l0_1 a0_2 l1_0 a1_1
theorem spec_keRides.mono_l : ∀ k, (∀ y0 y1 y2 y3 y4 y5 y6 y7 y8, LeO (spec_keRides.l0 k y0 y1 y2 y3 y4 y5 y6 y7 y8) (spec_keRides.l0 (k + 1) y0 y1 y2 y3 y4 y5 y6 y7 y8)) ∧ (∀ y0 y1 y2 y3 y4 y5, LeO (spec_keRides.j1 k y0 y1 y2 y3 y4 y5) (spec_keRides.j1 (k + 1) y0 y1 y2 y3 y4 y5)) ∧ (∀ y0 y1 y2 y3 y4 y5 y6 y7 y8, LeO (spec_keRides.l1 k y0 y1 y2 y3 y4 y5 y6 y7 y8) (spec_keRides.l1 (k + 1) y0 y1 y2 y3 y4 y5 y6 y7 y8))
 | 0 => ⟨fun _ _ _ _ _ _ _ _ _ r h => by simp [spec_keRides.l0] at h, fun _ _ _ _ _ _ r h => by simp [spec_keRides.j1] at h, fun _ _ _ _ _ _ _ _ _ r h => by simp [spec_keRides.l1] at h⟩
 | k + 1 => by
  obtain ⟨ih0, ih1, ih2⟩ := spec_keRides.mono_l k
  refine ⟨?_, ?_, ?_⟩
  ·intro y0 y1 y2 y3 y4 y5 y6 y7 y8
   unfold spec_keRides.l0
   repeat' first
   | (with_reducible first | exact ih0 _ _ _ _ _ _ _ _ _ | exact ih1 _ _ _ _ _ _ | exact ih2 _ _ _ _ _ _ _ _ _ | exact spec_keCan.mono _ _ _ _ _ _ _ | exact spec_paGroups.mono _ _ _ _ _ | exact LeO.refl _ | exact LeO.none _ | refine LeO.ite ?_ ?_ | refine LeO.bind ?_ (fun _ => ?_))
  ·intro y0 y1 y2 y3 y4 y5
   unfold spec_keRides.j1
   repeat' first
   | (with_reducible first | exact ih0 _ _ _ _ _ _ _ _ _ | exact ih1 _ _ _ _ _ _ | exact ih2 _ _ _ _ _ _ _ _ _ | exact spec_keCan.mono _ _ _ _ _ _ _ | exact spec_paGroups.mono _ _ _ _ _ | exact LeO.refl _ | exact LeO.none _ | refine LeO.ite ?_ ?_ | refine LeO.bind ?_ (fun _ => ?_))
  ·intro y0 y1 y2 y3 y4 y5 y6 y7 y8
   unfold spec_keRides.l1
   repeat' first
   | (with_reducible first | exact ih0 _ _ _ _ _ _ _ _ _ | exact ih1 _ _ _ _ _ _ | exact ih2 _ _ _ _ _ _ _ _ _ | exact spec_keCan.mono _ _ _ _ _ _ _ | exact spec_paGroups.mono _ _ _ _ _ | exact LeO.refl _ | exact LeO.none _ | refine LeO.ite ?_ ?_ | refine LeO.bind ?_ (fun _ => ?_))
theorem spec_keRides.mono : ∀ a0 a1 a2 a3 a4 k, LeO (spec_keRides.f k a0 a1 a2 a3 a4) (spec_keRides.f (k + 1) a0 a1 a2 a3 a4) := by
 intro a0 a1 a2 a3 a4 k
 obtain ⟨ih0, ih1, ih2⟩ := spec_keRides.mono_l k
 unfold spec_keRides.f
 repeat' first
  | (with_reducible first | exact ih0 _ _ _ _ _ _ _ _ _ | exact ih1 _ _ _ _ _ _ | exact ih2 _ _ _ _ _ _ _ _ _ | exact spec_keCan.mono _ _ _ _ _ _ _ | exact spec_paGroups.mono _ _ _ _ _ | exact LeO.refl _ | exact LeO.none _ | refine LeO.ite ?_ ?_ | refine LeO.bind ?_ (fun _ => ?_))
theorem spec_keRides.calls (k : Nat) (a0_0 : Int) (A0_1 : Option Addr) (c0_1 : Nat) (l0_1 : List (List Int)) (a0_2 : Int) (A1_0 : Option Addr) (c1_0 : Nat) (l1_0 : List Bool) (a1_1 : Bool) (r : List (List Int)) (w : World) (hr0_1 : Kd.C (Kd.slice 3 (Kd.int .i64)) w A0_1 l0_1.length l0_1) (hc0_1 : l0_1.length ≤ c0_1) (hr1_0 : Kd.C Kd.bool w A1_0 l1_0.length l1_0) (hc1_0 : l1_0.length ≤ c1_0) (h : spec_keRides.f k a0_0 l0_1 a0_2 l1_0 a1_1 = some r) :
  Calls Try.prog 74 #[.agg #[.int .i64 a0_0, .slice A0_1 l0_1.length c0_1, .int .i64 a0_2], .agg #[.slice A1_0 l1_0.length c1_0, .bool a1_1]] w fun e w' => ∃ v0_ : Value, e = .returned (v0_) ∧ Kd.N (Kd.slice 3 (Kd.int .i64)) 29 w' w.heap.size (fun k_ => (w.heap.size ≤ k_)) v0_ r ∧ Below w.heap.size w w' := by
 have hu52 := Try.underlying52
 have hu90 := Try.underlying90
 have HR0_1 := ak_ hr0_1
 have HC0_1 := ak_ hc0_1
 clear hr0_1 hc0_1
 have HR1_0 := ak_ hr1_0
 have HC1_0 := ak_ hc1_0
 clear hr1_0 hc1_0
 have HB := ak_ (Below.refl w.heap.size w)
 have H : (spec_keRides.l0 k ([] : List Int) l1_0 (l1_0.length : Int) 0 a0_0 l0_1 a0_2 l1_0 a1_1) = some r := h
 clear h
 have H' := ak_ H
 clear H
 go_enter Try.func74, Try.ntmps74
 go_wp2_with (first | ((with_reducible refine gate_dst (N := 2) rfl ?_); refine bx_ 2 #[.int .i64 a0_0, .slice A0_1 l0_1.length c0_1, .int .i64 a0_2] 52 ?_; intro gb236 hg w3 hbox hb; have n0_ := ak_ (bs_ (bb_ HB.out) hb); have n1_ := ak_ (hbox); have n2_ := ak_ ((by rw [hg]; exact (bz_ (bb_ HB.out)) : w.heap.size ≤ gb236)); have n3_ := n2_; clear HB; have HB := n0_; have BK236 := n1_; have GW236 := n2_; have GE236 := n3_; clear n0_ n1_ n2_ n3_; clear hb hbox hg) | ((with_reducible refine gate_dst (N := 3) rfl ?_); refine bx_ 3 #[.slice A1_0 l1_0.length c1_0, .bool a1_1] 90 ?_; intro gb237 hg w4 hbox hb; have n0_ := ak_ (blk_below (pk BK236.out) hb); have n1_ := ak_ (bs_ bl_ hb); have n2_ := ak_ (hbox); have n3_ := ak_ ((by rw [hg]; exact (bz_ bl_) : w.heap.size ≤ gb237)); have n4_ := n3_; have n5_ := ak_ ((by rw [hg]; exact Nat.ne_of_lt (blk_lt (pk BK236.out)) : gb236 ≠ gb237)); have n6_ := ak_ n5_.out.symm; clear BK236; clear HB; have BK236 := n0_; have HB := n1_; have BK237 := n2_; have GW237 := n3_; have GE237 := n4_; have NB236_237 := n5_; have NB237_236 := n6_; clear n0_ n1_ n2_ n3_ n4_ n5_ n6_; clear hb hbox hg; have hnb5 := NB237_236.out; have hnc5 := NB236_237.out; obtain ⟨hcz6_0, hcz6_1, hfz6_0, hfz6_1⟩ := c2_ BK237.out))
 go_loopg [5, 15] k (fun kq v5 v15 w' => ∃ (x5_1 : List Int) (x15_1 : Int), v15 = .int .i64 x15_1 ∧ Aside0 (spec_keRides.l0 kq x5_1 l1_0 (l1_0.length : Int) x15_1 a0_0 l0_1 a0_2 l1_0 a1_1 = some r) ∧ Aside0 (kq ≤ k) ∧ Aside0 (Kd.R (Kd.int .i64) 3 w' w.heap.size (fun k_ => (w.heap.size ≤ k_)) v5 x5_1) ∧ Aside0 (w'.heap[gb236]? = some (.cells #[.int .i64 a0_0, (.slice A0_1 l0_1.length c0_1), .int .i64 a0_2] 52 (0, 0))) ∧ Aside0 (w'.heap[gb237]? = some (.cells #[(.slice A1_0 l1_0.length c1_0), .bool a1_1] 90 (0, 0))) ∧ Aside0 (Below w.heap.size w w'))
 case atStart => exact ⟨(([] : List Int)), (0), (ry_), H', ⟨Nat.le_refl _⟩, ⟨by first | exact Kd.R_nil _ _ _ _ _ | exact Kd.N_nil _ _ _ _ _ | exact Kd.V_nil _ _ _ _ _ | exact Kd.Q_nil _ _ _ _ _ | exact Kd.S_nil _ _ _ _ _⟩, ⟨pk BK236.out⟩, ⟨pk BK237.out⟩, ⟨by repeat (first | exact HB.out | apply ba_ | apply bN_ | apply b1_ | refine below_set ?_ (Aside0.out (by assumption)))⟩⟩
 case round =>
  clear H'
  try clear c1
  try clear p2
  try clear c5
  try clear hcz6_0
  try clear hcz6_1
  try clear hfz6_0
  try clear hfz6_1
  obtain ⟨x5_1, x15_1, rfl, HA, HK1, HO_5, BK236, BK237, HB⟩ := hrel
  cases gk with
  | zero => exact absurd HA.out (by simp [spec_keRides.l0])
  | succ k1 =>
   have H := HA.out
   clear HA
   simp only [spec_keRides.l0] at H
   by_cases c7 : x15_1 < (l1_0.length : Int)
   ·
    rw [if_pos c7] at H
    have c7b0 : decide (x15_1 < (l1_0.length : Int)) = true := decide_eq_true c7
    clear c7
    by_cases c8 : 0 ≤ x15_1
    ·
     rw [if_pos c8] at H
     have c8b0 : decide (0 ≤ x15_1) = true := decide_eq_true c8
     clear c8
     by_cases c9 : x15_1 < (l1_0.length : Int)
     ·
      rw [if_pos c9] at H
      have c9b0 : decide (x15_1 < (l1_0.length : Int)) = true := decide_eq_true c9
      clear c9
      by_cases c10 : ((rdOf false l1_0 x15_1) == a1_1) = true
      ·
       rw [if_pos c10] at H
       have c10b0 : ((rdOf false l1_0 x15_1) == a1_1) = true := c10
       (try (have c10b1 : decide ((rdOf false l1_0 x15_1) = a1_1) = true := by simpa using c10))
       (try (have c10b2 : ((rdOf false l1_0 x15_1) == a1_1) = true := by simpa using c10))
       clear c10
       by_cases c11 : x5_1.length < 17592186044416
       ·
        rw [if_pos c11] at H
        have LMc11 := ak_ c11
        clear c11
        obtain ⟨y239, hy239⟩ : ∃ y_ : List Int, y_ = (x5_1 ++ [x15_1]) := ⟨_, rfl⟩
        replace H : (spec_keRides.l0 k1 y239 l1_0 (l1_0.length : Int) (wrap64 (x15_1 + 1)) a0_0 l0_1 a0_2 l1_0 a1_1) = some r := by first | (rw [hy239]; exact H) | exact H
        have Ny239 := ak_ hy239
        clear hy239
        have H' := ak_ H
        clear H
        have p238 : 0 ≤ (x15_1 : Int) := odt_ (by assumption)
        have q238 : x15_1 < (l1_0.length : Int) := odt_ (by assumption)
        obtain ⟨ad238, e238, hx238_0⟩ := Kd.at_bool HR1_0.out x15_1 p238 q238
        cases e238
        try replace hx238_0 := (HB.out.cell (World.block_lt_of_cell? w _ hx238_0)).trans hx238_0
        replace p238 := eq_true p238
        replace q238 := eq_true q238
        have hnb12 := NB237_236.out
        have hnc12 := NB236_237.out
        obtain ⟨hcz13_0, hcz13_1, hfz13_0, hfz13_1⟩ := c2_ BK237.out
        go_wp2_with (first | ((with_reducible refine gate_builtin (b := .append) (xs := #[.tmp 24, .tmp 26]) rfl ?_); at_builtin; refine Kd.R_append (Kd.int .i64) (w0 := w) w.heap.size rfl (.tmp 24) (.tmp 26) 29 3 (.int .i64 0) 8 rfl Try.underlying29 info3 rfl (by decide) (by omega) u5 x5_1 x15_1 [.int .i64 x15_1] (fun k_ => (w.heap.size ≤ k_)) (fun _ => False) rfl rfl ?aP (fun _ hk => hk.elim) ?aF ?aO ?aB ?aS ?aL ?_; (case aP => exact rfl); (case aB => exact bl_); (case aF => exact (fun k_ hk => (Nat.le_trans (bz_ bl_) hk))); (case aO => exact (Kd.pR HO_5.out)); (case aS => exact (bz_ bl_)); (case aL => have := LMc11.out; omega); intro v240 w14 ho hb hg hat; rw [← Ny239.out] at ho; have n0_ := ak_ (blk_grown (pk BK236.out) hg (Kd.R_ne HO_5.out BK236.out (by decide))); have n1_ := ak_ (blk_grown (pk BK237.out) hg (Kd.R_ne HO_5.out BK237.out (by decide))); have n2_ := ak_ (hb); have n3_ := ak_ (ho); clear BK236; clear BK237; clear HB; clear HO_5; have BK236 := n0_; have BK237 := n1_; have HB := n2_; have HO241 := n3_; clear n0_ n1_ n2_ n3_; clear ho hb hg hat))
        go_roundg k1
        case measure => have := HK1.out; omega
        case rel => exact ⟨(y239), (wrap64 (x15_1 + 1)), (ry_), H', ⟨by have := HK1.out; omega⟩, ⟨Kd.pR HO241.out⟩, ⟨pk BK236.out⟩, ⟨pk BK237.out⟩, ⟨by repeat (first | exact HB.out | apply ba_ | apply bN_ | apply b1_ | refine below_set ?_ (Aside0.out (by assumption)))⟩⟩
       ·
        rw [if_neg c11] at H
        exact absurd H (by simp)
      ·
       rw [if_neg c10] at H
       have c10b0 : ((rdOf false l1_0 x15_1) == a1_1) = false := by simpa using c10
       (try (have c10b1 : decide ((rdOf false l1_0 x15_1) = a1_1) = false := by simpa using c10))
       (try (have c10b2 : ((rdOf false l1_0 x15_1) == a1_1) = false := by simpa using c10))
       (try (have c10b3 : ¬ ((rdOf false l1_0 x15_1) = a1_1) := by simpa using c10))
       clear c10
       have H' := ak_ H
       clear H
       have p238 : 0 ≤ (x15_1 : Int) := odt_ (by assumption)
       have q238 : x15_1 < (l1_0.length : Int) := odt_ (by assumption)
       obtain ⟨ad238, e238, hx238_0⟩ := Kd.at_bool HR1_0.out x15_1 p238 q238
       cases e238
       try replace hx238_0 := (HB.out.cell (World.block_lt_of_cell? w _ hx238_0)).trans hx238_0
       replace p238 := eq_true p238
       replace q238 := eq_true q238
       have hnb15 := NB237_236.out
       have hnc15 := NB236_237.out
       obtain ⟨hcz16_0, hcz16_1, hfz16_0, hfz16_1⟩ := c2_ BK237.out
       go_wp2
       go_roundg k1
       case measure => have := HK1.out; omega
       case rel => exact ⟨(x5_1), (wrap64 (x15_1 + 1)), (ry_), H', ⟨by have := HK1.out; omega⟩, ⟨Kd.pR HO_5.out⟩, ⟨pk BK236.out⟩, ⟨pk BK237.out⟩, ⟨by repeat (first | exact HB.out | apply ba_ | apply bN_ | apply b1_ | refine below_set ?_ (Aside0.out (by assumption)))⟩⟩
     ·
      rw [if_neg c9] at H
      exact absurd H (by simp)
    ·
     rw [if_neg c8] at H
     exact absurd H (by simp)
   ·
    rw [if_neg c7] at H
    have c7b0 : decide (x15_1 < (l1_0.length : Int)) = false := decide_eq_false c7
    clear c7
    obtain ⟨y242, hy242⟩ : ∃ y_ : List Int, y_ = (([] : List Int)) := ⟨_, rfl⟩
    replace H : ((some (([y242] : List (List Int)) : List (List Int))).bind fun y245 => (if a0_2 > 0 then ((spec_paGroups.f k1 x5_1 ([] : List Int) 0 a0_2).bind fun t248 => (if y245.length + t248.length < 5864062014805 then (spec_keRides.j1 k1 (y245 ++ t248) a0_0 l0_1 a0_2 l1_0 a1_1) else (none))) else (spec_keRides.j1 k1 y245 a0_0 l0_1 a0_2 l1_0 a1_1))) = some r := by first | (rw [hy242]; exact H) | exact H
    have Ny242 := ak_ hy242
    clear hy242
    obtain ⟨y245, hy245⟩ : ∃ y_ : List (List Int), y_ = (([y242] : List (List Int))) := ⟨_, rfl⟩
    replace H : (if a0_2 > 0 then ((spec_paGroups.f k1 x5_1 ([] : List Int) 0 a0_2).bind fun t248 => (if y245.length + t248.length < 5864062014805 then (spec_keRides.j1 k1 (y245 ++ t248) a0_0 l0_1 a0_2 l1_0 a1_1) else (none))) else (spec_keRides.j1 k1 y245 a0_0 l0_1 a0_2 l1_0 a1_1)) = some r := by first | (rw [hy245]; exact H) | exact H
    have Ny245 := ak_ hy245
    clear hy245
    have HC17 := ak_ H
    clear H
    go_upto_if 33 with (first | ((with_reducible refine gate_dst (N := 29) rfl ?_); refine Kd.R_lit (Kd.int .i64) _ 3 ?hg (N := 29) ?hd (xs := ([] : List Int)) (inner := []) (ok := fun _ => True) (okp := fun _ => True) ?hr ?hp (fun _ hk => hk) trivial (Below.refl _ _) (Nat.le_refl _) (by simp) ?_; (case hd => rfl); (case hg => rfl); (case hr => go_simp <;> rfl); (case hp => exact (Reps.none _ _)); intro v243 w18 ho19 hb hg_ hnew_; clear hg_ hnew_; (first | rw [← Ny242.out] at ho19 | (simp only [Int.reduceToNat] at ho19; rw [← Ny242.out] at ho19)); have n0_ := ak_ (Kd.R_elder' (Kd.pR HO_5.out) (Kd.R_base ho19) hb); have n1_ := ak_ (Kd.R_lower (Kd.R_new' (Kd.R_newM (M := fun k_ => (w.heap.size ≤ k_)) ho19 (bz_ bl_) (fun k_ h_ => h_)) (Kd.R_lt (Kd.pR HO_5.out))) (bz_ bl_)); have n2_ := ak_ (blk_below (pk BK236.out) hb); have n3_ := ak_ (blk_below (pk BK237.out) hb); have n4_ := ak_ (bs_ bl_ hb); clear HO_5; clear BK236; clear BK237; clear HB; have HO_5 := n0_; have HO244 := n1_; have BK236 := n2_; have BK237 := n3_; have HB := n4_; clear n0_ n1_ n2_ n3_ n4_; clear hb ho19; obtain ⟨Ao20, co20, eo20⟩ := Kd.R_slice HO244.out; subst eo20) | ((with_reducible refine gate_dst (N := 30) rfl ?_); refine Kd.N_lit (Kd.slice 3 (Kd.int .i64)) _ 29 ?hg (N' := 30) ?hd (xs := ([y242] : List (List Int))) (inner := [.slice Ao20 y242.length co20]) (ok := (fun k_ => (w.heap.size ≤ k_) ∧ some k_ ≠ (u5 : Value).ownBlock ∧ k_ ≠ gb236 ∧ k_ ≠ gb237)) (okp := (fun k_ => (w.heap.size ≤ k_) ∧ some k_ ≠ (u5 : Value).ownBlock ∧ k_ ≠ gb236 ∧ k_ ≠ gb237)) ?hr ?hp (fun _ hk => hk) ((show ∀ k_, w18.heap.size ≤ k_ → (fun k_ => (w.heap.size ≤ k_) ∧ some k_ ≠ (u5 : Value).ownBlock ∧ k_ ≠ gb236 ∧ k_ ≠ gb237) k_ from fun k_ hk => ⟨(Nat.le_trans (bz_ bl_) hk), Kd.fresh' (Kd.R_lt (Kd.pR HO_5.out)) k_ hk, Kd.freshB (pk BK236.out) k_ hk, Kd.freshB (pk BK237.out) k_ hk⟩) _ (Nat.le_refl _)) (Below.refl _ _) (Nat.le_refl _) (by simp) ?_; (case hd => rfl); (case hg => rfl); (case hr => go_simp <;> rfl); (case hp => exact (Reps.one (show Kd.FK (Kd.slice 3 (Kd.int .i64)) _ _ y242 [.slice Ao20 y242.length co20] from (Kd.FK_slice_mk (Kd.R_reads' (Kd.R_mono (ok' := (fun k_ => (w.heap.size ≤ k_) ∧ some k_ ≠ (u5 : Value).ownBlock ∧ k_ ≠ gb236 ∧ k_ ≠ gb237)) (Kd.R_types (Kd.R_types (HO244.out) BK236.out (by decide)) BK237.out (by decide)) (fun k_ hk => ⟨hk.1.1.1.1, ⟨hk.1.1.2, ⟨hk.1.2, hk.2⟩⟩⟩))).2.1 (Kd.R_F (Kd.R_mono (ok' := (fun k_ => (w.heap.size ≤ k_) ∧ some k_ ≠ (u5 : Value).ownBlock ∧ k_ ≠ gb236 ∧ k_ ≠ gb237)) (Kd.R_types (Kd.R_types (HO244.out) BK236.out (by decide)) BK237.out (by decide)) (fun k_ hk => ⟨hk.1.1.1.1, ⟨hk.1.1.2, ⟨hk.1.2, hk.2⟩⟩⟩))))) (Reps.none _ _))); intro v246 w21 ho22 hb hg_ hnew_; clear hg_ hnew_; (first | rw [← Ny245.out] at ho22 | (simp only [Int.reduceToNat] at ho22; rw [← Ny245.out] at ho22)); have n0_ := ak_ (Kd.R_below (Kd.pR HO_5.out) hb); have n1_ := ak_ (Kd.N_lower ho22 (bz_ bl_)); have n2_ := ak_ (blk_below (pk BK236.out) hb); have n3_ := ak_ (blk_below (pk BK237.out) hb); have n4_ := ak_ (bs_ bl_ hb); clear HO_5; clear BK236; clear BK237; clear HB; clear HO244; have HO_5 := n0_; have HO247 := n1_; have BK236 := n2_; have BK237 := n3_; have HB := n4_; clear n0_ n1_ n2_ n3_ n4_; clear hb ho22; have hnb23 := NB236_237.out; have hnc23 := NB237_236.out; obtain ⟨hcz24_0, hcz24_1, hcz24_2, hfz24_0, hfz24_1, hfz24_2⟩ := c3_ BK236.out))
    (try simp only [Act.put, setIfInBounds_toArray, set_cons_zero, set_cons_succ])
    go_cut [8] (fun v8 wc => ∃ (kq : Nat) (x8_16 : List (List Int)), Aside0 (spec_keRides.j1 kq x8_16 a0_0 l0_1 a0_2 l1_0 a1_1 = some r) ∧ Aside0 (kq ≤ k1) ∧ Aside0 (Kd.N (Kd.slice 3 (Kd.int .i64)) 29 wc w.heap.size (fun k_ => (w.heap.size ≤ k_) ∧ k_ ≠ gb236 ∧ k_ ≠ gb237) v8 x8_16) ∧ Aside0 (wc.heap[gb236]? = some (.cells #[.int .i64 a0_0, (.slice A0_1 l0_1.length c0_1), .int .i64 a0_2] 52 (0, 0))) ∧ Aside0 (wc.heap[gb237]? = some (.cells #[(.slice A1_0 l1_0.length c1_0), .bool a1_1] 90 (0, 0))) ∧ Aside0 (Below w.heap.size w wc))
    case first =>
     have H := HC17.out
     clear HC17
     by_cases c25 : a0_2 > 0
     ·
      rw [if_pos c25] at H
      have c25b0 : decide (0 < a0_2) = true := decide_eq_true c25
      clear c25
      (first | rw [c25b0] | (simp only [i64_w, i32_w]; rw [c25b0]) | rw [c25b1] | skip)
      replace H := Option.bind_eq_some_iff.mp H
      obtain ⟨t248, A260, H⟩ := H
      replace H : (if y245.length + t248.length < 5864062014805 then (spec_keRides.j1 k1 (y245 ++ t248) a0_0 l0_1 a0_2 l1_0 a1_1) else (none)) = some r := H
      have A26 := ak_ A260
      clear A260
      by_cases c27 : y245.length + t248.length < 5864062014805
      ·
       rw [if_pos c27] at H
       have LMc27 := ak_ c27
       clear c27
       obtain ⟨y251, hy251⟩ : ∃ y_ : List (List Int), y_ = (y245 ++ t248) := ⟨_, rfl⟩
       replace H : (spec_keRides.j1 k1 y251 a0_0 l0_1 a0_2 l1_0 a1_1) = some r := by first | (rw [hy251]; exact H) | exact H
       have Ny251 := ak_ hy251
       clear hy251
       have H' := ak_ H
       clear H
       have hnb28 := NB236_237.out
       have hnc28 := NB237_236.out
       obtain ⟨hcz29_0, hcz29_1, hcz29_2, hfz29_0, hfz29_1, hfz29_2⟩ := c3_ BK236.out
       obtain ⟨Ao30, co30, eo30⟩ := Kd.R_slice HO_5.out
       subst eo30
       go_wp2_with (first | ((with_reducible refine gate_callee (f := 109) rfl ?_); refine goesL_ (some 38) rfl rfl Try.func109 (by kernel_rfl) rfl #[.slice Ao30 x5_1.length co30, .slice none 0 0, .int .i64 0, .int .i64 a0_2] rfl (by first | rfl | (simp only [map_toArray, map_cons, map_nil]; try rfl)) ?_; (refine (spec_paGroups.calls k1 _ _ x5_1 _ _ ([] : List Int) 0 a0_2 t248 _ ?side1 ?side2 ?side3 ?side4 A26.out).mono ?_); (case side1 => exact cs_ ((Kd.R_reads' HO_5.out).2.2)); (case side2 => exact (Kd.R_reads' HO_5.out).2.1); (case side3 => exact Kd.C_nil _ _); (case side4 => exact Nat.le_refl _); rintro e w31 ⟨v249, rfl, ho0, hb⟩; refine ⟨_, rfl, ?_⟩; have n0_ := ak_ (Kd.R_below (Kd.pR HO_5.out) hb); have n1_ := ak_ (Kd.N_elder' (Kd.pN HO247.out) (Kd.N_base ho0) hb); have n2_ := ak_ (Kd.N_lower (Kd.N_mono (ok' := fun k_ => (w.heap.size ≤ k_) ∧ some k_ ≠ (.slice Ao30 x5_1.length co30 : Value).ownBlock ∧ some k_ ≠ (v246 : Value).ownBlock ∧ k_ ≠ gb236 ∧ k_ ≠ gb237) ho0 (fun k_ hk_ => ⟨(Nat.le_trans (bz_ bl_) hk_), (Kd.fresh' (Kd.R_lt (Kd.pR HO_5.out)) k_ hk_), (Kd.fresh' (Kd.N_lt (Kd.pN HO247.out)) k_ hk_), (Kd.freshB (pk BK236.out) k_ hk_), (Kd.freshB (pk BK237.out) k_ hk_)⟩)) (bz_ bl_)); have n3_ := ak_ (blk_below (pk BK236.out) hb); have n4_ := ak_ (blk_below (pk BK237.out) hb); have n5_ := ak_ (bs_ bl_ hb); clear HO_5; clear HO247; clear BK236; clear BK237; clear HB; have HO_5 := n0_; have HO247 := n1_; have HO250 := n2_; have BK236 := n3_; have BK237 := n4_; have HB := n5_; clear n0_ n1_ n2_ n3_ n4_ n5_; (try clear hb); (try clear hb2); (try clear hk); (try clear hi); (try clear ho0); obtain ⟨Ao33, co33, eo33⟩ := Kd.N_slice HO250.out; subst eo33) | ((with_reducible refine gate_builtin (b := .append) (xs := #[.tmp 34, .tmp 38]) rfl ?_); at_builtin; refine Kd.N_append_rows (Kd.slice 3 (Kd.int .i64)) (w0 := w) w.heap.size rfl (.tmp 34) (.tmp 38) 47 29 (.slice none 0 0) 24 rfl Try.underlying47 info29 rfl (by decide) (by omega) v246 y245 t248 _ _ _ (fun k_ => (w.heap.size ≤ k_) ∧ some k_ ≠ (.slice Ao30 x5_1.length co30 : Value).ownBlock ∧ k_ ≠ gb236 ∧ k_ ≠ gb237) (fun k_ => ((fun k_ => (w.heap.size ≤ k_) ∧ some k_ ≠ (.slice Ao30 x5_1.length co30 : Value).ownBlock ∧ k_ ≠ gb236 ∧ k_ ≠ gb237)) k_ ∧ some k_ ≠ (v246 : Value).ownBlock) rfl rfl ?aO ?aR (fun _ hk => hk) ?aF ?aB ?aS ?aL ?_; (case aR => exact (by skip; exact Kd.N_F (Kd.N_mono (ok' := (fun k_ => ((fun k_ => (w.heap.size ≤ k_) ∧ some k_ ≠ (.slice Ao30 x5_1.length co30 : Value).ownBlock ∧ k_ ≠ gb236 ∧ k_ ≠ gb237)) k_ ∧ some k_ ≠ (v246 : Value).ownBlock)) (HO250.out) (fun k_ hk => ⟨⟨hk.1, ⟨hk.2.1, ⟨hk.2.2.2.1, hk.2.2.2.2⟩⟩⟩, hk.2.2.1⟩)))); (case aB => exact bl_); (case aF => exact (fun k_ hk => ⟨(Nat.le_trans (bz_ bl_) hk), Kd.fresh' (Kd.R_lt (Kd.pR HO_5.out)) k_ hk, Kd.freshB (pk BK236.out) k_ hk, Kd.freshB (pk BK237.out) k_ hk⟩)); (case aO => exact (by (with_reducible repeat (first | apply Kd.N_alloc | apply Kd.N_drewN | apply Kd.N_drew)); exact Kd.N_mono HO247.out (fun _ hk => ⟨hk.1.1, ⟨hk.1.2.1, ⟨hk.1.2.2.1, hk.1.2.2.2⟩⟩⟩))); (case aS => exact (bz_ bl_)); (case aL => have := LMc27.out; omega); intro v252 w32 ho hb hg hat; rw [← Ny251.out] at ho; have n0_ := ak_ (Kd.R_over' (Kd.pR HO_5.out) (Kd.N_typed (Kd.pN HO247.out)) (by decide) hg); have n1_ := ak_ (blk_grown (pk BK236.out) hg (Kd.N_ne HO247.out BK236.out (by decide))); have n2_ := ak_ (blk_grown (pk BK237.out) hg (Kd.N_ne HO247.out BK237.out (by decide))); have n3_ := ak_ (Kd.N_afterv (ok := (fun k_ => (w.heap.size ≤ k_) ∧ some k_ ≠ (.slice Ao30 x5_1.length co30 : Value).ownBlock ∧ k_ ≠ gb236 ∧ k_ ≠ gb237)) (by (with_reducible repeat (first | apply Kd.N_alloc | apply Kd.N_drewN | apply Kd.N_drew)); exact Kd.N_mono HO250.out (fun _ hk => ⟨⟨hk.1, ⟨hk.2.1, ⟨hk.2.2.2.1, hk.2.2.2.2⟩⟩⟩, hk.2.2.1⟩)) hg hat); have n4_ := ak_ (hb); have n5_ := ak_ (ho); clear HO_5; clear BK236; clear BK237; clear HO250; clear HB; clear HO247; have HO_5 := n0_; have BK236 := n1_; have BK237 := n2_; have HO250 := n3_; have HB := n4_; have HO253 := n5_; clear n0_ n1_ n2_ n3_ n4_ n5_; clear ho hb hg hat))
       go_meet
       case rel => exact ⟨_, (y251), H', ⟨by have := HK1.out; first | omega | exact Nat.le_refl _⟩, ⟨by (with_reducible repeat (first | apply Kd.N_alloc | apply Kd.N_drewN | apply Kd.N_drew)); exact Kd.N_mono HO253.out (fun _ hk => ⟨hk.1, ⟨hk.2.2.1, hk.2.2.2⟩⟩)⟩, ⟨pk BK236.out⟩, ⟨pk BK237.out⟩, ⟨by repeat (first | exact HB.out | apply ba_ | apply bN_ | apply b1_ | refine below_set ?_ (Aside0.out (by assumption)))⟩⟩
      ·
       rw [if_neg c27] at H
       exact absurd H (by simp)
     ·
      rw [if_neg c25] at H
      have c25b0 : decide (0 < a0_2) = false := decide_eq_false c25
      clear c25
      (first | rw [c25b0] | (simp only [i64_w, i32_w]; rw [c25b0]) | rw [c25b1] | skip)
      have H' := ak_ H
      clear H
      go_wp2
      go_meet
      case rel => exact ⟨_, (y245), H', ⟨by have := HK1.out; first | omega | exact Nat.le_refl _⟩, ⟨by (with_reducible repeat (first | apply Kd.N_alloc | apply Kd.N_drewN | apply Kd.N_drew)); exact Kd.N_mono HO247.out (fun _ hk => ⟨hk.1, ⟨hk.2.2.1, hk.2.2.2⟩⟩)⟩, ⟨pk BK236.out⟩, ⟨pk BK237.out⟩, ⟨by repeat (first | exact HB.out | apply ba_ | apply bN_ | apply b1_ | refine below_set ?_ (Aside0.out (by assumption)))⟩⟩
    case rest =>
     clear HC17
     try clear c1
     try clear c2
     try clear p2
     try clear q2
     try clear hx2
     try clear c5
     try clear p6
     try clear c7
     try clear c7b0
     try clear c8
     try clear c8b0
     try clear c9
     try clear c9b0
     try clear c10
     try clear c10b0
     try clear c10b1
     try clear c10b2
     try clear c11
     try clear c12
     try clear c15
     try clear c23
     try clear p23
     try clear q23
     try clear hx23
     try clear c25
     try clear c25b0
     try clear c27
     try clear c28
     try clear hcz13_0
     try clear hcz13_1
     try clear hcz16_0
     try clear hcz16_1
     try clear hcz24_0
     try clear hcz24_1
     try clear hcz24_2
     try clear hcz29_0
     try clear hcz29_1
     try clear hcz29_2
     try clear hcz6_0
     try clear hcz6_1
     try clear hfz13_0
     try clear hfz13_1
     try clear hfz16_0
     try clear hfz16_1
     try clear hfz24_0
     try clear hfz24_1
     try clear hfz24_2
     try clear hfz29_0
     try clear hfz29_1
     try clear hfz29_2
     try clear hfz6_0
     try clear hfz6_1
     try clear hx238_0
     try clear p2
     try clear p238
     try clear q238
     obtain ⟨kq, x8_16, HA, HJ16, HO_8, BK236, BK237, HB⟩ := hcut
     cases kq with
     | zero => exact absurd HA.out (by simp [spec_keRides.j1])
     | succ kj16 =>
      have H := HA.out
      clear HA
      simp only [spec_keRides.j1] at H
      have H' := ak_ H
      clear H
      obtain ⟨Ao34, co34, eo34⟩ := Kd.N_slice HO_8.out
      subst eo34
      go_wp2
      go_loopg [9, 42] kj16 (fun kq v9 v42 w' => ∃ (x9_3 : List (List Int)) (x42_3 : Int), v42 = .int .i64 x42_3 ∧ Aside0 (spec_keRides.l1 kq x9_3 x8_16 (x8_16.length : Int) x42_3 a0_0 l0_1 a0_2 l1_0 a1_1 = some r) ∧ Aside0 (kq ≤ kj16) ∧ Aside0 (Kd.N (Kd.slice 3 (Kd.int .i64)) 29 w' w.heap.size (fun k_ => (w.heap.size ≤ k_) ∧ some k_ ≠ ((.slice Ao34 x8_16.length co34) : Value).ownBlock ∧ k_ ≠ gb236 ∧ k_ ≠ gb237) v9 x9_3) ∧ Aside0 (Kd.N (Kd.slice 3 (Kd.int .i64)) 29 w' w.heap.size (fun k_ => (w.heap.size ≤ k_) ∧ some k_ ≠ (v9 : Value).ownBlock ∧ k_ ≠ gb236 ∧ k_ ≠ gb237) (.slice Ao34 x8_16.length co34) x8_16) ∧ Aside0 (w'.heap[gb236]? = some (.cells #[.int .i64 a0_0, (.slice A0_1 l0_1.length c0_1), .int .i64 a0_2] 52 (0, 0))) ∧ Aside0 (w'.heap[gb237]? = some (.cells #[(.slice A1_0 l1_0.length c1_0), .bool a1_1] 90 (0, 0))) ∧ Aside0 (Below w.heap.size w w'))
      case atStart => exact ⟨(([] : List (List Int))), (0), (ry_), H', ⟨Nat.le_refl _⟩, ⟨by first | exact Kd.S_nil _ _ _ _ _ | exact Kd.N_nil _ _ _ _ _ | exact Kd.V_nil _ _ _ _ _ | exact Kd.Q_nil _ _ _ _ _ | exact Kd.R_nil _ _ _ _ _⟩, ⟨by (with_reducible repeat (first | apply Kd.N_alloc | apply Kd.N_drewN | apply Kd.N_drew)); exact Kd.N_mono HO_8.out (fun _ hk => ⟨hk.1, ⟨(by simp [Value.ownBlock]), ⟨hk.2.1, hk.2.2⟩⟩⟩)⟩, ⟨pk BK236.out⟩, ⟨pk BK237.out⟩, ⟨by repeat (first | exact HB.out | apply ba_ | apply bN_ | apply b1_ | refine below_set ?_ (Aside0.out (by assumption)))⟩⟩
      case round =>
       clear H'
       try clear c1
       try clear c2
       try clear p2
       try clear q2
       try clear hx2
       try clear c5
       try clear p6
       try clear c7
       try clear c7b0
       try clear c8
       try clear c8b0
       try clear c9
       try clear c9b0
       try clear c10
       try clear c10b0
       try clear c10b1
       try clear c10b2
       try clear c11
       try clear c12
       try clear c15
       try clear c23
       try clear p23
       try clear q23
       try clear hx23
       try clear c25
       try clear c25b0
       try clear c27
       try clear c28
       try clear hcz13_0
       try clear hcz13_1
       try clear hcz16_0
       try clear hcz16_1
       try clear hcz24_0
       try clear hcz24_1
       try clear hcz24_2
       try clear hcz29_0
       try clear hcz29_1
       try clear hcz29_2
       try clear hcz6_0
       try clear hcz6_1
       try clear hfz13_0
       try clear hfz13_1
       try clear hfz16_0
       try clear hfz16_1
       try clear hfz24_0
       try clear hfz24_1
       try clear hfz24_2
       try clear hfz29_0
       try clear hfz29_1
       try clear hfz29_2
       try clear hfz6_0
       try clear hfz6_1
       try clear hx238_0
       try clear p2
       try clear p23
       try clear p238
       try clear p6
       try clear q2
       try clear q23
       try clear q238
       obtain ⟨x9_3, x42_3, rfl, HA, HK3, HO_9, HO_40, BK236, BK237, HB⟩ := hrel
       cases gk with
       | zero => exact absurd HA.out (by simp [spec_keRides.l1])
       | succ k3 =>
        have H := HA.out
        clear HA
        simp only [spec_keRides.l1] at H
        by_cases c35 : x42_3 < (x8_16.length : Int)
        ·
         rw [if_pos c35] at H
         have c35b0 : decide (x42_3 < (x8_16.length : Int)) = true := decide_eq_true c35
         clear c35
         by_cases c36 : 0 ≤ x42_3
         ·
          rw [if_pos c36] at H
          have c36b0 : decide (0 ≤ x42_3) = true := decide_eq_true c36
          clear c36
          by_cases c37 : x42_3 < (x8_16.length : Int)
          ·
           rw [if_pos c37] at H
           have c37b0 : decide (x42_3 < (x8_16.length : Int)) = true := decide_eq_true c37
           clear c37
           replace H := Option.bind_eq_some_iff.mp H
           obtain ⟨t255, A380, H⟩ := H
           replace H : (if t255 = true then (if x9_3.length < 5864062014805 then (spec_keRides.l1 k3 (x9_3 ++ [rd_L1 x8_16 x42_3]) x8_16 (x8_16.length : Int) (wrap64 (x42_3 + 1)) a0_0 l0_1 a0_2 l1_0 a1_1) else (none)) else (spec_keRides.l1 k3 x9_3 x8_16 (x8_16.length : Int) (wrap64 (x42_3 + 1)) a0_0 l0_1 a0_2 l1_0 a1_1)) = some r := H
           have A38 := ak_ A380
           clear A380
           by_cases c39 : t255 = true
           ·
            subst c39
            have H1 : (if x9_3.length < 5864062014805 then (spec_keRides.l1 k3 (x9_3 ++ [rd_L1 x8_16 x42_3]) x8_16 (x8_16.length : Int) (wrap64 (x42_3 + 1)) a0_0 l0_1 a0_2 l1_0 a1_1) else (none)) = some r := by rw [if_pos rfl] at H; exact H
            clear H
            have H := H1
            clear H1
            by_cases c40 : x9_3.length < 5864062014805
            ·
             rw [if_pos c40] at H
             have LMc40 := ak_ c40
             clear c40
             obtain ⟨y256, hy256⟩ : ∃ y_ : List (List Int), y_ = (x9_3 ++ [rd_L1 x8_16 x42_3]) := ⟨_, rfl⟩
             replace H : (spec_keRides.l1 k3 y256 x8_16 (x8_16.length : Int) (wrap64 (x42_3 + 1)) a0_0 l0_1 a0_2 l1_0 a1_1) = some r := by first | (rw [hy256]; exact H) | exact H
             have Ny256 := ak_ hy256
             clear hy256
             have H' := ak_ H
             clear H
             have p254 : 0 ≤ (x42_3 : Int) := odt_ (by assumption)
             have q254 : x42_3 < (x8_16.length : Int) := odt_ (by assumption)
             obtain ⟨ad254, A254_0, c254_0, e254, hx254_0, hl254_0, hi254_0⟩ := at_L1 (Kd.N_reads' HO_40.out).2.2 x42_3 p254 q254
             cases e254
             obtain ⟨ce254, hce254, hMe254, hcc254⟩ := Kd.N_get HO_40.out [] x42_3 p254 (by first | exact q254 | exact odt_ (by assumption) | (have e_ := (Kd.N_reads' HO_40.out).1; omega))
             obtain ⟨ua254_0, uc254_0, rfl, ul254_0, ge254_0⟩ := Kd.FK_slice_open hMe254
             have hv254_0 := hcc254 0 _ rfl
             rw [Nat.add_zero, show ((Kd.slice 3 (Kd.int .i64))).sz = 1 from rfl, Nat.mul_one] at hv254_0
             replace hv254_0 := Option.some.inj (hv254_0.symm.trans hx254_0)
             injection hv254_0 with hva_ hvn_ hvc_
             rw [hva_] at ge254_0
             rw [hvc_] at ul254_0
             have HL254_0 := ak_ (show Kd.V (Kd.int .i64) 3 _ w.heap.size _ _ (rd_L1 x8_16 x42_3) from Kd.V_mk ul254_0 ge254_0)
             clear hva_ hvn_ hvc_ ge254_0 ul254_0 hcc254 hce254
             have HR254_0 := ak_ hi254_0
             have HC254_0 := ak_ hl254_0
             clear hi254_0 hl254_0
             replace p254 := eq_true p254
             replace q254 := eq_true q254
             have hnb41 := NB236_237.out
             have hnc41 := NB237_236.out
             obtain ⟨hcz42_0, hcz42_1, hcz42_2, hfz42_0, hfz42_1, hfz42_2⟩ := c3_ BK236.out
             obtain ⟨hcz43_0, hcz43_1, hfz43_0, hfz43_1⟩ := c2_ BK237.out
             go_wp2_with (first | ((with_reducible refine gate_callee (f := 110) rfl ?_); refine goesL_ (some 49) rfl rfl Try.func110 (by kernel_rfl) rfl #[.agg #[.int .i64 a0_0, .slice A0_1 l0_1.length c0_1, .int .i64 a0_2], .agg #[.slice A1_0 l1_0.length c1_0, .bool a1_1], .slice A254_0 (rd_L1 x8_16 x42_3).length c254_0] rfl (by first | rfl | (simp only [map_toArray, map_cons, map_nil]; try rfl)) ?_; (with_reducible refine (spec_keCan.calls k3 a0_0 _ _ l0_1 a0_2 _ _ l1_0 a1_1 _ _ (rd_L1 x8_16 x42_3) true _ ?side1 ?side2 ?side3 ?side4 ?side5 ?side6 A38.out).mono ?_); (case side1 => exact cs_ (Kd.C_below HR0_1.out HB.out)); (case side2 => exact HC0_1.out); (case side3 => exact cs_ (Kd.C_below HR1_0.out HB.out)); (case side4 => exact HC1_0.out); (case side5 => repeat (first | exact (by repeat (first | (with_reducible exact HR254_0.out) | (with_reducible refine Kd.C_alloc ?_ _) | (with_reducible refine Kd.C_drewN ?_ _) | (with_reducible refine Kd.C_drew ?_) | exact HR254_0.out)) | (with_reducible refine Kd.C_alloc ?_ _) | (with_reducible refine Kd.C_drewN ?_ _) | (with_reducible refine Kd.C_drew ?_))); (case side6 => exact HC254_0.out); rintro e w44 ⟨rfl, hb⟩; refine ⟨_, rfl, ?_⟩; have n0_ := ak_ (Kd.N_below (Kd.pN HO_9.out) hb); have n1_ := ak_ (Kd.N_below (Kd.pN HO_40.out) hb); have n2_ := ak_ (Kd.V_below (Kd.pV HL254_0.out) hb); have n3_ := ak_ (blk_below (pk BK236.out) hb); have n4_ := ak_ (blk_below (pk BK237.out) hb); have n5_ := ak_ (Kd.C_below (by repeat (first | (with_reducible exact HR254_0.out) | (with_reducible refine Kd.C_alloc ?_ _) | (with_reducible refine Kd.C_drewN ?_ _) | (with_reducible refine Kd.C_drew ?_) | exact HR254_0.out)) hb); have n6_ := ak_ (bs_ bl_ hb); clear HO_9; clear HO_40; clear HL254_0; clear BK236; clear BK237; clear HR254_0; clear HB; have HO_9 := n0_; have HO_40 := n1_; have HL254_0 := n2_; have BK236 := n3_; have BK237 := n4_; have HR254_0 := n5_; have HB := n6_; clear n0_ n1_ n2_ n3_ n4_ n5_ n6_; (try clear hb); (try clear hb2); (try clear hk); (try clear hi)) | ((with_reducible refine gate_builtin (b := .append) (xs := #[.tmp 50, .tmp 52]) rfl ?_); at_builtin; refine Kd.N_append (Kd.slice 3 (Kd.int .i64)) (w0 := w) w.heap.size rfl (.tmp 50) (.tmp 52) 47 29 (.slice none 0 0) 24 rfl Try.underlying47 info29 rfl (by decide) (by omega) u9 x9_3 (rd_L1 x8_16 x42_3) [.slice A254_0 (rd_L1 x8_16 x42_3).length c254_0] (fun k_ => (w.heap.size ≤ k_) ∧ some k_ ≠ (.slice (some ad254) x8_16.length co34 : Value).ownBlock ∧ k_ ≠ gb236 ∧ k_ ≠ gb237) (fun k_ => ((fun k_ => (w.heap.size ≤ k_) ∧ some k_ ≠ (.slice (some ad254) x8_16.length co34 : Value).ownBlock ∧ k_ ≠ gb236 ∧ k_ ≠ gb237)) k_ ∧ some k_ ≠ (u9 : Value).ownBlock) rfl rfl ?aP (fun _ hk => hk) ?aF ?aO ?aB ?aS ?aL ?_; (case aP => exact (Kd.FK_slice_mk (Kd.V_reads' (Kd.V_mono (ok' := (fun k_ => ((fun k_ => (w.heap.size ≤ k_) ∧ some k_ ≠ (.slice (some ad254) x8_16.length co34 : Value).ownBlock ∧ k_ ≠ gb236 ∧ k_ ≠ gb237)) k_ ∧ some k_ ≠ (u9 : Value).ownBlock)) (HL254_0.out) (fun k_ hk => ⟨⟨hk.1.1, ⟨hk.2, ⟨hk.1.2.2.1, hk.1.2.2.2⟩⟩⟩, hk.1.2.1⟩))).2.1 (Kd.V_F (Kd.V_mono (ok' := (fun k_ => ((fun k_ => (w.heap.size ≤ k_) ∧ some k_ ≠ (.slice (some ad254) x8_16.length co34 : Value).ownBlock ∧ k_ ≠ gb236 ∧ k_ ≠ gb237)) k_ ∧ some k_ ≠ (u9 : Value).ownBlock)) (HL254_0.out) (fun k_ hk => ⟨⟨hk.1.1, ⟨hk.2, ⟨hk.1.2.2.1, hk.1.2.2.2⟩⟩⟩, hk.1.2.1⟩))))); (case aB => exact bl_); (case aF => exact (fun k_ hk => ⟨(Nat.le_trans (bz_ bl_) hk), Kd.fresh' (Kd.N_lt (Kd.pN HO_40.out)) k_ hk, Kd.freshB (pk BK236.out) k_ hk, Kd.freshB (pk BK237.out) k_ hk⟩)); (case aO => exact (Kd.pN HO_9.out)); (case aS => exact (bz_ bl_)); (case aL => have := LMc40.out; omega); intro v257 w45 ho hb hg hat; rw [← Ny256.out] at ho; have n0_ := ak_ (Kd.N_afterv (ok := (fun k_ => (w.heap.size ≤ k_) ∧ k_ ≠ gb236 ∧ k_ ≠ gb237)) (by (with_reducible repeat (first | apply Kd.N_alloc | apply Kd.N_drewN | apply Kd.N_drew)); exact Kd.N_mono HO_40.out (fun _ hk => ⟨⟨hk.1, ⟨hk.2.2.1, hk.2.2.2⟩⟩, hk.2.1⟩)) hg hat); have n1_ := ak_ (blk_grown (pk BK236.out) hg (Kd.N_ne HO_9.out BK236.out (by decide))); have n2_ := ak_ (blk_grown (pk BK237.out) hg (Kd.N_ne HO_9.out BK237.out (by decide))); have n3_ := ak_ (Kd.V_afterv (ok := (fun k_ => (w.heap.size ≤ k_) ∧ some k_ ≠ (.slice (some ad254) x8_16.length co34 : Value).ownBlock ∧ k_ ≠ gb236 ∧ k_ ≠ gb237)) (by (with_reducible repeat (first | apply Kd.V_alloc | apply Kd.V_drewN | apply Kd.V_drew)); exact Kd.V_mono HL254_0.out (fun _ hk => ⟨⟨hk.1.1, ⟨hk.2, ⟨hk.1.2.2.1, hk.1.2.2.2⟩⟩⟩, hk.1.2.1⟩)) hg hat); have n4_ := ak_ (hb); have n5_ := ak_ (ho); clear HO_40; clear BK236; clear BK237; clear HL254_0; clear HB; clear HO_9; have HO_40 := n0_; have BK236 := n1_; have BK237 := n2_; have HL254_0 := n3_; have HB := n4_; have HO258 := n5_; clear n0_ n1_ n2_ n3_ n4_ n5_; clear ho hb hg hat))
             go_roundg k3
             case measure => have := HK1.out; have := HJ16.out; have := HK3.out; omega
             case rel => exact ⟨(y256), (wrap64 (x42_3 + 1)), (ry_), H', ⟨by have := HK1.out; have := HJ16.out; have := HK3.out; omega⟩, ⟨Kd.pN HO258.out⟩, ⟨by (with_reducible repeat (first | apply Kd.N_alloc | apply Kd.N_drewN | apply Kd.N_drew)); exact Kd.N_mono HO_40.out (fun _ hk => ⟨hk.1.1, ⟨hk.2, ⟨hk.1.2.1, hk.1.2.2⟩⟩⟩)⟩, ⟨pk BK236.out⟩, ⟨pk BK237.out⟩, ⟨by repeat (first | exact HB.out | apply ba_ | apply bN_ | apply b1_ | refine below_set ?_ (Aside0.out (by assumption)))⟩⟩
            ·
             rw [if_neg c40] at H
             exact absurd H (by simp)
           ·
            replace c39 := Bool.eq_false_iff.mpr c39
            subst c39
            have H1 : (spec_keRides.l1 k3 x9_3 x8_16 (x8_16.length : Int) (wrap64 (x42_3 + 1)) a0_0 l0_1 a0_2 l1_0 a1_1) = some r := by rw [if_neg (show ¬ (false = true) by decide)] at H; exact H
            clear H
            have H := H1
            clear H1
            have H' := ak_ H
            clear H
            have p254 : 0 ≤ (x42_3 : Int) := odt_ (by assumption)
            have q254 : x42_3 < (x8_16.length : Int) := odt_ (by assumption)
            obtain ⟨ad254, A254_0, c254_0, e254, hx254_0, hl254_0, hi254_0⟩ := at_L1 (Kd.N_reads' HO_40.out).2.2 x42_3 p254 q254
            cases e254
            obtain ⟨ce254, hce254, hMe254, hcc254⟩ := Kd.N_get HO_40.out [] x42_3 p254 (by first | exact q254 | exact odt_ (by assumption) | (have e_ := (Kd.N_reads' HO_40.out).1; omega))
            obtain ⟨ua254_0, uc254_0, rfl, ul254_0, ge254_0⟩ := Kd.FK_slice_open hMe254
            have hv254_0 := hcc254 0 _ rfl
            rw [Nat.add_zero, show ((Kd.slice 3 (Kd.int .i64))).sz = 1 from rfl, Nat.mul_one] at hv254_0
            replace hv254_0 := Option.some.inj (hv254_0.symm.trans hx254_0)
            injection hv254_0 with hva_ hvn_ hvc_
            rw [hva_] at ge254_0
            rw [hvc_] at ul254_0
            have HL254_0 := ak_ (show Kd.V (Kd.int .i64) 3 _ w.heap.size _ _ (rd_L1 x8_16 x42_3) from Kd.V_mk ul254_0 ge254_0)
            clear hva_ hvn_ hvc_ ge254_0 ul254_0 hcc254 hce254
            have HR254_0 := ak_ hi254_0
            have HC254_0 := ak_ hl254_0
            clear hi254_0 hl254_0
            replace p254 := eq_true p254
            replace q254 := eq_true q254
            have hnb46 := NB236_237.out
            have hnc46 := NB237_236.out
            obtain ⟨hcz47_0, hcz47_1, hcz47_2, hfz47_0, hfz47_1, hfz47_2⟩ := c3_ BK236.out
            obtain ⟨hcz48_0, hcz48_1, hfz48_0, hfz48_1⟩ := c2_ BK237.out
            go_wp2_with (first | ((with_reducible refine gate_callee (f := 110) rfl ?_); refine goesL_ (some 49) rfl rfl Try.func110 (by kernel_rfl) rfl #[.agg #[.int .i64 a0_0, .slice A0_1 l0_1.length c0_1, .int .i64 a0_2], .agg #[.slice A1_0 l1_0.length c1_0, .bool a1_1], .slice A254_0 (rd_L1 x8_16 x42_3).length c254_0] rfl (by first | rfl | (simp only [map_toArray, map_cons, map_nil]; try rfl)) ?_; (with_reducible refine (spec_keCan.calls k3 a0_0 _ _ l0_1 a0_2 _ _ l1_0 a1_1 _ _ (rd_L1 x8_16 x42_3) false _ ?side1 ?side2 ?side3 ?side4 ?side5 ?side6 A38.out).mono ?_); (case side1 => exact cs_ (Kd.C_below HR0_1.out HB.out)); (case side2 => exact HC0_1.out); (case side3 => exact cs_ (Kd.C_below HR1_0.out HB.out)); (case side4 => exact HC1_0.out); (case side5 => repeat (first | exact (by repeat (first | (with_reducible exact HR254_0.out) | (with_reducible refine Kd.C_alloc ?_ _) | (with_reducible refine Kd.C_drewN ?_ _) | (with_reducible refine Kd.C_drew ?_) | exact HR254_0.out)) | (with_reducible refine Kd.C_alloc ?_ _) | (with_reducible refine Kd.C_drewN ?_ _) | (with_reducible refine Kd.C_drew ?_))); (case side6 => exact HC254_0.out); rintro e w49 ⟨rfl, hb⟩; refine ⟨_, rfl, ?_⟩; have n0_ := ak_ (Kd.N_below (Kd.pN HO_9.out) hb); have n1_ := ak_ (Kd.N_below (Kd.pN HO_40.out) hb); have n2_ := ak_ (Kd.V_below (Kd.pV HL254_0.out) hb); have n3_ := ak_ (blk_below (pk BK236.out) hb); have n4_ := ak_ (blk_below (pk BK237.out) hb); have n5_ := ak_ (Kd.C_below (by repeat (first | (with_reducible exact HR254_0.out) | (with_reducible refine Kd.C_alloc ?_ _) | (with_reducible refine Kd.C_drewN ?_ _) | (with_reducible refine Kd.C_drew ?_) | exact HR254_0.out)) hb); have n6_ := ak_ (bs_ bl_ hb); clear HO_9; clear HO_40; clear HL254_0; clear BK236; clear BK237; clear HR254_0; clear HB; have HO_9 := n0_; have HO_40 := n1_; have HL254_0 := n2_; have BK236 := n3_; have BK237 := n4_; have HR254_0 := n5_; have HB := n6_; clear n0_ n1_ n2_ n3_ n4_ n5_ n6_; (try clear hb); (try clear hb2); (try clear hk); (try clear hi)))
            go_roundg k3
            case measure => have := HK1.out; have := HJ16.out; have := HK3.out; omega
            case rel => exact ⟨(x9_3), (wrap64 (x42_3 + 1)), (ry_), H', ⟨by have := HK1.out; have := HJ16.out; have := HK3.out; omega⟩, ⟨Kd.pN HO_9.out⟩, ⟨Kd.pN HO_40.out⟩, ⟨pk BK236.out⟩, ⟨pk BK237.out⟩, ⟨by repeat (first | exact HB.out | apply ba_ | apply bN_ | apply b1_ | refine below_set ?_ (Aside0.out (by assumption)))⟩⟩
          ·
           rw [if_neg c37] at H
           exact absurd H (by simp)
         ·
          rw [if_neg c36] at H
          exact absurd H (by simp)
        ·
         rw [if_neg c35] at H
         have c35b0 : decide (x42_3 < (x8_16.length : Int)) = false := decide_eq_false c35
         clear c35
         obtain rfl := Option.some.inj H
         go_wp2
         go_ret
         exact ⟨_, rx_, by (with_reducible repeat (first | apply Kd.N_alloc | apply Kd.N_drewN | apply Kd.N_drew)); exact Kd.N_mono HO_9.out (fun _ hk => hk.1), by repeat (first | exact HB.out | apply ba_ | apply bN_ | apply b1_ | refine below_set ?_ (Aside0.out (by assumption)))⟩
def spec_keEnd.l0 : Nat → Int → Int → List (List Int) → Int → List Bool → Bool → Option (List Bool × Bool)
 | 0, _, _, _, _, _, _ => none
 | k + 1, x4, x283000, x283001, x283002, x285000, x285001 => if x4 < x283000 then (if x285000.length < 140737488355328 then (spec_keEnd.l0 k (wrap64 (x4 + 1)) x283000 x283001 x283002 (x285000 ++ [true]) x285001) else (none)) else (some (x285000, x285001))
def spec_keEnd.f (k : Nat) (a0_0 : Int) (l0_1 : List (List Int)) (a0_2 : Int) : Option (List Bool × Bool) := spec_keEnd.l0 k 0 a0_0 l0_1 a0_2 ([] : List Bool) true
theorem spec_keEnd.mono_l : ∀ k, (∀ y0 y1 y2 y3 y4 y5, LeO (spec_keEnd.l0 k y0 y1 y2 y3 y4 y5) (spec_keEnd.l0 (k + 1) y0 y1 y2 y3 y4 y5))
 | 0 => fun _ _ _ _ _ _ r h => by simp [spec_keEnd.l0] at h
 | k + 1 => by
  have ih0 := spec_keEnd.mono_l k
  ·intro y0 y1 y2 y3 y4 y5
   unfold spec_keEnd.l0
   repeat' first
   | (with_reducible first | exact ih0 _ _ _ _ _ _ | exact LeO.refl _ | exact LeO.none _ | refine LeO.ite ?_ ?_ | refine LeO.bind ?_ (fun _ => ?_))
theorem spec_keEnd.mono : ∀ a0 a1 a2 k, LeO (spec_keEnd.f k a0 a1 a2) (spec_keEnd.f (k + 1) a0 a1 a2) := by
 intro a0 a1 a2 k
 have ih0 := spec_keEnd.mono_l k
 unfold spec_keEnd.f
 repeat' first
  | (with_reducible first | exact ih0 _ _ _ _ _ _ | exact LeO.refl _ | exact LeO.none _ | refine LeO.ite ?_ ?_ | refine LeO.bind ?_ (fun _ => ?_))
theorem spec_keEnd.calls (k : Nat) (a0_0 : Int) (A0_1 : Option Addr) (c0_1 : Nat) (l0_1 : List (List Int)) (a0_2 : Int) (r1 : List Bool) (r2 : Bool) (w : World) (hr0_1 : Kd.C (Kd.slice 3 (Kd.int .i64)) w A0_1 l0_1.length l0_1) (hc0_1 : l0_1.length ≤ c0_1) (h : spec_keEnd.f k a0_0 l0_1 a0_2 = some (r1, r2)) :
  Calls Try.prog 105 #[.agg #[.int .i64 a0_0, .slice A0_1 l0_1.length c0_1, .int .i64 a0_2]] w fun e w' => ∃ v0_ : Value, e = .returned (.agg #[v0_, .bool r2]) ∧ Kd.R Kd.bool 4 w' w.heap.size (fun _ => True) v0_ r1 ∧ Below w.heap.size w w' := by
 have hu52 := Try.underlying52
 have hu90 := Try.underlying90
 have HR0_1 := ak_ hr0_1
 have HC0_1 := ak_ hc0_1
 clear hr0_1 hc0_1
 have HB := ak_ (Below.refl w.heap.size w)
 have H : (spec_keEnd.l0 k 0 a0_0 l0_1 a0_2 ([] : List Bool) true) = some (r1, r2) := h
 clear h
 have H' := ak_ H
 clear H
 go_enter Try.func105, Try.ntmps105
 go_wp2_with (first | ((with_reducible refine gate_dst (N := 1) rfl ?_); refine bx_ 1 #[.int .i64 a0_0, .slice A0_1 l0_1.length c0_1, .int .i64 a0_2] 52 ?_; intro gb282 hg w2 hbox hb; have n0_ := ak_ (bs_ (bb_ HB.out) hb); have n1_ := ak_ (hbox); have n2_ := ak_ ((by rw [hg]; exact (bz_ (bb_ HB.out)) : w.heap.size ≤ gb282)); have n3_ := n2_; clear HB; have HB := n0_; have BK282 := n1_; have GW282 := n2_; have GE282 := n3_; clear n0_ n1_ n2_ n3_; clear hb hbox hg) | ((with_reducible refine gate_dst (N := 2) rfl ?_); refine bx_ 2 #[.slice none 0 0, .bool false] 90 ?_; intro gb283 hg w3 hbox hb; have n0_ := ak_ (blk_below (pk BK282.out) hb); have n1_ := ak_ (bs_ bl_ hb); have n2_ := ak_ (hbox); have n3_ := ak_ ((by rw [hg]; exact (bz_ bl_) : w.heap.size ≤ gb283)); have n4_ := n3_; have n5_ := ak_ ((by rw [hg]; exact Nat.ne_of_lt (blk_lt (pk BK282.out)) : gb282 ≠ gb283)); have n6_ := ak_ n5_.out.symm; clear BK282; clear HB; have BK282 := n0_; have HB := n1_; have BK283 := n2_; have GW283 := n3_; have GE283 := n4_; have NB282_283 := n5_; have NB283_282 := n6_; clear n0_ n1_ n2_ n3_ n4_ n5_ n6_; clear hb hbox hg) | ((with_reducible refine gate_dst (N := 3) rfl ?_); refine bx_ 3 #[.slice none 0 0, .bool false] 90 ?_; intro gb284 hg w4 hbox hb; have n0_ := ak_ (blk_below (pk BK282.out) hb); have n1_ := ak_ (blk_below (pk BK283.out) hb); have n2_ := ak_ (bs_ bl_ hb); have n3_ := ak_ (hbox); have n4_ := ak_ ((by rw [hg]; exact (bz_ bl_) : w.heap.size ≤ gb284)); have n5_ := n4_; have n6_ := ak_ ((by rw [hg]; exact Nat.ne_of_lt (blk_lt (pk BK282.out)) : gb282 ≠ gb284)); have n7_ := ak_ n6_.out.symm; have n8_ := ak_ ((by rw [hg]; exact Nat.ne_of_lt (blk_lt (pk BK283.out)) : gb283 ≠ gb284)); have n9_ := ak_ n8_.out.symm; clear BK282; clear BK283; clear HB; have BK282 := n0_; have BK283 := n1_; have HB := n2_; have BK284 := n3_; have GW284 := n4_; have GE284 := n5_; have NB282_284 := n6_; have NB284_282 := n7_; have NB283_284 := n8_; have NB284_283 := n9_; clear n0_ n1_ n2_ n3_ n4_ n5_ n6_ n7_ n8_ n9_; clear hb hbox hg; have hnb5 := NB284_282.out; have hnc5 := NB282_284.out; have hnb6 := NB284_283.out; have hnc6 := NB283_284.out; obtain ⟨hcz7_0, hcz7_1, hfz7_0, hfz7_1⟩ := c2_ BK284.out))
 go_loopg [4] k (fun kq v4 w' => ∃ (x4_1 : Int) (x285000_1 : List Bool) (u285000 : Value), v4 = .int .i64 x4_1 ∧ Aside0 (spec_keEnd.l0 kq x4_1 a0_0 l0_1 a0_2 x285000_1 true = some (r1, r2)) ∧ Aside0 (kq ≤ k) ∧ Aside0 (Kd.R Kd.bool 4 w' w.heap.size (fun _ => True) u285000 x285000_1) ∧ Aside0 (w'.heap[gb282]? = some (.cells #[.int .i64 a0_0, (.slice A0_1 l0_1.length c0_1), .int .i64 a0_2] 52 (0, 0))) ∧ Aside0 (w'.heap[gb283]? = some (.cells #[(.slice none 0 0), .bool false] 90 (0, 0))) ∧ Aside0 (w'.heap[gb284]? = some (.cells #[u285000, .bool true] 90 (0, 0))) ∧ Aside0 (Below w.heap.size w w'))
 case atStart => exact ⟨(0), (([] : List Bool)), (.slice none 0 0), (ry_), H', ⟨Nat.le_refl _⟩, ⟨by first | exact Kd.R_nil _ _ _ _ _ | exact Kd.N_nil _ _ _ _ _ | exact Kd.V_nil _ _ _ _ _ | exact Kd.Q_nil _ _ _ _ _ | exact Kd.S_nil _ _ _ _ _⟩, ⟨by (with_reducible repeat (first | refine kN_ ?_ _ | refine k1_ ?_ | refine ka_ ?_ _)); refine blk_far ?_ NB282_284.out _; (with_reducible repeat (first | refine kN_ ?_ _ | refine k1_ ?_ | refine ka_ ?_ _)); refine blk_far ?_ NB282_284.out _; exact pk BK282.out⟩, ⟨by (with_reducible repeat (first | refine kN_ ?_ _ | refine k1_ ?_ | refine ka_ ?_ _)); refine blk_far ?_ NB283_284.out _; (with_reducible repeat (first | refine kN_ ?_ _ | refine k1_ ?_ | refine ka_ ?_ _)); refine blk_far ?_ NB283_284.out _; exact pk BK283.out⟩, ⟨by (with_reducible repeat (first | refine kN_ ?_ _ | refine k1_ ?_ | refine ka_ ?_ _)); refine blk_put (cs := #[.slice none 0 0, .bool false]) ?_ 1 _ rfl; (with_reducible repeat (first | refine kN_ ?_ _ | refine k1_ ?_ | refine ka_ ?_ _)); refine blk_put (cs := #[.slice none 0 0, .bool false]) ?_ 0 _ rfl; exact pk BK284.out⟩, ⟨by repeat (first | exact HB.out | apply ba_ | apply bN_ | apply b1_ | refine below_set ?_ (Aside0.out (by assumption)))⟩⟩
 case round =>
  clear H'
  try clear c1
  try clear p2
  try clear c5
  try clear c6
  try clear hcz7_0
  try clear hcz7_1
  try clear hfz7_0
  try clear hfz7_1
  obtain ⟨x4_1, x285000_1, u285000, rfl, HA, HK1, HO_285000, BK282, BK283, BK284, HB⟩ := hrel
  cases gk with
  | zero => exact absurd HA.out (by simp [spec_keEnd.l0])
  | succ k1 =>
   have H := HA.out
   clear HA
   simp only [spec_keEnd.l0] at H
   by_cases c8 : x4_1 < a0_0
   ·
    rw [if_pos c8] at H
    have c8b0 : decide (x4_1 < a0_0) = true := decide_eq_true c8
    clear c8
    by_cases c9 : x285000_1.length < 140737488355328
    ·
     rw [if_pos c9] at H
     have LMc9 := ak_ c9
     clear c9
     obtain ⟨y285, hy285⟩ : ∃ y_ : List Bool, y_ = (x285000_1 ++ [true]) := ⟨_, rfl⟩
     replace H : (spec_keEnd.l0 k1 (wrap64 (x4_1 + 1)) a0_0 l0_1 a0_2 y285 true) = some (r1, r2) := by first | (rw [hy285]; exact H) | exact H
     have Ny285 := ak_ hy285
     clear hy285
     have H' := ak_ H
     clear H
     have hnb10 := NB282_283.out
     have hnc10 := NB283_282.out
     have hnb11 := NB282_284.out
     have hnc11 := NB284_282.out
     obtain ⟨hcz12_0, hcz12_1, hcz12_2, hfz12_0, hfz12_1, hfz12_2⟩ := c3_ BK282.out
     have hnb13 := NB284_283.out
     have hnc13 := NB283_284.out
     obtain ⟨hcz14_0, hcz14_1, hfz14_0, hfz14_1⟩ := c2_ BK284.out
     go_wp2_with (first | ((with_reducible refine gate_builtin (b := .append) (xs := #[.tmp 13, .tmp 14]) rfl ?_); at_builtin; refine Kd.R_append Kd.bool (w0 := w) w.heap.size rfl (.tmp 13) (.tmp 14) 38 4 (.bool false) 1 rfl Try.underlying38 info4 rfl (by decide) (by omega) u285000 x285000_1 true [.bool true] (fun _ => True) (fun _ => False) rfl rfl ?aP (fun _ hk => hk.elim) ?aF ?aO ?aB ?aS ?aL ?_; (case aP => exact rfl); (case aB => exact bl_); (case aF => exact (fun _ _ => trivial)); (case aO => exact (Kd.pR HO_285000.out)); (case aS => exact (bz_ bl_)); (case aL => have := LMc9.out; omega); intro v286 w15 ho hb hg hat; rw [← Ny285.out] at ho; have n0_ := ak_ (blk_grown (pk BK282.out) hg (Kd.R_ne HO_285000.out BK282.out (by decide))); have n1_ := ak_ (blk_grown (pk BK283.out) hg (Kd.R_ne HO_285000.out BK283.out (by decide))); have n2_ := ak_ (blk_grown (pk BK284.out) hg (Kd.R_ne HO_285000.out BK284.out (by decide))); have n3_ := ak_ (hb); have n4_ := ak_ (ho); clear BK282; clear BK283; clear BK284; clear HB; clear HO_285000; have BK282 := n0_; have BK283 := n1_; have BK284 := n2_; have HB := n3_; have HO287 := n4_; clear n0_ n1_ n2_ n3_ n4_; clear ho hb hg hat; obtain ⟨Ao16, co16, eo16⟩ := Kd.R_slice HO287.out; subst eo16; obtain ⟨hcz17_0, hcz17_1, hfz17_0, hfz17_1⟩ := c2_ BK284.out))
     go_roundg k1
     case measure => have := HK1.out; omega
     case rel => exact ⟨(wrap64 (x4_1 + 1)), (y285), (.slice Ao16 y285.length co16), (ry_), H', ⟨by have := HK1.out; omega⟩, ⟨by (with_reducible repeat (first | apply Kd.R_alloc | apply Kd.R_drewN | apply Kd.R_drew)); exact Kd.R_mono (Kd.R_far (p := ⟨gb284, 0, none⟩) (Kd.R_types HO287.out BK284.out (by decide)) (fun _ hk => hk.2) (.slice Ao16 y285.length co16)) (fun _ hk => trivial)⟩, ⟨by (with_reducible repeat (first | refine kN_ ?_ _ | refine k1_ ?_ | refine ka_ ?_ _)); refine blk_far ?_ NB282_284.out _; exact pk BK282.out⟩, ⟨by (with_reducible repeat (first | refine kN_ ?_ _ | refine k1_ ?_ | refine ka_ ?_ _)); refine blk_far ?_ NB283_284.out _; exact pk BK283.out⟩, ⟨by (with_reducible repeat (first | refine kN_ ?_ _ | refine k1_ ?_ | refine ka_ ?_ _)); refine blk_put (cs := #[u285000, .bool true]) ?_ 0 _ rfl; exact pk BK284.out⟩, ⟨by repeat (first | exact HB.out | apply ba_ | apply bN_ | apply b1_ | refine below_set ?_ (Aside0.out (by assumption)))⟩⟩
    ·
     rw [if_neg c9] at H
     exact absurd H (by simp)
   ·
    rw [if_neg c8] at H
    have c8b0 : decide (x4_1 < a0_0) = false := decide_eq_false c8
    clear c8
    simp only [Option.some.injEq, Prod.mk.injEq] at H
    obtain ⟨rfl, rfl⟩ := H
    have hnb18 := NB282_283.out
    have hnc18 := NB283_282.out
    have hnb19 := NB282_284.out
    have hnc19 := NB284_282.out
    obtain ⟨hcz20_0, hcz20_1, hcz20_2, hfz20_0, hfz20_1, hfz20_2⟩ := c3_ BK282.out
    have hnb21 := NB284_283.out
    have hnc21 := NB283_284.out
    obtain ⟨hcz22_0, hcz22_1, hfz22_0, hfz22_1⟩ := c2_ BK284.out
    obtain ⟨Ao23, co23, eo23⟩ := Kd.R_slice HO_285000.out
    subst eo23
    obtain ⟨hcz24_0, hcz24_1, hfz24_0, hfz24_1⟩ := c2_ BK283.out
    go_wp2
    refine bodyPost_ret (results_cell_row rfl _ _ gb283 90 #[.slice Ao23 x285000_1.length co23, .bool true] (0, 0) _ rfl (by (with_reducible repeat (first | refine kN_ ?_ _ | refine k1_ ?_ | refine ka_ ?_ _)); refine blk_put (cs := #[.slice Ao23 x285000_1.length co23, .bool false]) ?_ 1 _ rfl; (with_reducible repeat (first | refine kN_ ?_ _ | refine k1_ ?_ | refine ka_ ?_ _)); refine blk_put (cs := #[.slice none 0 0, .bool false]) ?_ 0 _ rfl; exact pk BK283.out) Try.underlying90 rfl (by kernel_rfl)) rfl ?_
    exact ⟨_, rx_, by (with_reducible repeat (first | apply Kd.R_alloc | apply Kd.R_drewN | apply Kd.R_drew)); exact Kd.R_mono (Kd.R_far (p := ⟨gb283, 1, none⟩) (Kd.R_far (p := ⟨gb283, 0, none⟩) (Kd.R_types HO_285000.out BK283.out (by decide)) (fun _ hk => hk.2) (.slice Ao23 x285000_1.length co23)) (fun _ hk => hk.2) (.bool true)) (fun _ hk => trivial), by repeat (first | exact HB.out | apply ba_ | apply bN_ | apply b1_ | refine below_set ?_ (Aside0.out (by assumption)))⟩
def spec_seState.l0 : Nat → Int → Int → Int → Int → List Bool → Bool → Option (List Bool × Bool)
 | 0, _, _, _, _, _, _ => none
 | k + 1, x0, x1, x16, x17, x293000, x293001 => if x17 < x16 then (if 0 ≤ (wrap64 ((wrap64 (x1 - 1)) - x17)) then (if 0 ≤ x17 then (if x17 < (x293000.length : Int) then (spec_seState.l0 k x0 x1 x16 (wrap64 (x17 + 1)) (x293000.set (x17 : Int).toNat ((Go.bits .and .i64 (shr .i64 x0 (wrap64 ((wrap64 (x1 - 1)) - x17))) 1) == 1)) x293001) else (none)) else (none)) else (none)) else (some (x293000, x293001))
def spec_seState.f (k : Nat) (a0 : Int) (a1 : Int) : Option (List Bool × Bool) := if 0 ≤ a1 then (if (a1 : Int).toNat ≤ 281474976710656 then ((some (List.replicate (a1 : Int).toNat false : List Bool)).bind fun y289 => (spec_seState.l0 k a0 a1 (y289.length : Int) 0 y289 ((shr .i64 a0 a1) == 1))) else (none)) else (none)
theorem spec_seState.mono_l : ∀ k, (∀ y0 y1 y2 y3 y4 y5, LeO (spec_seState.l0 k y0 y1 y2 y3 y4 y5) (spec_seState.l0 (k + 1) y0 y1 y2 y3 y4 y5))
 | 0 => fun _ _ _ _ _ _ r h => by simp [spec_seState.l0] at h
 | k + 1 => by
  have ih0 := spec_seState.mono_l k
  ·intro y0 y1 y2 y3 y4 y5
   unfold spec_seState.l0
   repeat' first
   | (with_reducible first | exact ih0 _ _ _ _ _ _ | exact LeO.refl _ | exact LeO.none _ | refine LeO.ite ?_ ?_ | refine LeO.bind ?_ (fun _ => ?_))
theorem spec_seState.mono : ∀ a0 a1 k, LeO (spec_seState.f k a0 a1) (spec_seState.f (k + 1) a0 a1) := by
 intro a0 a1 k
 have ih0 := spec_seState.mono_l k
 unfold spec_seState.f
 repeat' first
  | (with_reducible first | exact ih0 _ _ _ _ _ _ | exact LeO.refl _ | exact LeO.none _ | refine LeO.ite ?_ ?_ | refine LeO.bind ?_ (fun _ => ?_))
def spec_seState.T1 : Bool × List (List Nat × List Nat) := (true, [([], []), ([0, 0], [0]), ([], []), ([], []), ([2, 3], [2, 3]), ([4], [4]), ([1, 5], [1, 5]), ([], []), ([7, 6, 0, 1, 2, 3, 4, 5, 6, 7], [6, 7])])
def spec_seState.B1 : List Nat := [0, 1, 0, 0, 12, 28, 63, 0, 255]
theorem spec_seState.tab1 : rtab .any (opsOf Try.f94 1) = spec_seState.T1 := by kernel_rfl
theorem spec_seState.bits1 : waitsOk spec_seState.T1.2 spec_seState.B1 = true := by kernel_rfl
def spec_seState.T5 : Bool × List (List Nat × List Nat) := (true, [([], []), ([0], [0]), ([], []), ([], []), ([], []), ([4], [4]), ([], []), ([5, 6], [5, 6]), ([3, 7], [3, 7]), ([8], [8]), ([9], [9]), ([1, 2, 0, 1, 2, 3, 4, 5, 6, 7, 8, 9, 10], [1, 2]), ([11, 10, 0, 1, 2, 3, 4, 5, 6, 7, 8, 9, 10], [10, 11])])
def spec_seState.B5 : List Nat := [0, 1, 0, 0, 0, 16, 0, 112, 248, 504, 1016, 2047, 4095]
theorem spec_seState.tab5 : rtab .any (opsOf Try.f94 5) = spec_seState.T5 := by kernel_rfl
theorem spec_seState.bits5 : waitsOk spec_seState.T5.2 spec_seState.B5 = true := by kernel_rfl
theorem spec_seState.calls (k : Nat) (a0 : Int) (a1 : Int) (r1 : List Bool) (r2 : Bool) (w : World) (h : spec_seState.f k a0 a1 = some (r1, r2)) :
  Calls Try.prog 94 #[.int .i64 a0, .int .i64 a1] w fun e w' => ∃ v0_ : Value, e = .returned (.agg #[v0_, .bool r2]) ∧ Kd.R Kd.bool 4 w' w.heap.size (fun _ => True) v0_ r1 ∧ Below w.heap.size w w' := by
 have hu115 := Try.underlying115
 have HB := ak_ (Below.refl w.heap.size w)
 have H : (if 0 ≤ a1 then (if (a1 : Int).toNat ≤ 281474976710656 then ((some (List.replicate (a1 : Int).toNat false : List Bool)).bind fun y289 => (spec_seState.l0 k a0 a1 (y289.length : Int) 0 y289 ((shr .i64 a0 a1) == 1))) else (none)) else (none)) = some (r1, r2) := h
 clear h
 by_cases c3 : 0 ≤ a1
 ·
  rw [if_pos c3] at H
  have c3b0 := eq_true c3
  have c3b1 : decide (0 ≤ a1) = true := decide_eq_true c3
  clear c3
  by_cases c4 : (a1 : Int).toNat ≤ 281474976710656
  ·
   rw [if_pos c4] at H
   have c4b0 := eq_true c4
   have c4b1 : decide ((a1 : Int).toNat ≤ 281474976710656) = true := decide_eq_true c4
   clear c4
   obtain ⟨y289, hy289⟩ : ∃ y_ : List Bool, y_ = (List.replicate (a1 : Int).toNat false) := ⟨_, rfl⟩
   replace H : (spec_seState.l0 k a0 a1 (y289.length : Int) 0 y289 ((shr .i64 a0 a1) == 1)) = some (r1, r2) := by first | (rw [hy289]; exact H) | exact H
   have Ny289 := ak_ hy289
   clear hy289
   have c5b0 := eq_true (odt_ (by assumption) : 0 ≤ a1)
   obtain ⟨ji6, hji6⟩ : ∃ j_ : Int, (shr .i64 a0 a1) = j_ := ⟨_, rfl⟩
   replace H : (spec_seState.l0 k a0 a1 (y289.length : Int) 0 y289 ((ji6) == 1)) = some (r1, r2) := by first | (rw [hji6] at H; exact H) | (simp only [hji6] at H ⊢; exact H)
   have hji6_ : (a0 / 2 ^ min a1.toNat 64) = ji6 := hji6
   have hji6z : a1 ≤ 64 → (a0 / 2 ^ a1.toNat) = ji6 := shr_small hji6
   have H' := ak_ H
   clear H
   go_enter Try.func94, Try.ntmps94
   try go_wp2_with (first | ((with_reducible refine gate_dst (N := 4) rfl ?_); refine bx_ 4 #[.slice none 0 0, .bool false] 115 ?_; intro gb288 hg w7 hbox hb; have n0_ := ak_ (bs_ (bb_ HB.out) hb); have n1_ := ak_ (hbox); have n2_ := ak_ ((by rw [hg]; exact (bz_ (bb_ HB.out)) : w.heap.size ≤ gb288)); have n3_ := n2_; clear HB; have HB := n0_; have BK288 := n1_; have GW288 := n2_; have GE288 := n3_; clear n0_ n1_ n2_ n3_; clear hb hbox hg))
   have n0_ := ak_ (k1_ BK288.out)
   have n1_ := ak_ (b1_ HB.out)
   clear BK288 HB
   have BK288 := n0_; have HB := n1_
   clear n0_ n1_
   refine start_ (n := 9) (S := fun w' => True) (ds := []) (mb_ 9 0) (by kernel_rfl) rfl rfl trivial (fun hHeld => ?_); refine with_tabW spec_seState.tab1 spec_seState.bits1 (fun HT_ HW_ => ?_)
   generalize w7.drew = w8 at BK288 HB hHeld ⊢
   refine pu_ 0 7 9 1 ?_
   refine pu_ 2 9 9 5 ?_
   refine pu_ 3 10 9 13 ?_
   refine pu_ 4 11 9 29 ?_
   refine pu_ 5 12 9 61 ?_
   refine join_ (σ := Value × Nat) 1 (mb_ 9 255) (fun s_ => [(8, s_.1), (5, .pointer (some ⟨s_.2, 0, none⟩)), (13, .agg #[s_.1, .bool ((ji6) == 1)])]) (fun s_ w' => (Kd.R Kd.bool 4 w' w.heap.size (fun _ => True) s_.1 y289) ∧ (w'.heap[gb288]? = some (.cells #[.slice none 0 0, .bool false] 115 (0, 0))) ∧ (w'.heap[s_.2]? = some (.cells #[.slice none 0 0, .bool false] 115 (0, 0))) ∧ (w.heap.size ≤ s_.2) ∧ (w.heap.size ≤ s_.2) ∧ (gb288 ≠ s_.2) ∧ (s_.2 ≠ gb288) ∧ (Below w.heap.size w w')) ?_ ?_
   rotate_left
   ·
    intro hCont
    refine two_ (i := 1) (j := 7) (Ni := some 8) (Nj := some 5) (mb_ 9 63) (mb_ 9 189) rfl rfl rfl rfl (two_of HT_.out (by kernel_rfl)) (by decide) (by decide) (fun K hK => ?_) (fun K hK => ?_)
    ·
     skip
     refine Kd.R_make_step Kd.bool _ 4 (by rfl) (N := 8) rfl 38 _ _ rfl a1 rfl rfl Try.underlying38 (.bool false) 1 info4 rfl (by decide) (by omega) false (ok := fun _ => True) (okp := fun _ => True) rfl (fun _ hk => hk) trivial (odt_ (by assumption)) (Nat.le_trans (Nat.mul_le_mul_right _ (odt_ (by assumption) : a1.toNat ≤ 281474976710656)) (by omega)) (Below.refl _ _) (Nat.le_refl _) ?_
     intro v290 w9 ho10 hb hg_ hnew_
     clear hg_ hnew_
     (first | rw [← Ny289.out] at ho10 | (simp only [Int.reduceToNat] at ho10; rw [← Ny289.out] at ho10))
     have n0_ := ak_ (Kd.R_lower ho10 (bz_ bl_))
     have n1_ := ak_ (blk_below (pk BK288.out) hb)
     have n2_ := ak_ (bs_ bl_ hb)
     clear BK288 HB
     have HO291 := n0_; have BK288 := n1_; have HB := n2_
     clear n0_ n1_ n2_ hb ho10
     obtain ⟨Ao11, co11, eo11⟩ := Kd.R_slice HO291.out
     (first | subst eo11 | (injection eo11 with f1_ f2_ f3_; have f4_ := f1_.symm; have f5_ := f3_.symm; clear f1_ f2_ f3_; subst f4_; subst f5_))
     refine hK.out _ _ trivial (fun hHeld => ?_)
     clear hK K
     refine nm_ ?_
     refine pu_ 6 13 9 127 ?_
     refine on_ 7 5 9 255 (fun K hK => ?_)
     refine box_step ?hg (N := 5) ?hd (cs := #[.slice none 0 0, .bool false]) (t := 115) ?hr ?_; (case hd => rfl); (case hg => rfl); (case hr => go_simp <;> rfl)
     intro gb292 hg w12 hbox hb
     have n0_ := ak_ (Kd.R_below (Kd.pR HO291.out) hb)
     have n1_ := ak_ (blk_below (pk BK288.out) hb)
     have n2_ := ak_ (bs_ bl_ hb)
     have n3_ := ak_ (hbox)
     have n4_ := ak_ ((by rw [hg]; exact (bz_ bl_) : w.heap.size ≤ gb292))
     have n5_ := n4_
     have n6_ := ak_ ((by rw [hg]; exact Nat.ne_of_lt (blk_lt (pk BK288.out)) : gb288 ≠ gb292))
     have n7_ := ak_ n6_.out.symm
     clear HO291 BK288 HB
     have HO291 := n0_; have BK288 := n1_; have HB := n2_; have BK292 := n3_; have GW292 := n4_; have GE292 := n5_; have NB288_292 := n6_; have NB292_288 := n7_
     clear n0_ n1_ n2_ n3_ n4_ n5_ n6_ n7_ hb hbox hg
     refine hK.out _ _ trivial (fun hHeld => ?_)
     clear hK K
     refine nm_ ?_
     exact norm_ (by simp only [putAll, Act.put, setIfInBounds_toArray, set_cons_zero, set_cons_succ]) (hCont (.slice Ao11 y289.length co11, gb292) _ ⟨(Kd.pR HO291.out), (pk BK288.out), (pk BK292.out), GW292.out, GE292.out, NB288_292.out, NB292_288.out, bl_⟩)
    ·
     skip
     refine box_step ?hg (N := 5) ?hd (cs := #[.slice none 0 0, .bool false]) (t := 115) ?hr ?_; (case hd => rfl); (case hg => rfl); (case hr => go_simp <;> rfl)
     intro gb292 hg w9 hbox hb
     have n0_ := ak_ (blk_below (pk BK288.out) hb)
     have n1_ := ak_ (bs_ bl_ hb)
     have n2_ := ak_ (hbox)
     have n3_ := ak_ ((by rw [hg]; exact (bz_ bl_) : w.heap.size ≤ gb292))
     have n4_ := n3_
     have n5_ := ak_ ((by rw [hg]; exact Nat.ne_of_lt (blk_lt (pk BK288.out)) : gb288 ≠ gb292))
     have n6_ := ak_ n5_.out.symm
     clear BK288 HB
     have BK288 := n0_; have HB := n1_; have BK292 := n2_; have GW292 := n3_; have GE292 := n4_; have NB288_292 := n5_; have NB292_288 := n6_
     clear n0_ n1_ n2_ n3_ n4_ n5_ n6_ hb hbox hg
     refine hK.out _ _ trivial (fun hHeld => ?_)
     clear hK K
     refine nm_ ?_
     refine on_ 1 8 9 191 (fun K hK => ?_)
     refine Kd.R_make_step Kd.bool _ 4 (by rfl) (N := 8) rfl 38 _ _ rfl a1 rfl rfl Try.underlying38 (.bool false) 1 info4 rfl (by decide) (by omega) false (ok := fun _ => True) (okp := fun _ => True) rfl (fun _ hk => hk) trivial (odt_ (by assumption)) (Nat.le_trans (Nat.mul_le_mul_right _ (odt_ (by assumption) : a1.toNat ≤ 281474976710656)) (by omega)) (Below.refl _ _) (Nat.le_refl _) ?_
     intro v290 w10 ho11 hb hg_ hnew_
     clear hg_ hnew_
     (first | rw [← Ny289.out] at ho11 | (simp only [Int.reduceToNat] at ho11; rw [← Ny289.out] at ho11))
     have n0_ := ak_ (Kd.R_lower ho11 (bz_ bl_))
     have n1_ := ak_ (blk_below (pk BK288.out) hb)
     have n2_ := ak_ (blk_below (pk BK292.out) hb)
     have n3_ := ak_ (bs_ bl_ hb)
     clear BK288 BK292 HB
     have HO291 := n0_; have BK288 := n1_; have BK292 := n2_; have HB := n3_
     clear n0_ n1_ n2_ n3_ hb ho11
     obtain ⟨Ao12, co12, eo12⟩ := Kd.R_slice HO291.out
     (first | subst eo12 | (injection eo12 with f1_ f2_ f3_; have f4_ := f1_.symm; have f5_ := f3_.symm; clear f1_ f2_ f3_; subst f4_; subst f5_))
     refine hK.out _ _ trivial (fun hHeld => ?_)
     clear hK K
     refine nm_ ?_
     refine pu_ 6 13 9 255 ?_
     exact norm_ (by simp only [putAll, Act.put, setIfInBounds_toArray, set_cons_zero, set_cons_succ]) (hCont (.slice Ao12 y289.length co12, gb292) _ ⟨(Kd.pR HO291.out), (pk BK288.out), (pk BK292.out), GW292.out, GE292.out, NB288_292.out, NB292_288.out, bl_⟩)
   rintro ⟨v290, gb292⟩ w13 ⟨h0_, h1_, h2_, h3_, h4_, h5_, h6_, h7_⟩
   have n0_ : Aside0 (Kd.R Kd.bool 4 w13 w.heap.size (fun _ => True) v290 y289) := ⟨h0_⟩
   have n1_ : Aside0 (w13.heap[gb288]? = some (.cells #[.slice none 0 0, .bool false] 115 (0, 0))) := ⟨h1_⟩
   have n2_ : Aside0 (w13.heap[gb292]? = some (.cells #[.slice none 0 0, .bool false] 115 (0, 0))) := ⟨h2_⟩
   have n3_ : Aside0 (w.heap.size ≤ gb292) := ⟨h3_⟩
   have n4_ : Aside0 (w.heap.size ≤ gb292) := ⟨h4_⟩
   have n5_ : Aside0 (gb288 ≠ gb292) := ⟨h5_⟩
   have n6_ : Aside0 (gb292 ≠ gb288) := ⟨h6_⟩
   have n7_ : Aside0 (Below w.heap.size w w13) := ⟨h7_⟩
   clear BK288 HB h0_ h1_ h2_ h3_ h4_ h5_ h6_ h7_
   have HO291 := n0_; have BK288 := n1_; have BK292 := n2_; have GW292 := n3_; have GE292 := n4_; have NB288_292 := n5_; have NB292_288 := n6_; have HB := n7_
   clear n0_ n1_ n2_ n3_ n4_ n5_ n6_ n7_
   have hHeld := trivial
   obtain ⟨Ao14, co14, eo14⟩ := Kd.R_slice HO291.out
   (first | subst eo14 | (injection eo14 with f1_ f2_ f3_; have f4_ := f1_.symm; have f5_ := f3_.symm; clear f1_ f2_ f3_; subst f4_; subst f5_))
   refine norm_ (a' := ?_) ?_ ?_
   rotate_left
   ·
    simp only [putAll, Act.put, setIfInBounds_toArray, set_cons_zero, set_cons_succ]
    rfl
   refine one_ (i := 8) (N := none) (mb_ 9 511) rfl rfl (one_of HT_.out (by kernel_rfl)) (by decide) (fun K hK => ?_)
   have hs15 : w13.cell? ⟨gb292, 0, none⟩ = some (.slice none 0 0) := (blk_cell BK292.out 0).trans rfl
   have hfs15 := blk_frozen BK292.out 0
   have hns15_0 := NB288_292.out
   have hms15_0 := NB292_288.out
   have hs16 : w13.cell? ⟨gb292, 1, none⟩ = some (.bool false) := (blk_cell BK292.out 1).trans rfl
   have hfs16 := blk_frozen BK292.out 1
   have hns16_0 := NB288_292.out
   have hms16_0 := NB292_288.out
   refine skip_ (w1 := ?_) (by rfl) rfl ?_ ?_
   rotate_left
   ·
    go_simp
    rfl
   refine hK.out _ _ trivial (fun hHeld => ?_)
   clear hK K
   refine done_ (done_of HT_.out (by kernel_rfl)) ?_
   have hnb17 := NB292_288.out
   have hnc17 := NB288_292.out
   obtain ⟨hcz18_0, hcz18_1, hfz18_0, hfz18_1⟩ := c2_ BK292.out
   try go_wp2
   go_loopg [17] k (fun kq v17 w' => ∃ (x17_1 : Int) (x293000_1 : List Bool) (u293000 : Value), v17 = .int .i64 x17_1 ∧ Aside0 (spec_seState.l0 kq a0 a1 (y289.length : Int) x17_1 x293000_1 ((ji6) == 1) = some (r1, r2)) ∧ Aside0 (kq ≤ k) ∧ Aside0 (Kd.R Kd.bool 4 w' w.heap.size (fun _ => True) u293000 x293000_1) ∧ Aside0 (w'.heap[gb288]? = some (.cells #[(.slice none 0 0), .bool false] 115 (0, 0))) ∧ Aside0 (w'.heap[gb292]? = some (.cells #[u293000, .bool ((ji6) == 1)] 115 (0, 0))) ∧ Aside0 (Below w.heap.size w w'))
   case atStart => exact ⟨(0), (y289), (.slice Ao14 y289.length co14), (ry_), H', ⟨Nat.le_refl _⟩, ⟨by (with_reducible repeat (first | apply Kd.R_alloc | apply Kd.R_drewN | apply Kd.R_drew)); exact Kd.R_mono (Kd.R_far (p := ⟨gb292, 1, none⟩) (Kd.R_far (p := ⟨gb292, 0, none⟩) (Kd.R_types HO291.out BK292.out (by decide)) (fun _ hk => hk.2) (.slice Ao14 y289.length co14)) (fun _ hk => hk.2) (.bool ((ji6) == 1))) (fun _ hk => trivial)⟩, ⟨by (with_reducible repeat (first | refine kN_ ?_ _ | refine k1_ ?_ | refine ka_ ?_ _)); refine blk_far ?_ NB288_292.out _; (with_reducible repeat (first | refine kN_ ?_ _ | refine k1_ ?_ | refine ka_ ?_ _)); refine blk_far ?_ NB288_292.out _; exact pk BK288.out⟩, ⟨by (with_reducible repeat (first | refine kN_ ?_ _ | refine k1_ ?_ | refine ka_ ?_ _)); refine blk_put (cs := #[.slice Ao14 y289.length co14, .bool false]) ?_ 1 _ rfl; (with_reducible repeat (first | refine kN_ ?_ _ | refine k1_ ?_ | refine ka_ ?_ _)); refine blk_put (cs := #[.slice none 0 0, .bool false]) ?_ 0 _ rfl; exact pk BK292.out⟩, ⟨by repeat (first | exact HB.out | apply ba_ | apply bN_ | apply b1_ | refine below_set ?_ (Aside0.out (by assumption)))⟩⟩
   case round =>
    clear H'
    try clear c1
    try clear p2
    try clear c3
    try clear c3b0
    try clear c3b1
    try clear c4
    try clear c4b0
    try clear c4b1
    try clear c5
    try clear c5b0
    try clear c9
    try clear c17
    try clear hcz18_0
    try clear hcz18_1
    try clear hfz18_0
    try clear hfz18_1
    obtain ⟨x17_1, x293000_1, u293000, rfl, HA, HK1, HO_293000, BK288, BK292, HB⟩ := hrel
    cases gk with
    | zero => exact absurd HA.out (by simp [spec_seState.l0])
    | succ k1 =>
     have H := HA.out
     clear HA
     simp only [spec_seState.l0] at H
     by_cases c19 : x17_1 < (y289.length : Int)
     ·
      rw [if_pos c19] at H
      have c19b0 : decide (x17_1 < (y289.length : Int)) = true := decide_eq_true c19
      clear c19
      obtain ⟨ji20, hji20⟩ : ∃ j_ : Int, (wrap64 ((wrap64 (a1 - 1)) - x17_1)) = j_ := ⟨_, rfl⟩
      replace H : (if 0 ≤ (ji20) then (if 0 ≤ x17_1 then (if x17_1 < (x293000_1.length : Int) then (spec_seState.l0 k1 a0 a1 (y289.length : Int) (wrap64 (x17_1 + 1)) (x293000_1.set (x17_1 : Int).toNat ((Go.bits .and .i64 (shr .i64 a0 (ji20)) 1) == 1)) ((ji6) == 1)) else (none)) else (none)) else (none)) = some (r1, r2) := by first | (rw [hji20] at H; exact H) | (simp only [hji20] at H ⊢; exact H)
      have hji20w : (IntKind.i64.wrap ((wrap64 (a1 - 1)) - x17_1)) = ji20 := (i64_w _).trans hji20
      by_cases c21 : 0 ≤ (ji20)
      ·
       rw [if_pos c21] at H
       have c21b0 := eq_true c21
       have c21b1 : decide (0 ≤ (ji20)) = true := decide_eq_true c21
       clear c21
       obtain ⟨ji22, hji22⟩ : ∃ j_ : Int, (shr .i64 a0 (ji20)) = j_ := ⟨_, rfl⟩
       replace H : (if 0 ≤ x17_1 then (if x17_1 < (x293000_1.length : Int) then (spec_seState.l0 k1 a0 a1 (y289.length : Int) (wrap64 (x17_1 + 1)) (x293000_1.set (x17_1 : Int).toNat ((Go.bits .and .i64 (ji22) 1) == 1)) ((ji6) == 1)) else (none)) else (none)) = some (r1, r2) := by first | (rw [hji22] at H; exact H) | (simp only [hji22] at H ⊢; exact H)
       have hji22_ : (a0 / 2 ^ min (ji20).toNat 64) = ji22 := hji22
       have hji22z : (ji20) ≤ 64 → (a0 / 2 ^ (ji20).toNat) = ji22 := shr_small hji22
       by_cases c23 : 0 ≤ x17_1
       ·
        rw [if_pos c23] at H
        have c23b0 : decide (0 ≤ x17_1) = true := decide_eq_true c23
        clear c23
        by_cases c24 : x17_1 < (x293000_1.length : Int)
        ·
         rw [if_pos c24] at H
         have c24b0 : decide (x17_1 < (x293000_1.length : Int)) = true := decide_eq_true c24
         clear c24
         obtain ⟨y293, hy293⟩ : ∃ y_ : List Bool, y_ = (x293000_1.set (x17_1 : Int).toNat ((Go.bits .and .i64 (ji22) 1) == 1)) := ⟨_, rfl⟩
         replace H : (spec_seState.l0 k1 a0 a1 (y289.length : Int) (wrap64 (x17_1 + 1)) y293 ((ji6) == 1)) = some (r1, r2) := by first | (rw [hy293]; exact H) | exact H
         have Ny293 := ak_ hy293
         clear hy293
         have H' := ak_ H
         clear H
         try go_wp2
         have n0_ := ak_ (Kd.R_drew HO_293000.out)
         have n1_ := ak_ (k1_ BK288.out)
         have n2_ := ak_ (k1_ BK292.out)
         have n3_ := ak_ (b1_ HB.out)
         clear HO_293000 BK288 BK292 HB
         have HO_293000 := n0_; have BK288 := n1_; have BK292 := n2_; have HB := n3_
         clear n0_ n1_ n2_ n3_
         have p25 : 0 ≤ (x17_1 : Int) := odt_ (by assumption)
         have q25 : (x17_1 : Int) < ((x293000_1.length : Int) : Int) := odt_ (by assumption)
         obtain ⟨go25, co25, eo25, gb25, gl25, cl25, HG25⟩ := Kd.R_form HO_293000.out (by omega)
         (first | cases eo25 | (injection eo25 with ea_ en_ ec_; (first | subst ea_ | (injection ea_ with ea_; subst ea_)); subst ec_; clear en_))
         have GB25 := ak_ gb25
         have GG25 := ak_ HG25
         clear gb25 gl25 HG25
         obtain ⟨hx25_0, hf25_0⟩ := Kd.R_celln false HO_293000.out (x17_1 : Int) p25 q25
         replace p25 := eq_true p25
         replace q25 := eq_true q25
         have HP27 := Kd.R_putn HO_293000.out (x17_1 : Int) ((Go.bits .and .i64 (ji22) 1) == 1)
         rw [← Ny293.out] at HP27
         have HQ27 := ak_ HP27
         clear HP27
         refine start_ (n := 13) (S := fun w' => w'.cell? ⟨gb292, 0, none⟩ = some (.slice (some ⟨go25, 0, none⟩) x293000_1.length co25) ∧ w'.cell? ⟨gb292, 1, none⟩ = some (.bool ((ji6) == 1))) (ds := [12]) (mb_ 13 0) (by kernel_rfl) rfl rfl ⟨(blk_cell BK292.out 0).trans rfl, (blk_cell BK292.out 1).trans rfl⟩ (fun hHeld => ?_); refine with_tabW spec_seState.tab5 spec_seState.bits5 (fun HT_ HW_ => ?_)
         generalize wr.drew = w26 at HO_293000 BK288 BK292 HB GG25 HQ27 hf25_0 hx25_0 hHeld ⊢
         refine pu_ 0 20 13 1 ?_
         refine pu_ 2 22 13 5 ?_
         refine pu_ 3 23 13 13 ?_
         refine pu_ 4 24 13 29 ?_
         refine pu_ 5 25 13 61 ?_
         refine pu_ 6 26 13 125 ?_
         refine pu_ 7 27 13 253 ?_
         refine pu_ 8 28 13 509 ?_
         refine pu_ 9 29 13 1021 ?_
         refine pu_ 10 30 13 2045 ?_
         refine tk_ 1 21 13 2047 ?_ (hy := by rintro w' ⟨s0, s1⟩; go_simp; with_reducible rfl)
         refine pu_ 11 31 13 4095 ?_
         refine last_ (i := 12) (N := none) (mb_ 13 8191) rfl rfl (one_of HT_.out (by kernel_rfl)) (by decide) (fun K hK => ?_)
         refine skip_ (w1 := ?_) (by rfl) rfl ?_ ?_
         rotate_left
         ·
          go_simp
          rfl
         refine hK.out _ _ ?_
         clear hK K
         refine done_ (done_of HT_.out (by kernel_rfl)) ?_
         try go_wp2
         go_roundg k1
         case measure => have := HK1.out; omega
         case rel => exact ⟨(wrap64 (x17_1 + 1)), (y293), (.slice (some ⟨go25, 0, none⟩) x293000_1.length co25), (ry_), H', ⟨by have := HK1.out; omega⟩, ⟨Kd.pR HQ27.out⟩, ⟨by (with_reducible repeat (first | refine kN_ ?_ _ | refine k1_ ?_ | refine ka_ ?_ _)); refine blk_far ?_ (by have h_ := Kd.R_ne HO_293000.out BK288.out (by decide); intro e_; exact h_ (by rw [e_]; rfl)) _; exact pk BK288.out⟩, ⟨by (with_reducible repeat (first | refine kN_ ?_ _ | refine k1_ ?_ | refine ka_ ?_ _)); refine blk_far ?_ (by have h_ := Kd.R_ne HO_293000.out BK292.out (by decide); intro e_; exact h_ (by rw [e_]; rfl)) _; exact pk BK292.out⟩, ⟨by repeat (first | exact HB.out | apply ba_ | apply bN_ | apply b1_ | refine below_set ?_ GB25.out | refine below_set ?_ (Aside0.out (by assumption)))⟩⟩
        ·
         rw [if_neg c24] at H
         exact absurd H (by simp)
       ·
        rw [if_neg c23] at H
        exact absurd H (by simp)
      ·
       rw [if_neg c21] at H
       exact absurd H (by simp)
     ·
      rw [if_neg c19] at H
      have c19b0 : decide (x17_1 < (y289.length : Int)) = false := decide_eq_false c19
      clear c19
      simp only [Option.some.injEq, Prod.mk.injEq] at H
      obtain ⟨rfl, rfl⟩ := H
      have hnb28 := NB292_288.out
      have hnc28 := NB288_292.out
      obtain ⟨hcz29_0, hcz29_1, hfz29_0, hfz29_1⟩ := c2_ BK292.out
      obtain ⟨Ao30, co30, eo30⟩ := Kd.R_slice HO_293000.out
      subst eo30
      obtain ⟨hcz31_0, hcz31_1, hfz31_0, hfz31_1⟩ := c2_ BK288.out
      go_wp2
      refine bodyPost_ret (results_cell_row rfl _ _ gb288 115 #[.slice Ao30 x293000_1.length co30, .bool ((ji6) == 1)] (0, 0) _ rfl (by (with_reducible repeat (first | refine kN_ ?_ _ | refine k1_ ?_ | refine ka_ ?_ _)); refine blk_put (cs := #[.slice Ao30 x293000_1.length co30, .bool false]) ?_ 1 _ rfl; (with_reducible repeat (first | refine kN_ ?_ _ | refine k1_ ?_ | refine ka_ ?_ _)); refine blk_put (cs := #[.slice none 0 0, .bool false]) ?_ 0 _ rfl; exact pk BK288.out) Try.underlying115 rfl (by kernel_rfl)) rfl ?_
      exact ⟨_, by first | rfl | (simp [errW_none, errW_some] <;> rfl) | (simp only [← hji6]; first | rfl | (simp [errW_none, errW_some] <;> rfl)) | (simp [*, errW_none, errW_some] <;> rfl), by (with_reducible repeat (first | apply Kd.R_alloc | apply Kd.R_drewN | apply Kd.R_drew)); exact Kd.R_mono (Kd.R_far (p := ⟨gb288, 1, none⟩) (Kd.R_far (p := ⟨gb288, 0, none⟩) (Kd.R_types HO_293000.out BK288.out (by decide)) (fun _ hk => hk.2) (.slice Ao30 x293000_1.length co30)) (fun _ hk => hk.2) (.bool ((ji6) == 1))) (fun _ hk => trivial), by repeat (first | exact HB.out | apply ba_ | apply bN_ | apply b1_ | refine below_set ?_ (Aside0.out (by assumption)))⟩
  ·
   rw [if_neg c4] at H
   exact absurd H (by simp)
 ·
  rw [if_neg c3] at H
  exact absurd H (by simp)
def spec_keBank.f (k : Nat) (a0 : Int) (a1 : Int) : Option (List Bool × Bool) := (spec_seState.f k a0 a1).bind fun bt295 => (some (bt295.1, bt295.2))
theorem spec_keBank.mono : ∀ a0 a1 k, LeO (spec_keBank.f k a0 a1) (spec_keBank.f (k + 1) a0 a1) := by
 intro a0 a1 k
 unfold spec_keBank.f
 repeat' first
  | (with_reducible first | exact spec_seState.mono _ _ _ | exact LeO.refl _ | exact LeO.none _ | refine LeO.ite ?_ ?_ | refine LeO.bind ?_ (fun _ => ?_))
theorem spec_keBank.calls (k : Nat) (a0 : Int) (a1 : Int) (r1 : List Bool) (r2 : Bool) (w : World) (h : spec_keBank.f k a0 a1 = some (r1, r2)) :
  Calls Try.prog 106 #[.int .i64 a0, .int .i64 a1] w fun e w' => ∃ v0_ : Value, e = .returned (.agg #[v0_, .bool r2]) ∧ Kd.R Kd.bool 4 w' w.heap.size (fun _ => True) v0_ r1 ∧ Below w.heap.size w w' := by
 have hu90 := Try.underlying90
 have hu115 := Try.underlying115
 have HB := ak_ (Below.refl w.heap.size w)
 have H : ((spec_seState.f k a0 a1).bind fun bt295 => (some (bt295.1, bt295.2))) = some (r1, r2) := h
 clear h
 replace H := Option.bind_eq_some_iff.mp H
 obtain ⟨⟨t295, t298⟩, A30, H⟩ := H
 replace H : (some (t295, t298)) = some (r1, r2) := H
 have A3 := ak_ A30
 clear A30
 simp only [Option.some.injEq, Prod.mk.injEq] at H
 obtain ⟨rfl, rfl⟩ := H
 go_enter Try.func106, Try.ntmps106
 go_wp2_with (first | ((with_reducible refine gate_dst (N := 4) rfl ?_); refine bx_ 4 #[.slice none 0 0, .bool false] 90 ?_; intro gb294 hg w4 hbox hb; have n0_ := ak_ (bs_ (bb_ HB.out) hb); have n1_ := ak_ (hbox); have n2_ := ak_ ((by rw [hg]; exact (bz_ (bb_ HB.out)) : w.heap.size ≤ gb294)); have n3_ := n2_; clear HB; have HB := n0_; have BK294 := n1_; have GW294 := n2_; have GE294 := n3_; clear n0_ n1_ n2_ n3_; clear hb hbox hg) | ((with_reducible refine gate_callee (f := 94) rfl ?_); refine goesL_ (some 8) rfl rfl Try.func94 (by kernel_rfl) rfl #[.int .i64 a0, .int .i64 a1] rfl (by first | rfl | (simp only [map_toArray, map_cons, map_nil]; try rfl)) ?_; (with_reducible refine (spec_seState.calls k a0 a1 t295 t298 _ A3.out).mono ?_); rintro e w5 ⟨v296, rfl, ho0, hb⟩; refine ⟨_, rfl, ?_⟩; have n0_ := ak_ (Kd.R_lower ho0 (bz_ bl_)); have n1_ := ak_ (blk_below (pk BK294.out) hb); have n2_ := ak_ (bs_ bl_ hb); clear BK294; clear HB; have HO297 := n0_; have BK294 := n1_; have HB := n2_; clear n0_ n1_ n2_; (try clear hb); (try clear hb2); (try clear hk); (try clear hi); (try clear ho0)) | ((with_reducible refine gate_dst (N := 5) rfl ?_); refine bx_ 5 #[.slice none 0 0, .bool false] 115 ?_; intro gb299 hg w6 hbox hb; have n0_ := ak_ (Kd.R_below (Kd.pR HO297.out) hb); have n1_ := ak_ (blk_below (pk BK294.out) hb); have n2_ := ak_ (bs_ bl_ hb); have n3_ := ak_ (hbox); have n4_ := ak_ ((by rw [hg]; exact (bz_ bl_) : w.heap.size ≤ gb299)); have n5_ := n4_; have n6_ := ak_ ((by rw [hg]; exact Nat.ne_of_lt (blk_lt (pk BK294.out)) : gb294 ≠ gb299)); have n7_ := ak_ n6_.out.symm; clear HO297; clear BK294; clear HB; have HO297 := n0_; have BK294 := n1_; have HB := n2_; have BK299 := n3_; have GW299 := n4_; have GE299 := n5_; have NB294_299 := n6_; have NB299_294 := n7_; clear n0_ n1_ n2_ n3_ n4_ n5_ n6_ n7_; clear hb hbox hg; obtain ⟨Ao7, co7, eo7⟩ := Kd.R_slice HO297.out; subst eo7; have hnb8 := NB299_294.out; have hnc8 := NB294_299.out; obtain ⟨hcz9_0, hcz9_1, hfz9_0, hfz9_1⟩ := c2_ BK299.out; obtain ⟨hcz10_0, hcz10_1, hfz10_0, hfz10_1⟩ := c2_ BK294.out))
 refine bodyPost_ret (results_cell_row rfl _ _ gb294 90 #[.slice Ao7 t295.length co7, .bool t298] (0, 0) _ rfl (by (with_reducible repeat (first | refine kN_ ?_ _ | refine k1_ ?_ | refine ka_ ?_ _)); refine blk_put (cs := #[.slice Ao7 t295.length co7, .bool false]) ?_ 1 _ rfl; (with_reducible repeat (first | refine kN_ ?_ _ | refine k1_ ?_ | refine ka_ ?_ _)); refine blk_put (cs := #[.slice none 0 0, .bool false]) ?_ 0 _ rfl; (with_reducible repeat (first | refine kN_ ?_ _ | refine k1_ ?_ | refine ka_ ?_ _)); refine blk_far ?_ NB294_299.out _; (with_reducible repeat (first | refine kN_ ?_ _ | refine k1_ ?_ | refine ka_ ?_ _)); refine blk_far ?_ NB294_299.out _; exact pk BK294.out) Try.underlying90 rfl (by kernel_rfl)) rfl ?_
 exact ⟨_, rx_, by (with_reducible repeat (first | apply Kd.R_alloc | apply Kd.R_drewN | apply Kd.R_drew)); exact Kd.R_mono (Kd.R_far (p := ⟨gb294, 1, none⟩) (Kd.R_far (p := ⟨gb294, 0, none⟩) (Kd.R_far (p := ⟨gb299, 1, none⟩) (Kd.R_far (p := ⟨gb299, 0, none⟩) (Kd.R_types (Kd.R_types HO297.out BK299.out (by decide)) BK294.out (by decide)) (fun _ hk => hk.1.2) (.slice Ao7 t295.length co7)) (fun _ hk => hk.1.2) (.bool t298)) (fun _ hk => hk.2) (.slice Ao7 t295.length co7)) (fun _ hk => hk.2) (.bool t298)) (fun _ hk => trivial), by repeat (first | exact HB.out | apply ba_ | apply bN_ | apply b1_ | refine below_set ?_ (Aside0.out (by assumption)))⟩
end Go.Proofs.Ythkchdfkeieabaa.QGr
